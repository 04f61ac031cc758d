import PyProof.Rows.All
import Wide.All
import OpenK.AllK
import Wide.FinOn
import HandS.ForMost
import HandS.ForExc
import HandS.Wide
import HandS.IsInst
import HandS.Deep
import HandS.TupAny
import HandS.TupMul
import KE.KeyNested
import HandS.Zip
import HandS.Conv
import HandS.Strs
import KE.GoesEnum
import HandS.Small
import HandS.SortInts
import HandS.SetFor
import KE.KTupSum
import PyProof.P3Eq
import KE.BitLaws
import KE.KDictCopyH
import HandS.TupLen
import PySem.Challenge.RW_gluedtables_k28_whole_no_greater_part
set_option Elab.async false
set_option linter.all false
set_option maxRecDepth 100000
set_option maxHeartbeats 4000000
/-! GSa: sums, and what columns come to as a product that changes its sign when two are exchanged. -/
namespace SX
def sm : Nat → (Nat → Int) → Int
  | 0, _ => 0
  | n + 1, f => sm n f + f n
theorem sm_congr : ∀ {n : Nat} {f g : Nat → Int}, (∀ i, i < n → f i = g i) → sm n f = sm n g
  | 0, _, _, _ => rfl
  | n + 1, f, g, h => by
    show sm n f + f n = sm n g + g n
    rw [sm_congr fun i hi => h i (Nat.lt_succ_of_lt hi), h n (Nat.lt_succ_self n)]
theorem sm_zero : ∀ {n : Nat} {f : Nat → Int}, (∀ i, i < n → f i = 0) → sm n f = 0
  | 0, _, _ => rfl
  | n + 1, f, h => by
    show sm n f + f n = 0
    rw [sm_zero fun i hi => h i (Nat.lt_succ_of_lt hi), h n (Nat.lt_succ_self n)]; rfl
theorem sm_add : ∀ {n : Nat} {f g : Nat → Int}, sm n (fun i => f i + g i) = sm n f + sm n g
  | 0, _, _ => rfl
  | n + 1, f, g => by
    show sm n (fun i => f i + g i) + (f n + g n) = (sm n f + f n) + (sm n g + g n)
    rw [sm_add]; omega
theorem sm_mul {a : Int} : ∀ {n : Nat} {f : Nat → Int}, sm n (fun i => a * f i) = a * sm n f
  | 0, _ => by simp [sm]
  | n + 1, f => by
    show sm n (fun i => a * f i) + a * f n = a * (sm n f + f n)
    rw [sm_mul, Int.mul_add]
theorem sm_mulR {a : Int} {n : Nat} {f : Nat → Int} : sm n (fun i => f i * a) = sm n f * a := by
  rw [Int.mul_comm, ← sm_mul]; exact sm_congr fun i _ => Int.mul_comm _ _
theorem sm_sub {n : Nat} {f g : Nat → Int} : sm n (fun i => f i - g i) = sm n f - sm n g := by
  have h : sm n (fun i => f i - g i) + sm n g = sm n f := by
    rw [← sm_add]; exact sm_congr fun i _ => by omega
  omega
theorem sm_one : ∀ {n : Nat} {f : Nat → Int} (i : Nat), i < n → (∀ j, j < n → j ≠ i → f j = 0) → sm n f = f i
  | 0, _, _, h, _ => absurd h (Nat.not_lt_zero _)
  | n + 1, f, i, h, z => by
    show sm n f + f n = f i
    by_cases e : i = n
    · subst e
      rw [sm_zero fun j hj => z j (Nat.lt_succ_of_lt hj) (Nat.ne_of_lt hj)]; omega
    · rw [sm_one i (by omega) fun j hj hn => z j (Nat.lt_succ_of_lt hj) hn, z n (Nat.lt_succ_self n) fun q => e q.symm]; omega
theorem sm_two {n : Nat} {f : Nat → Int} (i r : Nat) (hi : i < n) (hr : r < n) (ne : i ≠ r) (z : ∀ j, j < n → j ≠ i → j ≠ r → f j = 0) : sm n f = f i + f r := by
  have h1 : sm n (fun j => if j = r then 0 else f j) = f i := by
    rw [sm_one i hi fun j hj hn => ?_, if_neg ne]
    by_cases e : j = r
    · rw [if_pos e]
    · rw [if_neg e]; exact z j hj hn e
  have h2 : sm n (fun j => if j = r then f r else 0) = f r := by
    rw [sm_one r hr fun j hj hn => if_neg hn, if_pos rfl]
  rw [← h1, ← h2, ← sm_add]
  refine sm_congr fun j hj => ?_
  by_cases e : j = r
  · subst e; simp
  · simp [e]
theorem sm_nn : ∀ {n : Nat} {f : Nat → Int}, (∀ i, i < n → 0 ≤ f i) → 0 ≤ sm n f
  | 0, _, _ => Int.le_refl _
  | n + 1, f, h => by
    have h1 := sm_nn fun i hi => h i (Nat.lt_succ_of_lt hi)
    have h2 := h n (Nat.lt_succ_self n)
    show 0 ≤ sm n f + f n
    omega
theorem sm_le {n : Nat} {f g : Nat → Int} (h : ∀ i, i < n → f i ≤ g i) : sm n f ≤ sm n g := by
  have := sm_nn (n := n) (f := fun i => g i - f i) fun i hi => by have := h i hi; omega
  rw [sm_sub] at this; omega
theorem sm_nn0 {n : Nat} {f : Nat → Int} (h : ∀ i, i < n → 0 ≤ f i) (z : sm n f = 0) : ∀ i, i < n → f i = 0 := by
  induction n with
  | zero => intro i hi; omega
  | succ n ih =>
    intro i hi
    have h1 := sm_nn fun i hi => h i (Nat.lt_succ_of_lt hi)
    have h2 := h n (Nat.lt_succ_self n)
    have z' : sm n f + f n = 0 := z
    by_cases e : i = n
    · subst e; omega
    · exact ih (fun i hi => h i (Nat.lt_succ_of_lt hi)) (by omega) i (by omega)
theorem sm_swap : ∀ {n m : Nat} {f : Nat → Nat → Int}, sm n (fun i => sm m (fun j => f i j)) = sm m (fun j => sm n (fun i => f i j))
  | 0, m, f => by
    show 0 = sm m (fun j => 0)
    rw [sm_zero fun _ _ => rfl]
  | n + 1, m, f => by
    show sm n (fun i => sm m (fun j => f i j)) + sm m (fun j => f n j) = sm m (fun j => sm n (fun i => f i j) + f n j)
    rw [sm_swap, sm_add]
theorem sm_neg_ex : ∀ {n : Nat} {f : Nat → Int}, sm n f < 0 → ∃ i, i < n ∧ f i < 0
  | 0, _, h => by simp [sm] at h
  | n + 1, f, h => by
    have h' : sm n f + f n < 0 := h
    by_cases e : f n < 0
    · exact ⟨n, Nat.lt_succ_self n, e⟩
    · obtain ⟨i, hi, hf⟩ := sm_neg_ex (n := n) (f := f) (by omega)
      exact ⟨i, Nat.lt_succ_of_lt hi, hf⟩

/-! ### the product -/
def wd : Nat → (Nat → Int) → (List Bool → Int) → List Bool → Int
  | 0, _, _, _ => 0
  | _ + 1, _, _, [] => 0
  | m + 1, v, ω, false :: S => wd m (fun k => v (k + 1)) (fun S => ω (false :: S)) S
  | m + 1, v, ω, true :: S => v 0 * ω (false :: S) - wd m (fun k => v (k + 1)) (fun S => ω (true :: S)) S
theorem wd_lin {a b : Int} : ∀ (m : Nat) (v : Nat → Int) (ω η : List Bool → Int) (S : List Bool), wd m v (fun S => a * ω S + b * η S) S = a * wd m v ω S + b * wd m v η S
  | 0, _, _, _, _ => by simp [wd]
  | _ + 1, _, _, _, [] => by simp [wd]
  | m + 1, v, ω, η, false :: S => by
    show wd m _ (fun S => a * ω (false :: S) + b * η (false :: S)) S = a * wd m _ _ S + b * wd m _ _ S
    exact wd_lin m _ _ _ S
  | m + 1, v, ω, η, true :: S => by
    show v 0 * (a * ω (false :: S) + b * η (false :: S)) - wd m _ (fun S => a * ω (true :: S) + b * η (true :: S)) S = a * (v 0 * ω (false :: S) - wd m _ _ S) + b * (v 0 * η (false :: S) - wd m _ _ S)
    rw [wd_lin m _ (fun S => ω (true :: S)) (fun S => η (true :: S)) S]
    grind
theorem wd_linV {a b : Int} : ∀ (m : Nat) (u v : Nat → Int) (ω : List Bool → Int) (S : List Bool), wd m (fun k => a * u k + b * v k) ω S = a * wd m u ω S + b * wd m v ω S
  | 0, _, _, _, _ => by simp [wd]
  | _ + 1, _, _, _, [] => by simp [wd]
  | m + 1, u, v, ω, false :: S => by
    show wd m (fun k => a * u (k + 1) + b * v (k + 1)) _ S = a * wd m _ _ S + b * wd m _ _ S
    exact wd_linV m _ _ _ S
  | m + 1, u, v, ω, true :: S => by
    show (a * u 0 + b * v 0) * ω (false :: S) - wd m (fun k => a * u (k + 1) + b * v (k + 1)) _ S = a * (u 0 * ω (false :: S) - wd m _ _ S) + b * (v 0 * ω (false :: S) - wd m _ _ S)
    rw [wd_linV m (fun k => u (k + 1)) (fun k => v (k + 1)) _ S]
    grind
theorem wd_congr : ∀ (m : Nat) {u v : Nat → Int} (ω : List Bool → Int) (S : List Bool), (∀ k, k < m → u k = v k) → wd m u ω S = wd m v ω S
  | 0, _, _, _, _, _ => rfl
  | _ + 1, _, _, _, [], _ => rfl
  | m + 1, u, v, ω, false :: S, h => wd_congr m _ S fun k hk => h (k + 1) (by omega)
  | m + 1, u, v, ω, true :: S, h => by
    show u 0 * _ - wd m _ _ S = v 0 * _ - wd m _ _ S
    rw [h 0 (by omega), wd_congr m _ S fun k hk => h (k + 1) (by omega)]
theorem wd_zero (m : Nat) (v : Nat → Int) (S : List Bool) : wd m v (fun _ => 0) S = 0 := by
  have := wd_lin (a := 0) (b := 0) m v (fun _ => 0) (fun _ => 0) S
  simpa using this
theorem wd_sq : ∀ (m : Nat) (v : Nat → Int) (ω : List Bool → Int) (S : List Bool), wd m v (wd m v ω) S = 0
  | 0, _, _, _ => rfl
  | _ + 1, _, _, [] => rfl
  | m + 1, v, ω, false :: S => by
    show wd m _ (fun S => wd m _ (fun S => ω (false :: S)) S) S = 0
    exact wd_sq m _ _ S
  | m + 1, v, ω, true :: S => by
    show v 0 * wd m _ (fun S => ω (false :: S)) S - wd m _ (fun S => v 0 * ω (false :: S) - wd m _ (fun S => ω (true :: S)) S) S = 0
    have h := wd_lin (a := v 0) (b := -1) m (fun k => v (k + 1)) (fun S => ω (false :: S)) (wd m (fun k => v (k + 1)) (fun S => ω (true :: S))) S
    have h2 := wd_sq m (fun k => v (k + 1)) (fun S => ω (true :: S)) S
    have e : (fun S => v 0 * ω (false :: S) - wd m (fun k => v (k + 1)) (fun S => ω (true :: S)) S) = fun S => v 0 * ω (false :: S) + -1 * wd m (fun k => v (k + 1)) (fun S => ω (true :: S)) S := by
      funext S; omega
    rw [e, h, h2]; omega
theorem wd_swap (m : Nat) (u v : Nat → Int) (ω : List Bool → Int) (S : List Bool) : wd m u (wd m v ω) S = - wd m v (wd m u ω) S := by
  have h := wd_sq m (fun k => 1 * u k + 1 * v k) ω S
  have e : wd m (fun k => 1 * u k + 1 * v k) ω = fun S => 1 * wd m u ω S + 1 * wd m v ω S := by
    funext S; exact wd_linV m u v ω S
  rw [e, wd_linV, wd_lin, wd_lin, wd_sq, wd_sq] at h
  omega
def one (S : List Bool) : Int := if S.all (fun b => !b) then 1 else 0
def iw (m : Nat) : List (Nat → Int) → List Bool → Int
  | [] => one
  | c :: cs => wd m c (iw m cs)
theorem iw_mem (m : Nat) {v : Nat → Int} : ∀ {cs : List (Nat → Int)} (S : List Bool), v ∈ cs → wd m v (iw m cs) S = 0
  | [], _, h => by cases h
  | u :: cs, S, h => by
    rcases List.mem_cons.mp h with e | h
    · subst e; exact wd_sq m v (iw m cs) S
    · show wd m v (wd m u (iw m cs)) S = 0
      rw [wd_swap]
      have e : wd m v (iw m cs) = fun _ => 0 := by funext S; exact iw_mem m S h
      rw [e, wd_zero]; rfl
theorem iw_dup (m : Nat) {v : Nat → Int} : ∀ {cs : List (Nat → Int)} {i j : Nat} (S : List Bool), i < j → cs[i]? = some v → cs[j]? = some v → iw m cs S = 0
  | [], i, j, _, _, h, _ => by simp at h
  | u :: cs, 0, j + 1, S, _, h, h2 => by
    simp at h h2
    subst h
    exact iw_mem m S (List.mem_of_getElem? h2)
  | u :: cs, i + 1, j + 1, S, hl, h, h2 => by
    have e : iw m cs = fun _ => 0 := by funext S; exact iw_dup m (i := i) (j := j) S (by omega) (by simpa using h) (by simpa using h2)
    show wd m u (iw m cs) S = 0
    rw [e, wd_zero]
theorem iw_lin (m : Nat) {a b : Int} {u v : Nat → Int} : ∀ {cs : List (Nat → Int)} {i : Nat} (S : List Bool), i < cs.length → iw m (cs.set i (fun k => a * u k + b * v k)) S = a * iw m (cs.set i u) S + b * iw m (cs.set i v) S
  | [], i, _, h => by simp at h
  | c :: cs, 0, S, _ => wd_linV m u v _ S
  | c :: cs, i + 1, S, h => by
    show wd m c (iw m (cs.set i _)) S = a * wd m c (iw m (cs.set i u)) S + b * wd m c (iw m (cs.set i v)) S
    rw [← wd_lin]
    congr 1
    funext S
    exact iw_lin m S (by simpa using h)
theorem iw_congr (m : Nat) {u v : Nat → Int} (h : ∀ k, k < m → u k = v k) : ∀ {cs : List (Nat → Int)} {i : Nat} (S : List Bool), iw m (cs.set i u) S = iw m (cs.set i v) S
  | [], i, _ => rfl
  | c :: cs, 0, S => wd_congr m _ S h
  | c :: cs, i + 1, S => by
    show wd m c (iw m (cs.set i u)) S = wd m c (iw m (cs.set i v)) S
    congr 1
    funext S
    exact iw_congr m h S
theorem iw_zero (m : Nat) {cs : List (Nat → Int)} {i : Nat} (S : List Bool) (h : i < cs.length) : iw m (cs.set i (fun _ => 0)) S = 0 := by
  have := iw_lin (a := 0) (b := 0) m (u := fun _ => 0) (v := fun _ => 0) S h
  simpa using this
theorem iw_sum (m : Nat) {cs : List (Nat → Int)} {i : Nat} (S : List Bool) (h : i < cs.length) (a : Nat → Int) (u : Nat → Nat → Int) : ∀ n, iw m (cs.set i (fun k => sm n fun l => a l * u l k)) S = sm n fun l => a l * iw m (cs.set i (u l)) S
  | 0 => iw_zero m S h
  | n + 1 => by
    have e : (fun k => sm (n + 1) fun l => a l * u l k) = fun k => 1 * (sm n fun l => a l * u l k) + a n * u n k := by
      funext k; show (sm n fun l => a l * u l k) + a n * u n k = _; omega
    rw [e, iw_lin m S h, iw_sum m S h a u n]
    show _ = (sm n fun l => a l * iw m (cs.set i (u l)) S) + a n * iw m (cs.set i (u n)) S
    omega
theorem iw_swap (m : Nat) {cs : List (Nat → Int)} {i r : Nat} (S : List Bool) (hi : i < cs.length) (hr : r < cs.length) (ne : i ≠ r) (u v : Nat → Int) : iw m ((cs.set r u).set i v) S = - iw m ((cs.set r v).set i u) S := by
  have dup : ∀ w : Nat → Int, iw m ((cs.set r w).set i w) S = 0 := fun w => by
    rcases Nat.lt_or_gt_of_ne ne with h | h
    · exact iw_dup m S h (by rw [List.getElem?_set_self (by simpa using hi)]) (by rw [List.getElem?_set_ne ne, List.getElem?_set_self hr])
    · exact iw_dup m S h (by rw [List.getElem?_set_ne ne, List.getElem?_set_self hr]) (by rw [List.getElem?_set_self (by simpa using hi)])
  have h0 := dup fun k => 1 * u k + 1 * v k
  have lr : ∀ x : Nat → Int, iw m ((cs.set r (fun k => 1 * u k + 1 * v k)).set i x) S = 1 * iw m ((cs.set r u).set i x) S + 1 * iw m ((cs.set r v).set i x) S := fun x => by
    rw [List.set_comm _ _ ne.symm, iw_lin m S (by simpa using hr), List.set_comm _ _ ne, List.set_comm _ _ ne]
  rw [iw_lin m S (by simpa using hi), lr, lr, dup u, dup v] at h0
  omega
/-- the unit columns -/
def unit (j : Nat) : Nat → Int := fun k => if k = j then 1 else 0
theorem one_f (S : List Bool) : one (false :: S) = one S := rfl
theorem iw_low : ∀ (m n : Nat) (cs : List (Nat → Int)), (∀ c ∈ cs, c 0 = 0) → ∀ S, iw (m + 1) cs (false :: S) = iw m (cs.map fun c k => c (k + 1)) S
  | m, n, [], _, S => one_f S
  | m, n, c :: cs, h, S => by
    show wd m (fun k => c (k + 1)) (fun S => iw (m + 1) cs (false :: S)) S = wd m (fun k => c (k + 1)) (iw m (cs.map fun c k => c (k + 1))) S
    congr 1
    funext S
    exact iw_low m n cs (fun c hc => h c (List.mem_cons_of_mem _ hc)) S
theorem wd_null (m : Nat) (ω : List Bool → Int) (S : List Bool) : wd m (fun _ => 0) ω S = 0 := by
  have := wd_linV (a := 0) (b := 0) m (fun _ => 0) (fun _ => 0) ω S
  simpa using this
theorem iw_unit : ∀ m, iw m ((List.range m).map unit) (List.replicate m true) = 1
  | 0 => by rfl
  | m + 1 => by
    rw [List.range_succ_eq_map, List.map_cons, List.replicate_succ]
    show unit 0 0 * iw (m + 1) _ (false :: List.replicate m true) - wd m (fun k => unit 0 (k + 1)) _ _ = 1
    have e : (fun k => unit 0 (k + 1)) = fun _ => 0 := by funext k; simp [unit]
    rw [e, wd_null, iw_low m 0]
    · have e2 : (((List.range m).map Nat.succ).map unit).map (fun c k => c (k + 1)) = (List.range m).map unit := by
        rw [List.map_map, List.map_map]
        refine List.map_congr_left fun j _ => ?_
        funext k
        simp [unit]
      rw [e2, iw_unit m]; rfl
    · intro c hc
      rw [List.map_map] at hc
      obtain ⟨j, _, rfl⟩ := List.mem_map.mp hc
      simp [unit]
/-- a bound -/
theorem wd_bd : ∀ (m : Nat) (v : Nat → Int) (ω : List Bool → Int) (B C : Nat) (S : List Bool), (∀ S, (ω S).natAbs ≤ B) → (sm m fun k => ((v k).natAbs : Int)) ≤ C → (wd m v ω S).natAbs ≤ C * B
  | 0, _, _, _, _, _, _, _ => by simp [wd]
  | _ + 1, _, _, _, _, [], _, _ => by simp [wd]
  | m + 1, v, ω, B, C, b :: S, h, hC => by
    have hs : ∀ (m : Nat) (f : Nat → Int), sm (m + 1) f = f 0 + sm m fun k => f (k + 1) := fun m f => by
      induction m with
      | zero => show 0 + f 0 = f 0 + 0; omega
      | succ m ih => show sm (m + 1) f + f (m + 1) = f 0 + (sm m _ + f (m + 1)); rw [ih]; omega
    rw [hs] at hC
    have n0 : 0 ≤ sm m fun k => ((v (k + 1)).natAbs : Int) := sm_nn fun _ _ => by omega
    obtain ⟨d, hd⟩ : ∃ d : Nat, (sm m fun k => ((v (k + 1)).natAbs : Int)) = d := ⟨_, (Int.toNat_of_nonneg n0).symm⟩
    have h1 : ∀ b, (wd m (fun k => v (k + 1)) (fun S => ω (b :: S)) S).natAbs ≤ d * B := fun b => wd_bd m _ _ B d S (fun S => h _) (by rw [hd]; exact Int.le_refl _)
    rw [hd] at hC
    have hC' : (v 0).natAbs + d ≤ C := by omega
    have e1 : ((v 0).natAbs + d) * B ≤ C * B := Nat.mul_le_mul_right _ hC'
    rw [Nat.add_mul] at e1
    cases b with
    | false =>
      have := h1 false
      show (wd m (fun k => v (k + 1)) (fun S => ω (false :: S)) S).natAbs ≤ _
      omega
    | true =>
      have q1 := h1 true
      have q2 : (v 0 * ω (false :: S)).natAbs ≤ (v 0).natAbs * B := by rw [Int.natAbs_mul]; exact Nat.mul_le_mul_left _ (h _)
      show (v 0 * ω (false :: S) - wd m _ _ S).natAbs ≤ _
      omega
end SX

/-! GSb: the table of a basis, its turns. -/
namespace SX
def col (M : Nat → Nat → Int) (j : Nat) : Nat → Int := fun k => M k j
def Dt (m : Nat) (M : Nat → Nat → Int) (os : List Nat) : Int := iw m (os.map (col M)) (List.replicate m true)
def Tb (m : Nat) (M : Nat → Nat → Int) (os : List Nat) (i j : Nat) : Int := Dt m M (os.set i j)
def ow (os : List Nat) (i : Nat) : Nat := os.getD i 0
/-- each column by those of the basis -/
def CR (m : Nat) (M : Nat → Nat → Int) (os : List Nat) : Prop := ∀ k, k < m → ∀ j, Dt m M os * M k j = sm m fun i => M k (ow os i) * Tb m M os i j
def Gl (m : Nat) (M : Nat → Nat → Int) (g : Nat → Int) (os : List Nat) (j : Nat) : Int := Dt m M os * g j - sm m fun i => g (ow os i) * Tb m M os i j
section
variable {m N n : Nat} {M : Nat → Nat → Int} {g : Nat → Int} {os : List Nat} {i j r c l : Nat}
theorem ow_get (h : i < os.length) : os[i]? = some (ow os i) := by
  unfold ow; rw [List.getD_eq_getElem?_getD, List.getElem?_eq_getElem h]; rfl
theorem ow_of (h : os[i]? = some j) : ow os i = j := by unfold ow; rw [List.getD_eq_getElem?_getD, h]; rfl
theorem ow_set (h : r < os.length) : ow (os.set r c) r = c := ow_of (List.getElem?_set_self h)
theorem ow_ne (h : r ≠ i) : ow (os.set r c) i = ow os i := by unfold ow; rw [List.getD_eq_getElem?_getD, List.getElem?_set_ne h, ← List.getD_eq_getElem?_getD]
theorem set_ow (h : i < os.length) : os.set i (ow os i) = os := by
  refine List.ext_getElem? fun k => ?_
  by_cases e : i = k
  · subst e; rw [List.getElem?_set_self h, ow_get h]
  · rw [List.getElem?_set_ne e]
theorem Dt_dup {v : Nat} (h : i < l) (h1 : os[i]? = some v) (h2 : os[l]? = some v) : Dt m M os = 0 :=
  iw_dup m (v := col M v) _ h (by rw [List.getElem?_map, h1]; rfl) (by rw [List.getElem?_map, h2]; rfl)
theorem Dt_dup' {v : Nat} (h : i ≠ l) (h1 : os[i]? = some v) (h2 : os[l]? = some v) : Dt m M os = 0 := by
  rcases Nat.lt_or_gt_of_ne h with h | h
  · exact Dt_dup h h1 h2
  · exact Dt_dup h h2 h1
theorem Tb_own (hl : l < os.length) : Tb m M os l (ow os l) = Dt m M os := by unfold Tb; rw [set_ow hl]
theorem Tb_off (hi : i < os.length) (hl : l < os.length) (ne : i ≠ l) : Tb m M os i (ow os l) = 0 :=
  Dt_dup' ne (List.getElem?_set_self hi) (by rw [List.getElem?_set_ne ne, ow_get hl])
theorem Tb_turn (hr : r < os.length) : Tb m M (os.set r c) r j = Tb m M os r j := by unfold Tb; rw [List.set_set]
/-- a column as a sum of others -/
theorem Dt_sum (hi : i < os.length) (a : Int) (n : Nat) (b : Nat → Int) (u : Nat → Nat) (h : ∀ k, k < m → a * M k j = sm n fun l => b l * M k (u l)) : a * Dt m M (os.set i j) = sm n fun l => b l * Dt m M (os.set i (u l)) := by
  have hi' : i < (os.map (col M)).length := by simpa using hi
  have e1 := iw_sum m (cs := os.map (col M)) (i := i) (List.replicate m true) hi' b (fun l => col M (u l)) n
  have e2 := iw_lin m (cs := os.map (col M)) (i := i) (a := a) (b := 0) (u := col M j) (v := col M j) (List.replicate m true) hi'
  unfold Dt
  simp only [List.map_set]
  rw [← e1]
  have e3 : iw m ((os.map (col M)).set i fun k => a * col M j k + 0 * col M j k) (List.replicate m true) = iw m ((os.map (col M)).set i fun k => sm n fun l => b l * col M (u l) k) (List.replicate m true) := iw_congr m (fun k hk => by
    have := h k hk
    show a * M k j + 0 * M k j = sm n fun l => b l * M k (u l)
    omega) _
  rw [← e3, e2]; omega
theorem Dt_swap (hi : i < os.length) (hr : r < os.length) (ne : i ≠ r) (x y : Nat) : Dt m M ((os.set r x).set i y) = - Dt m M ((os.set r y).set i x) := by
  unfold Dt
  simp only [List.map_set]
  exact iw_swap m _ (by simpa using hi) (by simpa using hr) ne _ _
/-- a turn -/
theorem turn_T (hl : os.length = m) (cr : CR m M os) (hi : i < m) (hr : r < m) (ne : i ≠ r) : Dt m M os * Tb m M (os.set r c) i j = Dt m M (os.set r c) * Tb m M os i j - Tb m M os i c * Tb m M os r j := by
  have h := Dt_sum (os := os.set r c) (i := i) (j := j) (by simp [hl]; exact hi) (Dt m M os) m (fun l => Tb m M os l j) (fun l => ow os l) (fun k hk => by rw [cr k hk j]; exact sm_congr fun l _ => Int.mul_comm _ _)
  unfold Tb at h ⊢
  rw [h]
  rw [sm_two i r hi hr ne fun l h1 h2 h3 => ?_]
  · have e1 : (os.set r c).set i (ow os i) = os.set r c := by
      rw [← ow_ne (c := c) ne.symm]; exact set_ow (by simp [hl]; exact hi)
    have e2 : Dt m M ((os.set r c).set i (ow os r)) = - Dt m M (os.set i c) := by
      rw [Dt_swap (by omega) (by omega) ne, set_ow (by omega)]
    rw [e1, e2]
    grind
  · have : Dt m M ((os.set r c).set i (ow os l)) = 0 := Dt_dup' (i := i) (l := l) h2.symm (List.getElem?_set_self (by simp [hl]; exact hi)) (by
      rw [List.getElem?_set_ne h2.symm, List.getElem?_set_ne h3.symm]; exact ow_get (by omega))
    rw [this, Int.mul_zero]
theorem turn_CR (hl : os.length = m) (cr : CR m M os) (hr : r < m) (h0 : Dt m M os ≠ 0) : CR m M (os.set r c) := fun k hk j => by
  have e1 : Dt m M os * (sm m fun i => M k (ow (os.set r c) i) * Tb m M (os.set r c) i j) = sm m fun i => (Dt m M (os.set r c) * (M k (ow os i) * Tb m M os i j) - Tb m M os r j * (M k (ow os i) * Tb m M os i c)) + if i = r then Dt m M os * (M k c * Tb m M os r j) else 0 := by
    rw [← sm_mul]
    refine sm_congr fun i hi => ?_
    by_cases e : i = r
    · subst e
      rw [if_pos rfl, ow_set (by omega), Tb_turn (by omega)]
      unfold Tb
      grind
    · rw [if_neg e, ow_ne (fun z => e z.symm)]
      have := turn_T (c := c) (j := j) hl cr hi hr e
      grind
  rw [sm_add, sm_sub, sm_mul, sm_mul, ← cr k hk j, ← cr k hk c, sm_one r hr (fun l _ h => if_neg h), if_pos rfl] at e1
  have e2 : Dt m M os * (sm m fun i => M k (ow (os.set r c) i) * Tb m M (os.set r c) i j) = Dt m M os * (Dt m M (os.set r c) * M k j) := by rw [e1]; grind
  exact (Int.eq_of_mul_eq_mul_left h0 e2).symm
theorem Gl_own (hl : os.length = m) (h : l < m) : Gl m M g os (ow os l) = 0 := by
  unfold Gl
  rw [sm_one l h fun i hi ne => by rw [Tb_off (by omega) (by omega) ne, Int.mul_zero], Tb_own (by omega)]
  grind
theorem turn_G (hl : os.length = m) (cr : CR m M os) (hr : r < m) : Dt m M os * Gl m M g (os.set r c) j = Dt m M (os.set r c) * Gl m M g os j - Gl m M g os c * Tb m M os r j := by
  have e1 : Dt m M os * (sm m fun i => g (ow (os.set r c) i) * Tb m M (os.set r c) i j) = sm m fun i => (Dt m M (os.set r c) * (g (ow os i) * Tb m M os i j) - Tb m M os r j * (g (ow os i) * Tb m M os i c)) + if i = r then Dt m M os * (g c * Tb m M os r j) else 0 := by
    rw [← sm_mul]
    refine sm_congr fun i hi => ?_
    by_cases e : i = r
    · subst e
      rw [if_pos rfl, ow_set (by omega), Tb_turn (by omega)]
      unfold Tb
      grind
    · rw [if_neg e, ow_ne (fun z => e z.symm)]
      have := turn_T (c := c) (j := j) hl cr hi hr e
      grind
  rw [sm_add, sm_sub, sm_mul, sm_mul, sm_one r hr (fun l _ h => if_neg h), if_pos rfl] at e1
  unfold Gl
  rw [Int.mul_sub, e1]
  grind
/-- the unit columns at n, n + 1, .. -/
def Un (m n : Nat) (M : Nat → Nat → Int) : Prop := ∀ k l, k < m → l < m → M k (n + l) = if k = l then 1 else 0
theorem Tb_un (un : Un m n M) (hi : i < os.length) : Tb m M os i j = sm m fun k => Tb m M os i (n + k) * M k j := by
  have h := Dt_sum (M := M) (os := os) (i := i) (j := j) hi 1 m (fun l => M l j) (fun l => n + l) fun k hk => by
    rw [sm_one k hk fun l h1 h2 => by rw [un k l hk h1, if_neg (fun z => h2 z.symm), Int.mul_zero], un k k hk hk, if_pos rfl]; omega
  unfold Tb
  rw [Int.one_mul] at h
  rw [h]
  exact sm_congr fun k _ => Int.mul_comm _ _
theorem Gl_dual (hl : os.length = m) (un : Un m n M) (g0 : ∀ k, k < m → g (n + k) = 0) : Gl m M g os j = Dt m M os * g j + sm m fun k => Gl m M g os (n + k) * M k j := by
  have e : (sm m fun k => Gl m M g os (n + k) * M k j) = sm m fun k => - (sm m fun i => g (ow os i) * Tb m M os i (n + k) * M k j) := sm_congr fun k hk => by
    unfold Gl
    rw [g0 k hk, sm_mulR]; grind
  have e2 : (sm m fun k => sm m fun i => g (ow os i) * Tb m M os i (n + k) * M k j) = sm m fun i => g (ow os i) * Tb m M os i j := by
    rw [sm_swap]
    refine sm_congr fun i hi => ?_
    rw [Tb_un (n := n) (j := j) un (by omega), ← sm_mul]
    exact sm_congr fun k _ => by grind
  have e3 : (sm m fun k => - (sm m fun i => g (ow os i) * Tb m M os i (n + k) * M k j)) = - (sm m fun k => sm m fun i => g (ow os i) * Tb m M os i (n + k) * M k j) := by
    have := sm_mul (a := -1) (n := m) (f := fun k => sm m fun i => g (ow os i) * Tb m M os i (n + k) * M k j)
    rw [show (sm m fun k => - (sm m fun i => g (ow os i) * Tb m M os i (n + k) * M k j)) = sm m fun k => -1 * (sm m fun i => g (ow os i) * Tb m M os i (n + k) * M k j) from sm_congr fun k _ => by omega, this]; omega
  rw [e, e3, e2]
  unfold Gl
  omega
/-! the start -/
def os0 (m n : Nat) : List Nat := (List.range m).map (n + ·)
theorem os0_len : (os0 m n).length = m := by simp [os0]
theorem os0_get (h : i < m) : ow (os0 m n) i = n + i := ow_of (by simp [os0, h])
theorem Dt_os0 (un : Un m n M) : Dt m M (os0 m n) = 1 := by
  have gen : ∀ (cs ds : List (Nat → Int)), cs.length = ds.length → (∀ (i : Nat) (u v : Nat → Int), cs[i]? = some u → ds[i]? = some v → ∀ k, k < m → u k = v k) → iw m cs = iw m ds := fun cs => by
    induction cs with
    | nil => intro ds h _; cases ds with
      | nil => rfl
      | cons _ _ => simp at h
    | cons c cs ih =>
      intro ds h q
      cases ds with
      | nil => simp at h
      | cons d ds =>
        show wd m c (iw m cs) = wd m d (iw m ds)
        rw [ih ds (by simpa using h) fun i u v h1 h2 => q (i + 1) u v (by simpa using h1) (by simpa using h2)]
        funext S
        exact wd_congr m _ S (q 0 c d rfl rfl)
  unfold Dt
  rw [gen ((os0 m n).map (col M)) ((List.range m).map unit) (by simp [os0]) fun i u v h1 h2 k hk => ?_, iw_unit]
  have hi : i < m := by have := (List.getElem?_eq_some_iff.mp h2).1; simpa using this
  simp [os0, hi] at h1 h2
  subst h1 h2
  show M k (n + i) = if k = i then 1 else 0
  exact un k i hk hi
theorem Tb_os0 (un : Un m n M) (hi : i < m) : Tb m M (os0 m n) i j = M i j := by
  have h := Dt_sum (M := M) (os := os0 m n) (i := i) (j := j) (by rw [os0_len]; exact hi) 1 m (fun l => M l j) (fun l => n + l) fun k hk => by
    rw [sm_one k hk fun l h1 h2 => by rw [un k l hk h1, if_neg (fun z => h2 z.symm), Int.mul_zero], un k k hk hk, if_pos rfl]; omega
  unfold Tb
  rw [Int.one_mul] at h
  rw [h, sm_one i hi fun l h1 h2 => ?_]
  · rw [← os0_get (n := n) hi, set_ow (by rw [os0_len]; exact hi), Dt_os0 un]; omega
  · rw [show Dt m M ((os0 m n).set i (n + l)) = 0 from ?_, Int.mul_zero]
    refine Dt_dup' (i := i) (l := l) h2.symm (List.getElem?_set_self (by rw [os0_len]; exact hi)) ?_
    rw [List.getElem?_set_ne h2.symm, ow_get (by rw [os0_len]; exact h1), os0_get h1]
theorem CR_os0 (un : Un m n M) : CR m M (os0 m n) := fun k hk j => by
  rw [Dt_os0 un, sm_one k hk fun l h1 h2 => by rw [os0_get h1, un k l hk h1, if_neg (fun z => h2 z.symm), Int.zero_mul], os0_get hk, un k k hk hk, if_pos rfl, Tb_os0 un hk]
theorem Gl_os0 (un : Un m n M) (g0 : ∀ k, k < m → g (n + k) = 0) : Gl m M g (os0 m n) j = g j := by
  unfold Gl
  rw [Dt_os0 un, sm_zero fun i hi => by rw [os0_get hi, g0 i hi, Int.zero_mul]]; omega

/-! ### turns by the first column and the least owner -/
structure Feas (m N : Nat) (M : Nat → Nat → Int) (os : List Nat) : Prop where
  len : os.length = m
  pos : 0 < Dt m M os
  cr : CR m M os
  nn : ∀ i, i < m → 0 ≤ Tb m M os i N
  lt : ∀ i, i < m → ow os i < N
structure Bl (m N : Nat) (M : Nat → Nat → Int) (g : Nat → Int) (os : List Nat) (c r : Nat) : Prop where
  cN : c < N
  neg : Gl m M g os c < 0
  fst : ∀ j, j < c → 0 ≤ Gl m M g os j
  rm : r < m
  pos : 0 < Tb m M os r c
  min : ∀ i, i < m → 0 < Tb m M os i c → Tb m M os r N * Tb m M os i c ≤ Tb m M os i N * Tb m M os r c ∧ (Tb m M os r N * Tb m M os i c = Tb m M os i N * Tb m M os r c → ow os r ≤ ow os i)
theorem Feas.nd (f : Feas m N M os) (hi : i < m) (hl : l < m) (e : ow os i = ow os l) : i = l := by
  by_cases ne : i = l
  · exact ne
  · have h := Dt_dup' (m := m) (M := M) (i := i) (l := l) (v := ow os l) ne (by rw [← e]; exact ow_get (by rw [f.len]; assumption)) (ow_get (by rw [f.len]; assumption))
    have := f.pos
    omega
theorem Feas.turn (f : Feas m N M os) (b : Bl m N M g os c r) : Feas m N M (os.set r c) where
  len := by rw [List.length_set, f.len]
  pos := b.pos
  cr := turn_CR f.len f.cr b.rm (by have := f.pos; omega)
  nn := fun i hi => by
    by_cases e : i = r
    · subst e; rw [Tb_turn (by rw [f.len]; exact hi)]; exact f.nn i hi
    · have h := turn_T (c := c) (j := N) f.len f.cr hi b.rm e
      have e2 : Dt m M (os.set r c) = Tb m M os r c := rfl
      rw [e2] at h
      have h0 : 0 ≤ Dt m M os * Tb m M (os.set r c) i N := by
        rw [h]
        by_cases p : 0 < Tb m M os i c
        · have q := (b.min i hi p).1
          have c1 := Int.mul_comm (Tb m M os r N) (Tb m M os i c)
          have c2 := Int.mul_comm (Tb m M os i N) (Tb m M os r c)
          omega
        · have q1 := Int.mul_nonneg (Int.le_of_lt b.pos) (f.nn i hi)
          have q2 := Int.mul_nonneg (show 0 ≤ -Tb m M os i c by omega) (f.nn r b.rm)
          rw [Int.neg_mul] at q2
          omega
      exact Int.nonneg_of_mul_nonneg_right h0 f.pos
  lt := fun i hi => by
    by_cases e : r = i
    · subst e; rw [ow_set (by rw [f.len]; exact hi)]; exact b.cN
    · rw [ow_ne e]; exact f.lt i hi
end
end SX

/-! GSc: the turns come to an end. -/
namespace SX
section
variable {m N n : Nat} {M : Nat → Nat → Int} {g : Nat → Int} {os : List Nat} {i j r c l : Nat}
def Stp (m N : Nat) (M : Nat → Nat → Int) (g : Nat → Int) (os os' : List Nat) : Prop := ∃ c r, Bl m N M g os c r ∧ os' = os.set r c
/-- an owner list with a column that is not among the owners -/
theorem Feas.ex (f : Feas m N M os) (h : j ∈ os) : ∃ i, i < m ∧ ow os i = j := by
  obtain ⟨i, hi, e⟩ := List.getElem_of_mem h
  exact ⟨i, by rw [← f.len]; exact hi, ow_of (by rw [List.getElem?_eq_getElem hi, e])⟩
theorem Feas.mem (f : Feas m N M os) (h : i < m) : ow os i ∈ os := List.mem_of_getElem? (ow_get (by rw [f.len]; exact h))
theorem max_at : ∀ (L : Nat) (cs : Nat → Nat), 0 < L → ∃ p, p < L ∧ ∀ k, k < L → cs k ≤ cs p
  | 0, _, h => absurd h (Nat.lt_irrefl 0)
  | 1, cs, _ => ⟨0, Nat.one_pos, fun k hk => by rw [show k = 0 by omega]; exact Nat.le_refl _⟩
  | L + 2, cs, _ => by
    obtain ⟨p, hp, h⟩ := max_at (L + 1) cs (Nat.succ_pos L)
    by_cases q : cs p ≤ cs (L + 1)
    · refine ⟨L + 1, Nat.lt_succ_self _, fun k hk => ?_⟩
      by_cases e : k = L + 1
      · subst e; exact Nat.le_refl _
      · exact Nat.le_trans (h k (by omega)) q
    · refine ⟨p, by omega, fun k hk => ?_⟩
      by_cases e : k = L + 1
      · subst e; omega
      · exact h k (by omega)
theorem bch {P : Nat → Nat → Prop} {L : Nat} (h : ∀ k, k < L → ∃ x, P k x) : ∃ f : Nat → Nat, ∀ k, k < L → P k (f k) :=
  ⟨fun k => Classical.epsilon (P k), fun k hk => Classical.epsilon_spec (h k hk)⟩
theorem lt_chain {g0 g1 g2 d0 d1 d2 : Int} (p0 : 0 < d0) (p1 : 0 < d1) (p2 : 0 < d2) (a : g0 * d1 ≤ g1 * d0) (b : g1 * d2 < g2 * d1) (c : g2 * d0 ≤ g0 * d2) : False := by
  have h1 := Int.mul_le_mul_of_nonneg_right a (Int.le_of_lt p2)
  have h2 := Int.mul_lt_mul_of_pos_right b p0
  have h3 := Int.mul_le_mul_of_nonneg_right c (Int.le_of_lt p1)
  have e1 : g1 * d0 * d2 = g1 * d2 * d0 := by grind
  have e2 : g2 * d1 * d0 = g2 * d0 * d1 := by grind
  have e3 : g0 * d2 * d1 = g0 * d1 * d2 := by grind
  omega
theorem le_chain {g0 g1 g2 d0 d1 d2 : Int} (p0 : 0 < d0) (p1 : 0 < d1) (p2 : 0 < d2) (a : g0 * d1 ≤ g1 * d0) (b : g1 * d2 ≤ g2 * d1) : g0 * d2 ≤ g2 * d0 := by
  have h1 := Int.mul_le_mul_of_nonneg_right a (Int.le_of_lt p2)
  have h2 := Int.mul_le_mul_of_nonneg_right b (Int.le_of_lt p0)
  have e1 : g1 * d0 * d2 = g1 * d2 * d0 := by grind
  have e2 : g2 * d1 * d0 = g2 * d0 * d1 := by grind
  have e3 : g0 * d1 * d2 = g0 * d2 * d1 := by grind
  have h : g0 * d2 * d1 ≤ g2 * d0 * d1 := by omega
  exact Int.le_of_mul_le_mul_right h p1
theorem bland {n : Nat} (un : Un m n M) (g0 : ∀ k, k < m → g (n + k) = 0) (st : Nat → List Nat) (L : Nat) (hL : 0 < L) (fs : ∀ k, k ≤ L → Feas m N M (st k)) (sp : ∀ k, k < L → Stp m N M g (st k) (st (k + 1))) (e : st L = st 0) : False := by
  obtain ⟨cs, hcs⟩ := bch (P := fun k c => ∃ r, Bl m N M g (st k) c r ∧ st (k + 1) = (st k).set r c) fun k h => sp k h
  obtain ⟨rs, hrs⟩ := bch (P := fun k r => Bl m N M g (st k) (cs k) r ∧ st (k + 1) = (st k).set r (cs k)) fun k h => hcs k h
  have dpos : ∀ k, k ≤ L → 0 < Dt m M (st k) := fun k h => (fs k h).pos
  -- each turn makes the goal no less
  have one : ∀ k, k < L → Dt m M (st k) * Gl m M g (st (k + 1)) N = Dt m M (st (k + 1)) * Gl m M g (st k) N - Gl m M g (st k) (cs k) * Tb m M (st k) (rs k) N := fun k h => by
    have f := fs k (Nat.le_of_lt h)
    obtain ⟨b, e1⟩ := hrs k h
    rw [e1]; exact turn_G f.len f.cr b.rm
  have step : ∀ k, k < L → Gl m M g (st k) N * Dt m M (st (k + 1)) ≤ Gl m M g (st (k + 1)) N * Dt m M (st k) ∧ (Tb m M (st k) (rs k) N ≠ 0 → Gl m M g (st k) N * Dt m M (st (k + 1)) < Gl m M g (st (k + 1)) N * Dt m M (st k)) := fun k h => by
    have h1 := one k h
    obtain ⟨b, _⟩ := hrs k h
    have h2 := (fs k (Nat.le_of_lt h)).nn (rs k) b.rm
    have h3 := b.neg
    have c1 := Int.mul_comm (Gl m M g (st k) N) (Dt m M (st (k + 1)))
    have c2 := Int.mul_comm (Gl m M g (st (k + 1)) N) (Dt m M (st k))
    have h4 := Int.mul_nonneg (show 0 ≤ -Gl m M g (st k) (cs k) by omega) h2
    rw [Int.neg_mul] at h4
    refine ⟨by omega, fun h5 => ?_⟩
    have h6 := Int.mul_pos (show 0 < -Gl m M g (st k) (cs k) by omega) (show 0 < Tb m M (st k) (rs k) N by omega)
    rw [Int.neg_mul] at h6
    omega
  have up : ∀ d k, k + d ≤ L → Gl m M g (st k) N * Dt m M (st (k + d)) ≤ Gl m M g (st (k + d)) N * Dt m M (st k) := fun d => by
    induction d with
    | zero => intro k _; exact Int.le_refl _
    | succ d ih => intro k h; exact le_chain (dpos k (by omega)) (dpos (k + d) (by omega)) (dpos (k + (d + 1)) h) (ih k (by omega)) (step (k + d) (by omega)).1
  -- so none makes it more
  have deg : ∀ k, k < L → Tb m M (st k) (rs k) N = 0 := fun k h => Decidable.by_contra fun z => by
    have a := up k 0 (by omega)
    have b := (step k h).2 z
    have c := up (L - (k + 1)) (k + 1) (by omega)
    rw [Nat.zero_add] at a
    rw [show k + 1 + (L - (k + 1)) = L by omega, e] at c
    exact lt_chain (dpos 0 (Nat.zero_le _)) (dpos k (by omega)) (dpos (k + 1) h) a b c
  -- no number changes
  have zr : ∀ j k, k < L → ((∀ i, i < m → ow (st k) i = j → Tb m M (st k) i N = 0) ↔ ∀ i, i < m → ow (st (k + 1)) i = j → Tb m M (st (k + 1)) i N = 0) := fun j k h => by
    have f := fs k (Nat.le_of_lt h)
    have f' := fs (k + 1) h
    obtain ⟨b, e1⟩ := hrs k h
    have d0 := deg k h
    have same : ∀ i, i < m → i ≠ rs k → (Tb m M (st (k + 1)) i N = 0 ↔ Tb m M (st k) i N = 0) := fun i hi ne => by
      have t := turn_T (c := cs k) (j := N) f.len f.cr hi b.rm ne
      rw [← e1, d0, Int.mul_zero, Int.sub_zero] at t
      have p1 := f.pos
      have p2 := f'.pos
      constructor
      · intro z
        rw [z, Int.mul_zero] at t
        rcases Int.mul_eq_zero.mp t.symm with q | q
        · omega
        · exact q
      · intro z
        rw [z, Int.mul_zero] at t
        rcases Int.mul_eq_zero.mp t with q | q
        · omega
        · exact q
    constructor
    · intro q i hi ei
      by_cases ne : i = rs k
      · subst ne; rw [e1, Tb_turn (by rw [f.len]; exact hi)]; exact d0
      · refine (same i hi ne).mpr (q i hi ?_)
        rw [e1, ow_ne (fun z => ne z.symm)] at ei; exact ei
    · intro q i hi ei
      by_cases ne : i = rs k
      · subst ne; exact d0
      · refine (same i hi ne).mp (q i hi ?_)
        rw [e1, ow_ne (fun z => ne z.symm)]; exact ei
  have zr0 : ∀ j k, k ≤ L → ((∀ i, i < m → ow (st k) i = j → Tb m M (st k) i N = 0) ↔ ∀ i, i < m → ow (st 0) i = j → Tb m M (st 0) i N = 0) := fun j k => by
    induction k with
    | zero => intro _; exact Iff.rfl
    | succ k ih => intro h; exact (zr j k h).symm.trans (ih (by omega))
  -- the greatest column that comes
  obtain ⟨p, hp, hmax⟩ := max_at L cs hL
  have fp := fs p (Nat.le_of_lt hp)
  obtain ⟨bp, ep⟩ := hrs p hp
  have tnot : cs p ∉ st p := fun z => by
    obtain ⟨i, hi, ei⟩ := fp.ex z
    have h := Gl_own (g := g) (M := M) fp.len hi
    rw [ei] at h
    have := bp.neg
    omega
  have tin : cs p ∈ st (p + 1) := by
    rw [ep]; exact List.mem_of_getElem? (List.getElem?_set_self (by rw [fp.len]; exact bp.rm))
  -- it goes, too
  obtain ⟨q, hq, etq⟩ : ∃ q, q < L ∧ ow (st q) (rs q) = cs p := Decidable.by_contra fun z => by
    have stay : ∀ k, k < L → cs p ∈ st k → cs p ∈ st (k + 1) := fun k h hm => by
      have f := fs k (Nat.le_of_lt h)
      obtain ⟨b, e1⟩ := hrs k h
      obtain ⟨i, hi, ei⟩ := f.ex hm
      have ne : rs k ≠ i := fun y => z ⟨k, h, by rw [y]; exact ei⟩
      rw [e1, ← ei, ← ow_ne (c := cs k) ne]
      exact List.mem_of_getElem? (ow_get (by rw [List.length_set, f.len]; exact hi))
    have toL : ∀ d k, k + d ≤ L → cs p ∈ st k → cs p ∈ st (k + d) := fun d => by
      induction d with
      | zero => intro k _ h; exact h
      | succ d ih => intro k h hm; exact stay (k + d) (by omega) (ih k (by omega) hm)
    have h1 := toL (L - (p + 1)) (p + 1) (by omega) tin
    rw [show p + 1 + (L - (p + 1)) = L by omega, e] at h1
    have h2 := toL p 0 (by omega) h1
    rw [Nat.zero_add] at h2
    exact tnot h2
  have fq := fs q (Nat.le_of_lt hq)
  obtain ⟨bq, eq⟩ := hrs q hq
  -- what is at q and not at p comes some time
  have comes : ∀ j, j ∈ st q → j ∉ st p → j ≤ cs p := fun j h1 h2 => Decidable.by_contra fun z => by
    have out : ∀ k, k < L → j ∉ st k → j ∉ st (k + 1) := fun k h hn hm => by
      obtain ⟨b, e1⟩ := hrs k h
      rw [e1] at hm
      rcases List.mem_or_eq_of_mem_set hm with y | y
      · exact hn y
      · have := hmax k h; omega
    have toL : ∀ d k, k + d ≤ L → j ∉ st k → j ∉ st (k + d) := fun d => by
      induction d with
      | zero => intro k _ h; exact h
      | succ d ih => intro k h hm; exact out (k + d) (by omega) (ih k (by omega) hm)
    have h3 := toL (L - p) p (by omega) h2
    rw [show p + (L - p) = L by omega, e] at h3
    have h4 := toL q 0 (by omega) h3
    rw [Nat.zero_add] at h4
    exact h4 h1
  -- the goal of p along the turn of q
  have sum : Dt m M (st q) * Gl m M g (st p) (cs q) - (sm m fun i => Gl m M g (st p) (ow (st q) i) * Tb m M (st q) i (cs q)) = Dt m M (st p) * Gl m M g (st q) (cs q) := by
    have dual : ∀ j, Gl m M g (st p) j = Dt m M (st p) * g j + sm m fun k => Gl m M g (st p) (n + k) * M k j := fun j => Gl_dual fp.len un g0
    have e1 : (sm m fun i => Gl m M g (st p) (ow (st q) i) * Tb m M (st q) i (cs q)) = Dt m M (st p) * (sm m fun i => g (ow (st q) i) * Tb m M (st q) i (cs q)) + sm m fun k => Gl m M g (st p) (n + k) * (Dt m M (st q) * M k (cs q)) := by
      have s1 : (sm m fun i => Gl m M g (st p) (ow (st q) i) * Tb m M (st q) i (cs q)) = sm m fun i => Dt m M (st p) * (g (ow (st q) i) * Tb m M (st q) i (cs q)) + sm m fun k => Gl m M g (st p) (n + k) * (M k (ow (st q) i) * Tb m M (st q) i (cs q)) := sm_congr fun i hi => by
        have h2 : (sm m fun k => Gl m M g (st p) (n + k) * (M k (ow (st q) i) * Tb m M (st q) i (cs q))) = (sm m fun k => Gl m M g (st p) (n + k) * M k (ow (st q) i)) * Tb m M (st q) i (cs q) := by
          rw [← sm_mulR]; exact sm_congr fun k _ => by grind
        rw [dual (ow (st q) i), h2]; grind
      rw [s1, sm_add, sm_mul, sm_swap]
      congr 1
      refine sm_congr fun k hk => ?_
      rw [sm_mul, fq.cr k hk]
    rw [e1, dual (cs q)]
    have e2 : (sm m fun k => Gl m M g (st p) (n + k) * (Dt m M (st q) * M k (cs q))) = Dt m M (st q) * sm m fun k => Gl m M g (st p) (n + k) * M k (cs q) := by
      rw [← sm_mul]; exact sm_congr fun k _ => by grind
    rw [e2]
    show _ = Dt m M (st p) * (Dt m M (st q) * g (cs q) - sm m fun i => g (ow (st q) i) * Tb m M (st q) i (cs q))
    grind
  have neg : Dt m M (st p) * Gl m M g (st q) (cs q) < 0 := Int.mul_neg_of_pos_of_neg fp.pos bq.neg
  by_cases fc : Gl m M g (st p) (cs q) < 0
  · have h1 := hmax q hq
    have h2 : cs q = cs p := by
      rcases Nat.lt_or_ge (cs q) (cs p) with y | y
      · have := bp.fst (cs q) y; omega
      · omega
    have h := Gl_own (g := g) (M := M) fq.len bq.rm
    rw [etq, ← h2] at h
    have := bq.neg
    omega
  · have h3 := Int.mul_nonneg (Int.le_of_lt fq.pos) (show 0 ≤ Gl m M g (st p) (cs q) by omega)
    obtain ⟨i, hi, hf⟩ : ∃ i, i < m ∧ 0 < Gl m M g (st p) (ow (st q) i) * Tb m M (st q) i (cs q) := by
      have h4 : sm m (fun i => -1 * (Gl m M g (st p) (ow (st q) i) * Tb m M (st q) i (cs q))) < 0 := by rw [sm_mul]; omega
      obtain ⟨i, hi, h5⟩ := sm_neg_ex h4
      exact ⟨i, hi, by omega⟩
    have hnp : ow (st q) i ∉ st p := fun z => by
      obtain ⟨l, hl, el⟩ := fp.ex z
      have h := Gl_own (g := g) (M := M) fp.len hl
      rw [el] at h
      rw [h, Int.zero_mul] at hf
      omega
    have hle := comes _ (fq.mem hi) hnp
    by_cases et : ow (st q) i = cs p
    · have ei : i = rs q := fq.nd hi bq.rm (by rw [et, etq])
      subst ei
      rw [et] at hf
      have := Int.mul_neg_of_neg_of_pos bp.neg bq.pos
      omega
    · have hlt : ow (st q) i < cs p := by omega
      have h6 := bp.fst _ hlt
      have h7 : 0 < Tb m M (st q) i (cs q) := by
        rcases Int.lt_or_le 0 (Tb m M (st q) i (cs q)) with y | y
        · exact y
        · have := Int.mul_nonneg h6 (show 0 ≤ -Tb m M (st q) i (cs q) by omega)
          rw [Int.mul_neg] at this
          omega
      have z0 : Tb m M (st q) i N = 0 := by
        have w := (zr0 (ow (st q) i) p (Nat.le_of_lt hp)).mp fun l hl el => (hnp (by rw [← el]; exact fp.mem hl)).elim
        exact (zr0 (ow (st q) i) q (Nat.le_of_lt hq)).mpr w i hi rfl
      have h8 := (bq.min i hi h7).2 (by rw [deg q hq, z0, Int.zero_mul, Int.zero_mul])
      rw [etq] at h8
      omega
/-! a measure -/
def osAll : Nat → Nat → List (List Nat)
  | 0, _ => [[]]
  | m + 1, N => (List.range N).flatMap fun x => (osAll m N).map (x :: ·)
theorem osAll_mem : ∀ {m N : Nat} {os : List Nat}, os.length = m → (∀ x ∈ os, x < N) → os ∈ osAll m N
  | 0, N, [], _, _ => List.mem_singleton.mpr rfl
  | m + 1, N, x :: os, h, h2 => List.mem_flatMap.mpr ⟨x, List.mem_range.mpr (h2 x List.mem_cons_self), List.mem_map.mpr ⟨os, osAll_mem (by simpa using h) (fun y hy => h2 y (List.mem_cons_of_mem _ hy)), rfl⟩⟩
  | 0, N, x :: os, h, _ => by simp at h
  | m + 1, N, [], h, _ => by simp at h
theorem count_lt {α : Type} {p q : α → Bool} {a : α} : ∀ {l : List α}, (∀ x, p x = true → q x = true) → a ∈ l → q a = true → p a = false → l.countP p < l.countP q
  | [], _, h, _, _ => by cases h
  | b :: l, hpq, h, hq, hp => by
    have mono : ∀ l : List α, l.countP p ≤ l.countP q := fun l => List.countP_mono_left fun x _ => hpq x
    rcases List.mem_cons.mp h with e | h
    · subst e
      rw [List.countP_cons_of_neg (by rw [hp]; decide), List.countP_cons_of_pos hq]
      have := mono l; omega
    · have := count_lt hpq h hq hp
      by_cases hb : p b = true
      · rw [List.countP_cons_of_pos hb, List.countP_cons_of_pos (hpq b hb)]; omega
      · rw [List.countP_cons_of_neg hb]
        by_cases hb2 : q b = true
        · rw [List.countP_cons_of_pos hb2]; omega
        · rw [List.countP_cons_of_neg hb2]; exact this
/-- a way of turns from the start, its owner lists by the turn -/
structure Way (m N : Nat) (M : Nat → Nat → Int) (g : Nat → Int) (st : Nat → List Nat) (k : Nat) : Prop where
  fs : ∀ i, i ≤ k → Feas m N M (st i)
  sp : ∀ i, i < k → Stp m N M g (st i) (st (i + 1))
def newer (st : Nat → List Nat) (k : Nat) (o : List Nat) : Bool := (List.range (k + 1)).all fun i => decide (st i ≠ o)
def left (m N : Nat) (st : Nat → List Nat) (k : Nat) : Nat := (osAll m N).countP (newer st k)
theorem Way.new {st : Nat → List Nat} {k : Nat} (un : Un m n M) (g0 : ∀ k, k < m → g (n + k) = 0) (w : Way m N M g st k) (b : Bl m N M g (st k) c r) :
    ∃ st', st' (k + 1) = (st k).set r c ∧ Way m N M g st' (k + 1) ∧ left m N st' (k + 1) < left m N st k := by
  have f' := (w.fs k (Nat.le_refl _)).turn b
  let st' : Nat → List Nat := fun i => if i ≤ k then st i else (st k).set r c
  have s1 : ∀ i, i ≤ k → st' i = st i := fun i h => if_pos h
  have s2 : st' (k + 1) = (st k).set r c := if_neg (by omega)
  have w' : Way m N M g st' (k + 1) := ⟨fun i h => by
    by_cases e : i ≤ k
    · rw [s1 i e]; exact w.fs i e
    · rw [show i = k + 1 by omega, s2]; exact f', fun i h => by
    by_cases e : i < k
    · rw [s1 i (by omega), s1 (i + 1) (by omega)]; exact w.sp i e
    · have e2 : i = k := by omega
      subst e2
      rw [s1 i (Nat.le_refl _), s2]; exact ⟨c, r, b, rfl⟩⟩
  refine ⟨st', s2, w', count_lt (a := (st k).set r c) (fun o h => ?_) (osAll_mem f'.len fun x hx => ?_) ?_ ?_⟩
  · unfold newer at h ⊢
    rw [List.all_eq_true] at h ⊢
    intro i hi
    have := h i (List.mem_range.mpr (by have := List.mem_range.mp hi; omega))
    rw [s1 i (by have := List.mem_range.mp hi; omega)] at this
    exact this
  · obtain ⟨i, hi, rfl⟩ := f'.ex hx
    exact f'.lt i hi
  · unfold newer
    rw [List.all_eq_true]
    intro i hi
    have hi' := List.mem_range.mp hi
    refine decide_eq_true fun z => ?_
    refine bland (N := N) un g0 (fun j => st' (i + j)) (k + 1 - i) (by omega) (fun j hj => w'.fs _ (by omega)) (fun j hj => w'.sp _ (by omega)) ?_
    show st' (i + (k + 1 - i)) = st' i
    rw [show i + (k + 1 - i) = k + 1 by omega, s2, s1 i (by omega), z]
  · unfold newer
    rw [Bool.eq_false_iff]
    intro z
    rw [List.all_eq_true] at z
    have := of_decide_eq_true (z (k + 1) (List.mem_range.mpr (by omega)))
    exact this s2
end
end SX

/-! GSd: which line goes, how great the numbers are, the greatest sum. -/
namespace SX
section
variable {m N n : Nat} {M : Nat → Nat → Int} {g : Nat → Int} {os : List Nat} {i j r c l : Nat}
theorem Feas.going (f : Feas m N M os) (nnM : ∀ k, k < m → ∀ j, j < N → 0 ≤ M k j) (hc : ∃ k, k < m ∧ 0 < M k c) : ∃ r, r < m ∧ 0 < Tb m M os r c := Decidable.by_contra fun z => by
  obtain ⟨k, hk, hp⟩ := hc
  have h1 := f.cr k hk c
  have h2 := Int.mul_pos f.pos hp
  have h3 : 0 ≤ sm m fun i => - (M k (ow os i) * Tb m M os i c) := sm_nn fun i hi => by
    have q1 := nnM k hk (ow os i) (f.lt i hi)
    have q2 : Tb m M os i c ≤ 0 := Int.not_lt.mp fun y => z ⟨i, hi, y⟩
    have := Int.mul_nonneg q1 (show 0 ≤ - Tb m M os i c by omega)
    rw [Int.mul_neg] at this
    exact this
  have h4 := sm_mul (a := -1) (n := m) (f := fun i => M k (ow os i) * Tb m M os i c)
  rw [show (sm m fun i => - (M k (ow os i) * Tb m M os i c)) = sm m fun i => -1 * (M k (ow os i) * Tb m M os i c) from sm_congr fun i _ => by omega, h4] at h3
  omega
/-- sizes -/
def nrm (m : Nat) (v : Nat → Int) : Int := sm m fun k => ((v k).natAbs : Int)
theorem iw_bd (m : Nat) {C : Nat} : ∀ {cs : List (Nat → Int)} (S : List Bool), (∀ c ∈ cs, nrm m c ≤ C) → (iw m cs S).natAbs ≤ C ^ cs.length
  | [], S, _ => by show (one S).natAbs ≤ 1; unfold one; split <;> decide
  | c :: cs, S, h => by
    have := wd_bd m c (iw m cs) (C ^ cs.length) C S (fun S => iw_bd m S fun c hc => h c (List.mem_cons_of_mem _ hc)) (h c List.mem_cons_self)
    rw [List.length_cons, Nat.pow_succ, Nat.mul_comm]
    exact this
theorem iw_bd2 (m : Nat) {C B : Nat} {v : Nat → Int} (hB : nrm m v ≤ B) (h1 : 1 ≤ C) : ∀ {cs : List (Nat → Int)} {i : Nat} (S : List Bool), i < cs.length → (∀ c ∈ cs, nrm m c ≤ C) → (iw m (cs.set i v) S).natAbs ≤ C ^ cs.length * B
  | [], i, S, h, _ => by simp at h
  | c :: cs, 0, S, _, h => by
    have := wd_bd m v (iw m cs) (C ^ cs.length) B S (fun S => iw_bd m S fun c hc => h c (List.mem_cons_of_mem _ hc)) hB
    show (wd m v (iw m cs) S).natAbs ≤ _
    refine Nat.le_trans this ?_
    rw [Nat.mul_comm, List.length_cons]
    exact Nat.mul_le_mul_right _ (Nat.pow_le_pow_right h1 (Nat.le_succ _))
  | c :: cs, i + 1, S, hi, h => by
    have := wd_bd m c (iw m (cs.set i v)) (C ^ cs.length * B) C S (fun S => iw_bd2 m hB h1 S (by simpa using hi) fun c hc => h c (List.mem_cons_of_mem _ hc)) (h c List.mem_cons_self)
    show (wd m c (iw m (cs.set i v)) S).natAbs ≤ _
    refine Nat.le_trans this ?_
    rw [List.length_cons, Nat.pow_succ, ← Nat.mul_assoc, Nat.mul_comm C]
    exact Nat.le_refl _
theorem Dt_bd {C : Nat} (hl : os.length = m) (h : ∀ i, i < m → nrm m (col M (ow os i)) ≤ C) : (Dt m M os).natAbs ≤ C ^ m := by
  have := iw_bd m (C := C) (cs := os.map (col M)) (List.replicate m true) fun c hc => by
    obtain ⟨x, hx, rfl⟩ := List.mem_map.mp hc
    obtain ⟨i, hi, e⟩ := List.getElem_of_mem hx
    have q := h i (by omega)
    rw [ow_of (by rw [List.getElem?_eq_getElem hi, e])] at q
    exact q
  rw [List.length_map, hl] at this
  exact this
theorem Tb_bd {C B : Nat} (hl : os.length = m) (h : ∀ i, i < m → nrm m (col M (ow os i)) ≤ C) (hB : nrm m (col M j) ≤ B) (h1 : 1 ≤ C) (hi : i < m) : (Tb m M os i j).natAbs ≤ C ^ m * B := by
  have := iw_bd2 m (C := C) (cs := os.map (col M)) (i := i) hB h1 (List.replicate m true) (by simp; omega) fun c hc => by
    obtain ⟨x, hx, rfl⟩ := List.mem_map.mp hc
    obtain ⟨i, hi, e⟩ := List.getElem_of_mem hx
    have q := h i (by omega)
    rw [ow_of (by rw [List.getElem?_eq_getElem hi, e])] at q
    exact q
  rw [List.length_map, hl] at this
  unfold Tb Dt
  rw [List.map_set]
  exact this
theorem sm_abs : ∀ {n : Nat} {f : Nat → Int} {B : Nat}, (∀ i, i < n → (f i).natAbs ≤ B) → (sm n f).natAbs ≤ n * B
  | 0, _, _, _ => by simp [sm]
  | n + 1, f, B, h => by
    have h1 := sm_abs fun i hi => h i (Nat.lt_succ_of_lt hi)
    have h2 := h n (Nat.lt_succ_self n)
    show (sm n f + f n).natAbs ≤ _
    rw [Nat.add_mul, Nat.one_mul]
    omega
theorem Gl_bd {D G : Nat} (hD : (Dt m M os).natAbs ≤ D) (hT : ∀ i, i < m → (Tb m M os i j).natAbs ≤ D) (hj : (g j).natAbs ≤ G) (hG : ∀ i, i < m → (g (ow os i)).natAbs ≤ G) : (Gl m M g os j).natAbs ≤ (m + 1) * (G * D) := by
  have h1 : (Dt m M os * g j).natAbs ≤ G * D := by
    rw [Int.natAbs_mul, Nat.mul_comm]; exact Nat.mul_le_mul hj hD
  have h2 := sm_abs (n := m) (f := fun i => g (ow os i) * Tb m M os i j) (B := G * D) fun i hi => by
    rw [Int.natAbs_mul]; exact Nat.mul_le_mul (hG i hi) (hT i hi)
  unfold Gl
  rw [Nat.add_mul, Nat.one_mul]
  omega
/-- the numbers that a basis gives -/
def xv (m N : Nat) (M : Nat → Nat → Int) (os : List Nat) (j : Nat) : Int := sm m fun i => if ow os i = j then Tb m M os i N else 0
theorem xv_nn (f : Feas m N M os) : 0 ≤ xv m N M os j := sm_nn fun i hi => by
  split
  · exact f.nn i hi
  · exact Int.le_refl 0
theorem xv_at (f : Feas m N M os) (hi : i < m) : xv m N M os (ow os i) = Tb m M os i N := by
  unfold xv
  rw [sm_one i hi fun l h1 h2 => if_neg fun z => h2 (f.nd h1 hi z), if_pos rfl]
theorem xv_off (h : ∀ i, i < m → ow os i ≠ j) : xv m N M os j = 0 := sm_zero fun i hi => if_neg (h i hi)
/-- a weighted sum of them -/
theorem xv_sum (a : Nat → Int) : (sm n fun j => a j * xv m N M os j) = sm m fun i => (if ow os i < n then a (ow os i) else 0) * Tb m M os i N := by
  have e : (sm n fun j => a j * xv m N M os j) = sm n fun j => sm m fun i => a j * (if ow os i = j then Tb m M os i N else 0) := sm_congr fun j _ => by unfold xv; rw [sm_mul]
  rw [e, sm_swap]
  refine sm_congr fun i hi => ?_
  by_cases h : ow os i < n
  · rw [if_pos h, sm_one (ow os i) h fun j _ hn => by rw [if_neg (fun z => hn z.symm), Int.mul_zero], if_pos rfl]
  · rw [if_neg h, sm_zero fun j hj => by rw [if_neg (by omega), Int.mul_zero], Int.zero_mul]
structure Opt (m n : Nat) (M : Nat → Nat → Int) (w : Nat → Int) (s : Int) (x p : Nat → Int) : Prop where
  pos : 0 < s
  xn : ∀ j, j < n → 0 ≤ x j
  pn : ∀ k, k < m → 0 ≤ p k
  caps : ∀ k, k < m → (sm n fun j => M k j * x j) ≤ s * M k (n + m)
  cover : ∀ j, j < n → s * w j ≤ sm m fun k => p k * M k j
  same : (sm n fun j => w j * x j) = sm m fun k => p k * M k (n + m)
theorem opt (un : Un m n M) {w : Nat → Int} (gw : ∀ j, j < n → g j = - w j) (g0 : ∀ k, k < m → g (n + k) = 0) (gN : g (n + m) = 0) (nnM : ∀ k, k < m → ∀ j, j < n + m → 0 ≤ M k j) (f : Feas m (n + m) M os) (top : ∀ j, j < n + m → 0 ≤ Gl m M g os j) :
    Opt m n M w (Dt m M os) (xv m (n + m) M os) (fun k => Gl m M g os (n + k)) where
  pos := f.pos
  xn := fun j _ => xv_nn f
  pn := fun k hk => top (n + k) (by omega)
  caps := fun k hk => by
    rw [xv_sum, f.cr k hk]
    refine sm_le fun i hi => ?_
    refine Int.mul_le_mul_of_nonneg_right ?_ (f.nn i hi)
    split
    · exact Int.le_refl _
    · exact nnM k hk _ (f.lt i hi)
  cover := fun j hj => by
    have h1 := Gl_dual (j := j) f.len un g0
    have h2 := top j (by omega)
    rw [gw j hj, Int.mul_neg] at h1
    omega
  same := by
    have h1 := Gl_dual (j := n + m) f.len un g0
    rw [gN, Int.mul_zero, Int.zero_add] at h1
    rw [← h1, xv_sum]
    unfold Gl
    rw [gN, Int.mul_zero, Int.zero_sub]
    have h2 := sm_mul (a := -1) (n := m) (f := fun i => g (ow os i) * Tb m M os i (n + m))
    rw [show (- sm m fun i => g (ow os i) * Tb m M os i (n + m)) = -1 * sm m fun i => g (ow os i) * Tb m M os i (n + m) by omega, ← h2]
    refine sm_congr fun i hi => ?_
    have := f.lt i hi
    by_cases h : ow os i < n
    · rw [if_pos h, gw _ h]; grind
    · rw [if_neg h, show ow os i = n + (ow os i - n) by omega, g0 _ (by omega)]; grind
end
end SX

/-! GSe: the table as lists, what the turns do to lists. -/
namespace SX
/-- a function's values at 0 .. n - 1 -/
def fl (n : Nat) (f : Nat → Int) : List Int := (List.range n).map f
theorem fl_len {n : Nat} {f : Nat → Int} : (fl n f).length = n := by simp [fl]
theorem fl_get {n j : Nat} {f : Nat → Int} (h : j < n) : (fl n f)[j]? = some (f j) := by simp [fl, h]
theorem fl_getD {n j : Nat} {f : Nat → Int} (h : j < n) : (fl n f).getD j 0 = f j := by rw [List.getD_eq_getElem?_getD, fl_get h]; rfl
theorem fl_of {l : List Int} : fl l.length (fun j => l.getD j 0) = l := by
  refine List.ext_getElem? fun j => ?_
  by_cases h : j < l.length
  · rw [fl_get h, List.getD_eq_getElem?_getD, List.getElem?_eq_getElem h]; rfl
  · rw [List.getElem?_eq_none (by rw [fl_len]; omega), List.getElem?_eq_none (by omega)]
theorem fl_congr {n : Nat} {f g : Nat → Int} (h : ∀ j, j < n → f j = g j) : fl n f = fl n g := List.map_congr_left fun j hj => h j (List.mem_range.mp hj)
theorem fl_mem {n : Nat} {f : Nat → Int} {x : Int} (h : x ∈ fl n f) : ∃ j, j < n ∧ x = f j := by
  obtain ⟨j, hj, rfl⟩ := List.mem_map.mp h
  exact ⟨j, List.mem_range.mp hj, rfl⟩
theorem fl_sum {n : Nat} {f : Nat → Int} : (fl n f).sum = sm n f := by
  induction n with
  | zero => rfl
  | succ n ih =>
    have : fl (n + 1) f = fl n f ++ [f n] := by simp [fl, List.range_succ]
    rw [this, List.sum_append, ih]
    show _ + (f n + 0) = sm n f + f n
    omega
theorem fl_take {n k : Nat} {f : Nat → Int} (h : k ≤ n) : (fl n f).take k = fl k f := by
  unfold fl
  rw [← List.map_take, List.take_range, Nat.min_eq_left h]
theorem fl_drop {n k : Nat} {f : Nat → Int} : (fl n f).drop k = fl (n - k) (fun j => f (k + j)) := by
  refine List.ext_getElem? fun j => ?_
  rw [List.getElem?_drop]
  by_cases h : k + j < n
  · rw [fl_get h, fl_get (by omega)]
  · rw [List.getElem?_eq_none (by rw [fl_len]; omega), List.getElem?_eq_none (by rw [fl_len]; omega)]
theorem fl_last {n : Nat} {f : Nat → Int} : (fl (n + 1) f)[(fl (n + 1) f).length - 1]? = some (f n) := by
  rw [fl_len]; exact fl_get (by omega)
/-- a line from which a column is taken -/
def clrF (s : Int) (line turning : List Int) (c : Nat) : List Int := fl line.length fun k => (turning.getD c 0 * line.getD k 0 - line.getD c 0 * turning.getD k 0) / s
/-- the first column below 0, but the last one -/
def comeF (goal : List Int) : Option Nat := (List.range (goal.length - 1)).find? fun c => decide (goal.getD c 0 < 0)
def better (lines : List (List Int)) (owners : List Nat) (c b k : Nat) : Bool :=
  let at_ := fun k j => (lines.getD k []).getD j 0
  let last := fun k => (lines.getD k []).getD ((lines.getD k []).length - 1) 0
  decide (last k * at_ b c < last b * at_ k c) || (decide (last k * at_ b c = last b * at_ k c) && decide (owners.getD k 0 < owners.getD b 0))
def goS (lines : List (List Int)) (owners : List Nat) (c : Nat) (best : Option Nat) (k : Nat) : Option Nat :=
  if 0 < (lines.getD k []).getD c 0 then (match best with
    | none => some k
    | some b => if better lines owners c b k = true then some k else some b) else best
def goF (lines : List (List Int)) (owners : List Nat) (c : Nat) : Option Nat := (List.range lines.length).foldl (goS lines owners c) none
def turnL (s : Int) (lines : List (List Int)) (r c i : Nat) : List (List Int) := (List.range lines.length).map fun k => if k < i ∧ k ≠ r then clrF s (lines.getD k []) (lines.getD r []) c else lines.getD k []
section
variable {m N n : Nat} {M : Nat → Nat → Int} {g : Nat → Int} {os : List Nat} {i j r c l : Nat}
def linT (m N : Nat) (M : Nat → Nat → Int) (os : List Nat) : List (List Int) := (List.range m).map fun i => fl (N + 1) (Tb m M os i)
def golT (m N : Nat) (M : Nat → Nat → Int) (g : Nat → Int) (os : List Nat) : List Int := fl (N + 1) (Gl m M g os)
theorem linT_len : (linT m N M os).length = m := by simp [linT]
theorem linT_get (h : i < m) : (linT m N M os)[i]? = some (fl (N + 1) (Tb m M os i)) := by simp [linT, h]
theorem linT_getD (h : i < m) : (linT m N M os).getD i [] = fl (N + 1) (Tb m M os i) := by rw [List.getD_eq_getElem?_getD, linT_get h]; rfl
theorem clr_T (f : Feas m N M os) (hi : i < m) (hr : r < m) (ne : i ≠ r) (hc : c < N + 1) : clrF (Dt m M os) (fl (N + 1) (Tb m M os i)) (fl (N + 1) (Tb m M os r)) c = fl (N + 1) (Tb m M (os.set r c) i) := by
  unfold clrF
  rw [fl_len]
  refine fl_congr fun j hj => ?_
  rw [fl_getD hj, fl_getD hj, fl_getD hc, fl_getD hc]
  have h := turn_T (c := c) (j := j) f.len f.cr hi hr ne
  rw [show Dt m M (os.set r c) = Tb m M os r c from rfl] at h
  rw [← h]
  exact Int.mul_ediv_cancel_left _ (by have := f.pos; omega)
theorem clr_G (f : Feas m N M os) (hr : r < m) (hc : c < N + 1) : clrF (Dt m M os) (golT m N M g os) (fl (N + 1) (Tb m M os r)) c = golT m N M g (os.set r c) := by
  unfold clrF golT
  rw [fl_len]
  refine fl_congr fun j hj => ?_
  rw [fl_getD hj, fl_getD hj, fl_getD hc, fl_getD hc]
  have h := turn_G (g := g) (c := c) (j := j) f.len f.cr hr
  rw [show Dt m M (os.set r c) = Tb m M os r c from rfl] at h
  rw [← h]
  exact Int.mul_ediv_cancel_left _ (by have := f.pos; omega)
theorem turn_L (f : Feas m N M os) (hr : r < m) (hc : c < N + 1) : turnL (Dt m M os) (linT m N M os) r c m = linT m N M (os.set r c) := by
  unfold turnL
  rw [linT_len]
  refine List.map_congr_left fun k hk => ?_
  have hk' := List.mem_range.mp hk
  rw [linT_getD hk', linT_getD hr]
  by_cases e : k = r
  · subst e
    rw [if_neg (fun z => z.2 rfl)]
    exact fl_congr fun j _ => (Tb_turn (by rw [f.len]; exact hk')).symm
  · rw [if_pos ⟨hk', e⟩]
    exact clr_T f hk' hr e hc
theorem come_some {goal : List Int} {c : Nat} (h : comeF goal = some c) : c < goal.length - 1 ∧ goal.getD c 0 < 0 ∧ ∀ j, j < c → 0 ≤ goal.getD j 0 := by
  unfold comeF at h
  rw [List.find?_eq_some_iff_getElem] at h
  obtain ⟨h1, i, hi, e, h2⟩ := h
  rw [List.getElem_range] at e
  subst e
  refine ⟨by simpa using hi, of_decide_eq_true h1, fun j hj => ?_⟩
  have := h2 j hj
  rw [List.getElem_range] at this
  simpa using this
theorem come_none {goal : List Int} (h : comeF goal = none) : ∀ j, j < goal.length - 1 → 0 ≤ goal.getD j 0 := fun j hj => by
  unfold comeF at h
  rw [List.find?_eq_none] at h
  have := h j (List.mem_range.mpr hj)
  simpa using this
/-- what the first lines give -/
structure GoOk (m N : Nat) (M : Nat → Nat → Int) (os : List Nat) (c : Nat) (k : Nat) (best : Option Nat) : Prop where
  no : best = none → ∀ i, i < k → Tb m M os i c ≤ 0
  yes : ∀ b, best = some b → b < k ∧ 0 < Tb m M os b c ∧ ∀ i, i < k → 0 < Tb m M os i c → Tb m M os b N * Tb m M os i c ≤ Tb m M os i N * Tb m M os b c ∧ (Tb m M os b N * Tb m M os i c = Tb m M os i N * Tb m M os b c → ow os b ≤ ow os i)
theorem goS_ok (hl : os.length = m) {k : Nat} (hk : k < m) (hc : c < N + 1) {best : Option Nat} (h : GoOk m N M os c k best) : GoOk m N M os c (k + 1) (goS (linT m N M os) os c best k) := by
  have eC : ∀ i, i < m → ((linT m N M os).getD i []).getD c 0 = Tb m M os i c := fun i hi => by rw [linT_getD hi, fl_getD hc]
  have eL : ∀ i, i < m → ((linT m N M os).getD i []).getD (((linT m N M os).getD i []).length - 1) 0 = Tb m M os i N := fun i hi => by
    rw [linT_getD hi, fl_len]; exact fl_getD (by omega)
  have eO : ∀ i, i < m → os.getD i 0 = ow os i := fun i _ => rfl
  unfold goS
  rw [eC k hk]
  by_cases p : 0 < Tb m M os k c
  · rw [if_pos p]
    cases best with
    | none =>
      refine ⟨fun z => (by cases z), fun b e => ?_⟩
      cases e
      refine ⟨Nat.lt_succ_self k, p, fun i hi hp => ?_⟩
      by_cases e : i = k
      · subst e; exact ⟨Int.le_refl _, fun _ => Nat.le_refl _⟩
      · have := h.no rfl i (by omega); omega
    | some b =>
      obtain ⟨hb, pb, min⟩ := h.yes b rfl
      have hbm : b < m := by omega
      by_cases bt : better (linT m N M os) os c b k = true
      · simp only [bt, if_true]
        unfold better at bt
        simp only [eC k hk, eC b hbm, eL k hk, eL b hbm] at bt
        refine ⟨fun z => (by cases z), fun b' e => ?_⟩
        cases e
        refine ⟨Nat.lt_succ_self _, p, fun i hi hp => ?_⟩
        by_cases e : i = k
        · subst e; exact ⟨Int.le_refl _, fun _ => Nat.le_refl _⟩
        obtain ⟨m1, m2⟩ := min i (by omega) hp
        have le : Tb m M os k N * Tb m M os b c ≤ Tb m M os b N * Tb m M os k c := by
          rcases Bool.or_eq_true _ _ |>.mp bt with q | q
          · exact Int.le_of_lt (of_decide_eq_true q)
          · rw [Bool.and_eq_true] at q
            exact Int.le_of_eq (of_decide_eq_true q.1)
        refine ⟨le_chain p pb hp le m1, fun q => ?_⟩
        rcases Bool.or_eq_true _ _ |>.mp bt with lt | eq
        · exact (lt_chain hp p pb (Int.le_of_eq q.symm) (of_decide_eq_true lt) m1).elim
        · rw [Bool.and_eq_true] at eq
          have eq1 := of_decide_eq_true eq.1
          have eq2 : ow os k < ow os b := of_decide_eq_true eq.2
          have m3 := m2 (by
            rcases Int.lt_or_le (Tb m M os b N * Tb m M os i c) (Tb m M os i N * Tb m M os b c) with y | y
            · exact (lt_chain p pb hp (Int.le_of_eq eq1) y (Int.le_of_eq q.symm)).elim
            · omega)
          omega
      · have bt' := Bool.eq_false_iff.mpr bt
        simp only [bt', Bool.false_eq_true, if_false]
        unfold better at bt'
        simp only [eC k hk, eC b hbm, eL k hk, eL b hbm] at bt'
        rw [Bool.or_eq_false_iff] at bt'
        refine ⟨fun z => (by cases z), fun b' e => ?_⟩
        cases e
        refine ⟨by omega, pb, fun i hi hp => ?_⟩
        by_cases e : i = k
        · subst e
          have q1 := of_decide_eq_false bt'.1
          refine ⟨by omega, fun q => ?_⟩
          have q2 : (decide (Tb m M os i N * Tb m M os b c = Tb m M os b N * Tb m M os i c) && decide (ow os i < ow os b)) = false := bt'.2
          rw [decide_eq_true q.symm, Bool.true_and] at q2
          have := of_decide_eq_false q2
          omega
        · exact min i (by omega) hp
  · rw [if_neg p]
    refine ⟨fun z i hi => ?_, fun b e => ?_⟩
    · by_cases e : i = k
      · subst e; omega
      · exact h.no z i (by omega)
    · obtain ⟨hb, pb, min⟩ := h.yes b e
      refine ⟨by omega, pb, fun i hi hp => ?_⟩
      by_cases e : i = k
      · subst e; omega
      · exact min i (by omega) hp
theorem goF_ok (hl : os.length = m) (hc : c < N + 1) : GoOk m N M os c m (goF (linT m N M os) os c) := by
  have gen : ∀ k, k ≤ m → GoOk m N M os c k ((List.range k).foldl (goS (linT m N M os) os c) none) := fun k => by
    induction k with
    | zero => intro _; exact ⟨fun _ i hi => absurd hi (Nat.not_lt_zero i), fun b e => by cases e⟩
    | succ k ih =>
      intro h
      rw [List.range_succ, List.foldl_append]
      exact goS_ok hl (by omega) hc (ih (by omega))
  have := gen m (Nat.le_refl m)
  unfold goF
  rw [linT_len]
  exact this
/-- one turn by Bland's rule -/
theorem bl_of (f : Feas m N M os) (hc : comeF (golT m N M g os) = some c) (nnM : ∀ k, k < m → ∀ j, j < N → 0 ≤ M k j) (nz : ∀ j, j < N → ∃ k, k < m ∧ 0 < M k j) : ∃ r, goF (linT m N M os) os c = some r ∧ r < m ∧ Bl m N M g os c r := by
  obtain ⟨h1, h2, h3⟩ := come_some hc
  unfold golT at h1 h2 h3
  rw [fl_len] at h1
  have hcN : c < N := by omega
  rw [fl_getD (by omega)] at h2
  have ok := goF_ok (M := M) (os := os) (N := N) (c := c) f.len (by omega)
  cases q : goF (linT m N M os) os c with
  | none =>
    obtain ⟨r, hr, hp⟩ := f.going nnM (nz c hcN)
    have := ok.no q r hr
    omega
  | some r =>
    obtain ⟨hr, hp, hm⟩ := ok.yes r q
    exact ⟨r, rfl, hr, ⟨hcN, h2, fun j hj => by have := h3 j hj; rw [fl_getD (by omega)] at this; exact this, hr, hp, hm⟩⟩
theorem top_of (hc : comeF (golT m N M g os) = none) : ∀ j, j < N → 0 ≤ Gl m M g os j := fun j hj => by
  have := come_none hc j (by unfold golT; rw [fl_len]; omega)
  unfold golT at this
  rw [fl_getD (by omega)] at this
  exact this
end
end SX

/-! GZa: dicts whose keys are pairs of a number and a tuple of numbers. -/
namespace XN
open PySem PySem.Spec PyProof.Rows L2
abbrev NK := Int × List Int
def nk (k : NK) : NestedKey := .tup [.num k.1, .tup (k.2.map .num)]
theorem nums_inj : ∀ {a b : List Int}, a.map NestedKey.num = b.map NestedKey.num → a = b
  | [], [], _ => rfl
  | [], _ :: _, h => by cases h
  | _ :: _, [], h => by cases h
  | x :: a, y :: b, h => by
    rw [List.map_cons, List.map_cons, List.cons.injEq, NestedKey.num.injEq] at h
    rw [h.1, nums_inj h.2]
theorem nk_inj {a b : NK} (h : nk a = nk b) : a = b := by
  unfold nk at h
  rw [NestedKey.tup.injEq, List.cons.injEq, List.cons.injEq, NestedKey.num.injEq, NestedKey.tup.injEq] at h
  exact Prod.ext h.1 (nums_inj h.2.1)
theorem nums_hash (w w' : World) : ∀ ns : List Int, NestedKey.hashes w (ns.map .num) = NestedKey.hashes w' (ns.map .num)
  | [] => rfl
  | n :: ns => by
    rw [List.map_cons]
    unfold NestedKey.hashes
    rw [nums_hash w w' ns]
    congr 1
theorem nk_hash (w w' : World) (k : NK) : (nk k).hash w = (nk k).hash w' := by
  unfold nk NestedKey.hash NestedKey.hashes NestedKey.hashes NestedKey.hashes
  have := nums_hash w w' k.2
  unfold NestedKey.hash
  rw [this]
theorem nums_depth : ∀ ns : List Int, NestedKey.depthAll (ns.map .num) = 0
  | [] => rfl
  | n :: ns => by
    rw [List.map_cons]
    unfold NestedKey.depthAll
    rw [nums_depth ns]; rfl
theorem nk_depth (k : NK) : (nk k).depth ≤ 8 := by
  unfold nk NestedKey.depth NestedKey.depthAll NestedKey.depthAll NestedKey.depthAll NestedKey.depth
  rw [nums_depth]
  decide
abbrev NL := List (NK × Addr × Int)
abbrev NP : NL → List (NestedKey × Addr × Value) → Prop := Paired fun q x => nk q.1 = x.1 ∧ q.2.1 = x.2.1 ∧ RelV (.int q.2.2) x.2.2
def NF (p : Addr) (ks : NL) : Heap → Prop := fun h => (p == sysModules) = false ∧ ks.length ≤ sizeLine ∧ ∃ (w : World) (xs : List (NestedKey × Addr × Value)), NP ks xs ∧
  ∃ o es ep, h.get? p = some o ∧ o.ExactDict ∧ o.data = .dict es ep ∧ es.toList = xs.map (fun x => (⟨x.1.hash w, .ref x.2.1, x.2.2⟩ : DictEntry)) ∧ (xs.map (·.1)).Nodup
def KeyAt (H : Hp) (k : NK) (a : Addr) : Prop := ∃ b, H a = some (.tup [.int k.1, .ref b]) ∧ H b = some (.tup (k.2.map V.int))
def NRoot (H : Hp) (ks : NL) : Prop := ∀ q ∈ ks, KeyAt H q.1 q.2.1
section
variable {P : Program} {w : World} {H : Hp} {h : Heap} {a p : Addr} {ks : NL}
theorem ints_nest : ∀ {ns : List Int} {us : List Value}, Vals (ns.map V.int) us → NestedAll h (ns.map .num) us
  | [], _, q => by cases q; exact .nil
  | n :: ns, _, q => by
    cases q with
    | cons h1 h2 =>
      refine .cons ?_ (ints_nest h2)
      obtain ⟨t, rfl⟩ := (show ∃ t, _ = Value.int n t from h1)
      exact .int _ _
theorem key_nest (ok : HOk P w H h) {k : NK} (e : KeyAt H k a) : NestedIs h (nk k) (.ref a) := by
  obtain ⟨b, e1, e2⟩ := e
  obtain ⟨_, its, vs, o, h1, h2, n, h3⟩ := (show ObjOk P w H h a (.tup [.int k.1, .ref b]) from ok a _ e1)
  obtain ⟨_, its2, vs2, o2, g1, g2, n2, g3⟩ := (show ObjOk P w H h b (.tup (k.2.map V.int)) from ok b _ e2)
  refine .tup h1 h2 h3 ?_
  have : NestedAll h [.num k.1, .tup (k.2.map .num)] its := by
    cases vs with
    | cons r1 vs =>
      cases vs with
      | cons r2 vs =>
        cases vs
        obtain ⟨t, rfl⟩ := (show ∃ t, _ = Value.int k.1 t from r1)
        cases (show _ = Value.ref b from r2)
        exact .cons (.int _ _) (.cons (.tup g1 g2 g3 (by simpa using ints_nest vs2)) .nil)
  simpa using this
def junk : Obj := { cls := .none, data := .seq #[] 0 }
theorem nf_tie (ok : HOk P w H h) (e : H a = some (.ext (NF p ks))) : a = p := by
  obtain ⟨f, ⟨o, e1⟩, fr⟩ := (show ObjOk P w H h a (.ext (NF p ks)) from ok a _ e)
  apply Classical.byContradiction
  intro ne
  have sz : p < h.objs.size := by
    obtain ⟨_, _, _, _, _, o2, _, _, g, _⟩ := f
    exact Heap.lt_size g
  have f2 := fr h { h with objs := h.objs.setIfInBounds p junk } f (fun o ho => by
    unfold Heap.get? at ho ⊢
    rw [Array.getElem?_setIfInBounds_ne (fun z => ne z.symm)]
    exact ho)
  obtain ⟨_, _, _, _, _, o2, es, ep, g, _, d, _⟩ := f2
  have g2 : Heap.get? { h with objs := h.objs.setIfInBounds p junk } p = some junk := by
    unfold Heap.get?
    rw [Array.getElem?_setIfInBounds_self_of_lt sz]
    rfl
  rw [g2] at g
  cases g
  cases d
theorem np_hash (w w' : World) : ∀ {ks : NL} {xs : List (NestedKey × Addr × Value)}, NP ks xs → xs.map (fun x => (⟨x.1.hash w, .ref x.2.1, x.2.2⟩ : DictEntry)) = xs.map (fun x => (⟨x.1.hash w', .ref x.2.1, x.2.2⟩ : DictEntry))
  | [], _, q => by cases q; rfl
  | k :: ks, _, q => by
    cases q with
    | cons h1 h2 =>
      rw [List.map_cons, List.map_cons, np_hash w w' h2, ← h1.1, nk_hash w w']
theorem np_is (ok : HOk P w H h) : ∀ {ks : NL} {xs : List (NestedKey × Addr × Value)}, NP ks xs → NRoot H ks → ∀ x ∈ xs, (nestedKind P w).is h x.1 x.2.1
  | [], _, q, _ => by cases q; intro x hx; cases hx
  | k :: ks, _, q, r => by
    cases q with
    | @cons _ y _ ys h1 h2 =>
      intro x hx
      rcases List.mem_cons.mp hx with rfl | hx
      · rw [← h1.1, ← h1.2.1]
        exact ⟨key_nest ok (r k List.mem_cons_self), nk_depth _⟩
      · exact np_is ok h2 (fun z hz => r z (List.mem_cons_of_mem _ hz)) x hx
theorem nf_dict (ok : HOk P w H h) (e : H a = some (.ext (NF p ks))) (r : NRoot H ks) : a = p ∧ (p == sysModules) = false ∧ ks.length ≤ sizeLine ∧ ∃ xs, NP ks xs ∧ h.DictOfH (nestedKind P w) p xs := by
  have t := nf_tie ok e
  obtain ⟨⟨s0, hl, w', xs, np, o, es, ep, g1, g2, g3, g4, g5⟩, _, _⟩ := (show ObjOk P w H h a (.ext (NF p ks)) from ok a _ e)
  refine ⟨t, s0, hl, xs, np, o, es, ep, g1, g2, g3, ?_, np_is ok np r, g5⟩
  rw [g4, np_hash w' w np]; rfl
theorem nf_of {xs : List (NestedKey × Addr × Value)} (s0 : (p == sysModules) = false) (hl : ks.length ≤ sizeLine) (np : NP ks xs) (d : h.DictOfH (nestedKind P w) p xs) : ObjOk P w H h p (.ext (NF p ks)) := by
  obtain ⟨o, es, ep, g1, g2, g3, g4, _, g5⟩ := d
  exact ⟨⟨s0, hl, w, xs, np, o, es, ep, g1, g2, g3, g4, g5⟩, ⟨o, g1⟩, fun h1 h2 ⟨a1, a2, w', xs', np', o', es', ep', k1, k2⟩ hh => ⟨a1, a2, w', xs', np', o', es', ep', hh _ k1, k2⟩⟩
theorem nf_empty (h : Heap) (hb : sysModules < h.objs.size) : ObjOk P w H (h.push { cls := .type "dict", data := .dict #[] }) h.objs.size (.ext (NF h.objs.size [])) :=
  nf_of (w := w) (xs := []) (beq_eq_false_iff_ne.mpr (Nat.ne_of_gt hb)) (Nat.zero_le _) .nil ⟨_, #[], 0, Heap.get?_push_size _ rfl, ⟨rfl, rfl, rfl⟩, rfl, rfl, fun x hx => (by cases hx), List.nodup_nil⟩
end
/-! ### what a dict holds -/
def nv (ks : NL) (k : NK) : Option Int := (ks.find? fun x => decide (x.1 = k)).map (·.2.2)
theorem nv_pos {q : NK × Addr × Int} {r : NL} {k : NK} (e : q.1 = k) : nv (q :: r) k = some q.2.2 := by simp [nv, List.find?_cons, e]
theorem nv_neg {q : NK × Addr × Int} {r : NL} {k : NK} (e : ¬ q.1 = k) : nv (q :: r) k = nv r k := by simp [nv, List.find?_cons, e]
def nput (ks : NL) (k : NK) (a : Addr) (v : Int) : NL := if (nv ks k).isSome then ks.map (fun x => if x.1 = k then (x.1, x.2.1, v) else x) else ks ++ [(k, a, v)]
theorem nput_len {ks : NL} {k : NK} {a : Addr} {v : Int} : (nput ks k a v).length ≤ ks.length + 1 := by
  unfold nput
  split
  · rw [List.length_map]; omega
  · simp
theorem nput_key {ks : NL} {k : NK} {a : Addr} {v : Int} : ∀ q ∈ nput ks k a v, (q.1 = k ∧ q.2.1 = a) ∨ ∃ q' ∈ ks, q'.1 = q.1 ∧ q'.2.1 = q.2.1 := fun q hq => by
  unfold nput at hq
  split at hq
  · obtain ⟨x, hx, rfl⟩ := List.mem_map.mp hq
    refine .inr ⟨x, hx, ?_⟩
    split <;> exact ⟨rfl, rfl⟩
  · rcases List.mem_append.mp hq with h | h
    · exact .inr ⟨q, h, rfl, rfl⟩
    · rw [List.mem_singleton.mp h]; exact .inl ⟨rfl, rfl⟩
theorem nput_root {H : Hp} {ks : NL} {k : NK} {a : Addr} {v : Int} (r : NRoot H ks) (hk : KeyAt H k a) : NRoot H (nput ks k a v) := fun q hq => by
  rcases nput_key q hq with ⟨e1, e2⟩ | ⟨q', hq', e1, e2⟩
  · rw [e1, e2]; exact hk
  · rw [← e1, ← e2]; exact r q' hq'
theorem nv_put {ks : NL} {k j : NK} {a : Addr} {v : Int} : nv (nput ks k a v) j = if j = k then some v else nv ks j := by
  unfold nput
  by_cases z : (nv ks k).isSome = true
  · rw [if_pos z]
    have key : ∀ l : NL, (nv l k).isSome = true → nv (l.map fun x => if x.1 = k then (x.1, x.2.1, v) else x) j = if j = k then some v else nv l j := fun l => by
      by_cases ej : j = k
      · subst ej
        rw [if_pos rfl]
        induction l with
        | nil => intro z; cases z
        | cons x l ih =>
          intro z
          rw [List.map_cons]
          by_cases e : x.1 = j
          · rw [if_pos e]; exact nv_pos (q := (x.1, x.2.1, v)) e
          · rw [if_neg e, nv_neg e]; rw [nv_neg e] at z; exact ih z
      · rw [if_neg ej]
        refine fun _ => ?_
        clear z
        have k2 : ∀ l : NL, nv (l.map fun x => if x.1 = k then (x.1, x.2.1, v) else x) j = nv l j := fun l => by
          induction l with
          | nil => rfl
          | cons x l ih =>
            rw [List.map_cons]
            by_cases e : x.1 = k
            · rw [if_pos e, nv_neg (q := (x.1, x.2.1, v)) (fun t => ej (t.symm.trans e)), nv_neg (q := x) (fun t => ej (t.symm.trans e))]; exact ih
            · rw [if_neg e]
              by_cases e2 : x.1 = j
              · rw [nv_pos e2, nv_pos e2]
              · rw [nv_neg e2, nv_neg e2]; exact ih
        exact k2 l
    exact key ks z
  · rw [if_neg z]
    have z0 : nv ks k = none := by cases q : nv ks k with
      | none => rfl
      | some _ => rw [q] at z; exact absurd rfl z
    clear z
    induction ks with
    | nil =>
      by_cases ej : j = k
      · rw [if_pos ej]; exact nv_pos ej.symm
      · rw [if_neg ej]; exact nv_neg fun t => ej t.symm
    | cons x l ih =>
      have nk' : ¬ x.1 = k := fun t => by rw [nv_pos t] at z0; cases z0
      rw [nv_neg nk'] at z0
      rw [List.cons_append]
      by_cases ej : x.1 = j
      · rw [nv_pos ej, nv_pos ej, if_neg fun t => nk' (ej.trans t)]
      · rw [nv_neg ej, nv_neg ej]; exact ih z0
theorem NP.val : ∀ {ks : NL} {xs : List (NestedKey × Addr × Value)}, NP ks xs → ∀ k : NK, RelO ((nv ks k).map V.int) ((atKey xs (nk k)).map (·.2))
  | [], _, q, k => by cases q; exact True.intro
  | p :: ks, _, q, k => by
    cases q with
    | @cons _ y _ ys h1 h2 =>
      by_cases e : p.1 = k
      · have e' : y.1 = nk k := by rw [← h1.1, e]
        have b : atKey (y :: ys) (nk k) = some y.2 := by simp [atKey, List.find?_cons, e']
        rw [nv_pos e, b]; exact h1.2.2
      · have e' : ¬ y.1 = nk k := fun z => e (nk_inj (h1.1.trans z))
        have b : atKey (y :: ys) (nk k) = atKey ys (nk k) := by simp [atKey, List.find?_cons, e']
        rw [nv_neg e, b]; exact NP.val h2 k
theorem NP.put {ks : NL} {xs : List (NestedKey × Addr × Value)} (r : NP ks xs) (k : NK) (a : Addr) {v : Int} {u : Value} (rv : RelV (.int v) u) : NP (nput ks k a v) (storedH xs (nk k) a u) := by
  have e : (nv ks k).isSome = (atKey xs (nk k)).isSome := by
    have := (NP.val r k).isSome_eq
    rw [Option.isSome_map, Option.isSome_map] at this
    exact this
  unfold nput storedH
  rw [e]
  by_cases z : (atKey xs (nk k)).isSome = true
  · rw [if_pos z, if_pos z]
    clear z e
    induction r with
    | nil => exact .nil
    | @cons p q ps qs h t ih =>
      obtain ⟨h1, h2, h3⟩ := h
      rw [List.map_cons, List.map_cons]
      refine .cons ?_ ih
      by_cases e : p.1 = k
      · rw [if_pos e, putAt, if_pos (by rw [← h1, e])]; exact ⟨h1, h2, rv⟩
      · rw [if_neg e, putAt, if_neg fun z => e (nk_inj (h1.trans z))]; exact ⟨h1, h2, h3⟩
  · rw [if_neg z, if_neg z]
    have app : ∀ {l : NL} {m : List (NestedKey × Addr × Value)}, NP l m → NP (l ++ [(k, a, v)]) (m ++ [(nk k, a, u)]) := fun q => by
      induction q with
      | nil => exact .cons ⟨rfl, rfl, rv⟩ .nil
      | cons h _ ih => exact .cons h ih
    exact app r
section
variable {X : Cx} {o i e value : Expr} {pos pos' : Pos} {td ty tv : TE}
def tXnew : TE := fun σ H Q => ∀ p, H p = none → Q (.ref p) (upd H p (.ext (NF p [])))
theorem pe_xnew : PE X (.Dict [] [] pos) tXnew := ⟨fun pins s σ H Q I h =>
  wpAny_Dict_empty ⟨.ref s.heap.objs.size, _, I.laid (a := s.heap.objs.size) (o := .ext (NF s.heap.objs.size [])) (t' := s.toks) (fun _ _ q => Heap.get?_push_of_some _ q) (Nat.le_refl _) (nf_empty s.heap I.big), rfl, h _ (I.hok.fresh (Nat.le_refl _))⟩⟩
def tXget (td ty : TE) : TE := fun σ H Q => td σ H fun x H1 => ty σ H1 fun y H2 => ∃ a p ks b k v, x = .ref a ∧ y = .ref b ∧ H2 a = some (.ext (NF p ks)) ∧ NRoot H2 ks ∧ KeyAt H2 k b ∧ nv ks k = some v ∧ Q (.int v) H2
theorem pe_xget (hu : X.A.units + 16 < cLine) (ho : PE X o td) (hi : PE X i ty) (hs : NoSl i) : PE X (.Subscript o i pos) (tXget td ty) := by
  refine ⟨fun pins s σ H Q I h => ?_⟩
  refine subD_of PySem.F.slot_dict_getitem.lookup hs (thn (ho.run pins s σ H _ I h) fun u s1 ⟨x, H1, I1, rx, q1⟩ => thn (hi.run pins s1 σ H1 _ I1 q1) fun iv s2 ⟨y, H2, I2, ry, a, p, ks, b, k, v, ex, ey, g, r, hk, l, q2⟩ => ?_)
  subst ex ey
  obtain rfl : u = Value.ref a := rx
  obtain rfl : iv = Value.ref b := ry
  obtain ⟨rfl, s0, hl, xs, np, dd⟩ := nf_dict I2.hok g r
  refine ⟨dd.typeIs, ?_⟩
  obtain ⟨w', hw, rw'⟩ := RelO.some_of (v := V.int v) (o := (atKey xs (nk k)).map (·.2)) (by have := NP.val np k; rw [l] at this; exact this)
  obtain ⟨q, hp, hp2⟩ := Option.map_eq_some_iff.mp hw
  refine wpAny_getItem_heap (knd := nestedKind X.prog X.w) (show X.A.in1.units + 8 < cLine by show X.A.units + 1 + 8 < cLine; omega) ⟨key_nest I2.hok hk, nk_depth k⟩ dd hp ?_
  rw [hp2]
  exact ⟨_, H2, I2.tok _, rw', q2⟩
def sXput (td ty tv : TE) : TS := fun D σ H => tv σ H fun v H1 => td σ H1 fun x H2 => ty σ H2 fun y H3 => ∃ a p ks b k n, v = .int n ∧ x = .ref a ∧ y = .ref b ∧ H3 a = some (.ext (NF p ks)) ∧ NRoot H3 ks ∧ KeyAt H3 k b ∧ ks.length < sizeLine ∧ D.nx σ (upd H3 a (.ext (NF p (nput ks k b n))))
theorem ps_xput (hu : X.A.units + 16 < cLine) (ho : PE X o td) (hi : PE X i ty) (hv : PE X value tv) (hs : swapsWith value (some (.Subscript o i pos')) pos.line X.env = pure false) :
    PS X (.Assign [.Subscript o i pos'] value pos) (sXput td ty tv) := by
  refine ⟨fun pins s σ H D I h => ?_⟩
  refine wpAny_Assign_Subscript (thn (hv.run pins s σ H _ I h) fun r s1 ⟨v, H1, I1, rv, q1⟩ => thn (ho.run pins s1 σ H1 _ I1 q1) fun u s2 ⟨x, H2, I2, rx, q2⟩ => thn (hi.run pins s2 σ H2 _ I2 q2) fun iv s3 ⟨y, H3, I3, ry, a, p, ks, b, k, n, ev, ex, ey, g, rt, hk, hl, q3⟩ => ?_) hs
  subst ev ex ey
  obtain rfl : u = Value.ref a := rx
  obtain rfl : iv = Value.ref b := ry
  obtain ⟨rfl, s0, hz, xs, np, dd⟩ := nf_dict I3.hok g rt
  have hz2 : xs.length ≤ sizeLine := by rw [← Paired.length np]; exact hz
  refine wpAny_setItem_heap (knd := nestedKind X.prog X.w) (hsz := hz2) (show X.A.in1.units + 8 < cLine by show X.A.units + 1 + 8 < cLine; omega) ⟨key_nest I3.hok hk, nk_depth k⟩ dd fun h' dd' hs => ?_
  have he : ∃ q, h'.get? a = some q := let ⟨q, _, _, hq, _⟩ := dd'; ⟨q, hq⟩
  exact ⟨σ, _, d_write I3 (by rw [g]; exact True.intro) hs he (nf_of s0 (Nat.le_trans nput_len hl) (np.put k b rv) dd'), q3⟩
end
end XN

/-! GL: a layer of values over HandS: frozen data, own cells, readings without a heap. -/
namespace GL
open PySem PySem.Spec PyProof.Rows L2

/-! ### frozen data -/
/-- grp: a tuple whose object is known to be a plain one (its methods may be called) -/
inductive D where
  | none | bool (b : Bool) | int (i : Int) | str (x : Str) | list (ds : List D) | tuple (ds : List D) | grp (ds : List D)
mutual
def D.py : D → PyData
  | .none => .none
  | .bool b => .bool b
  | .int i => .int i
  | .str x => .str x
  | .list ds => .list (D.pyL ds)
  | .tuple ds => .tuple (D.pyL ds)
  | .grp ds => .tuple (D.pyL ds)
def D.pyL : List D → List PyData
  | [] => []
  | d :: ds => D.py d :: D.pyL ds
end
mutual
inductive DX (B : Hp) : V → D → Prop
  | non : DX B .non .none
  | bl (b : Bool) : DX B (.bl b) (.bool b)
  | int (i : Int) : DX B (.int i) (.int i)
  | str (x : Str) : DX B (.str x) (.str x)
  | lst {a : Addr} {xs : List V} {ds : List D} : B a = some (.lst xs) → DXL B xs ds → DX B (.ref a) (.list ds)
  | tup {a : Addr} {xs : List V} {ds : List D} : B a = some (.tup xs) → DXL B xs ds → DX B (.ref a) (.tuple ds)
  | grp {a : Addr} {xs : List V} {o : Obj} {ds : List D} : B a = some (.frz o (.tup xs)) → o.dict = none → DXL B xs ds → DX B (.ref a) (.grp ds)
inductive DXL (B : Hp) : List V → List D → Prop
  | nil : DXL B [] []
  | cons {v : V} {vs : List V} {d : D} {ds : List D} : DX B v d → DXL B vs ds → DXL B (v :: vs) (d :: ds)
end
abbrev Sub (B B' : Hp) : Prop := ∀ a o, B a = some o → B' a = some o
mutual
theorem DX.mono {B B' : Hp} (h : Sub B B') : ∀ (d : D) (v : V), DX B v d → DX B' v d
  | .none, _, q => by cases q; exact .non
  | .bool b, _, q => by cases q; exact .bl b
  | .int i, _, q => by cases q; exact .int i
  | .str x, _, q => by cases q; exact .str x
  | .list ds, _, q => by
    cases q with
    | lst e l => exact .lst (h _ _ e) (DXL.mono h ds _ l)
  | .tuple ds, _, q => by
    cases q with
    | tup e l => exact .tup (h _ _ e) (DXL.mono h ds _ l)
  | .grp ds, _, q => by
    cases q with
    | grp e z l => exact .grp (h _ _ e) z (DXL.mono h ds _ l)
theorem DXL.mono {B B' : Hp} (h : Sub B B') : ∀ (ds : List D) (vs : List V), DXL B vs ds → DXL B' vs ds
  | [], _, q => by cases q; exact .nil
  | d :: ds, _, q => by
    cases q with
    | cons q1 q2 => exact .cons (DX.mono h d _ q1) (DXL.mono h ds _ q2)
end
mutual
theorem DX.dp {K : PySem.W.Frag} {B : Hp} : ∀ (d : D) (v : V), DX B v d → Dp K B v d.py
  | .none, _, q => by cases q; exact .non
  | .bool b, _, q => by cases q; exact .bl b
  | .int i, _, q => by cases q; exact .int i
  | .str x, _, q => by cases q; exact .str x
  | .list ds, _, q => by
    cases q with
    | lst e l => exact .lst (SqL.of e) (DXL.dp ds _ l)
  | .tuple ds, _, q => by
    cases q with
    | tup e l => exact .tup (SqT.of e) (DXL.dp ds _ l)
  | .grp ds, _, q => by
    cases q with
    | grp e z l => exact .tup (.inl (.inr ⟨_, e⟩)) (DXL.dp ds _ l)
theorem DXL.dp {K : PySem.W.Frag} {B : Hp} : ∀ (ds : List D) (vs : List V), DXL B vs ds → DpAll K B vs (D.pyL ds)
  | [], _, q => by cases q; exact .nil
  | d :: ds, _, q => by
    cases q with
    | cons q1 q2 => exact .cons (DX.dp d _ q1) (DXL.dp ds _ q2)
end
theorem DXL.length {B : Hp} : ∀ {ds : List D} {vs : List V}, DXL B vs ds → vs.length = ds.length
  | [], _, q => by cases q; rfl
  | d :: ds, _, q => by
    cases q with
    | cons q1 q2 => simp [DXL.length q2]
theorem DXL.get {B : Hp} : ∀ {ds : List D} {vs : List V} {i : Nat} {d : D}, DXL B vs ds → ds[i]? = some d → ∃ v, vs[i]? = some v ∧ DX B v d
  | [], _, i, d, q, e => by simp at e
  | d :: ds, _, 0, _, q, e => by
    cases q with
    | cons q1 q2 => simp at e; subst e; exact ⟨_, rfl, q1⟩
  | d :: ds, _, i + 1, _, q, e => by
    cases q with
    | cons q1 q2 =>
      obtain ⟨v, h1, h2⟩ := DXL.get (i := i) q2 (by simpa using e)
      exact ⟨v, by simpa using h1, h2⟩
theorem DXL.get' {B : Hp} : ∀ {ds : List D} {vs : List V} {i : Nat} {v : V}, DXL B vs ds → vs[i]? = some v → ∃ d, ds[i]? = some d ∧ DX B v d
  | [], _, i, v, q, e => by cases q; simp at e
  | d :: ds, _, 0, _, q, e => by
    cases q with
    | cons q1 q2 => simp at e; subst e; exact ⟨_, rfl, q1⟩
  | d :: ds, _, i + 1, _, q, e => by
    cases q with
    | cons q1 q2 =>
      obtain ⟨v, h1, h2⟩ := DXL.get' (i := i) q2 (by simpa using e)
      exact ⟨v, by simpa using h1, h2⟩
theorem DXL.append {B : Hp} : ∀ {ds es : List D} {vs us : List V}, DXL B vs ds → DXL B us es → DXL B (vs ++ us) (ds ++ es)
  | [], _, _, _, q, r => by cases q; exact r
  | d :: ds, _, _, _, q, r => by
    cases q with
    | cons q1 q2 => exact .cons q1 (DXL.append q2 r)
theorem DXL.take {B : Hp} : ∀ {ds : List D} {vs : List V} (n : Nat), DXL B vs ds → DXL B (vs.take n) (ds.take n)
  | [], _, n, q => by cases q; simp; exact .nil
  | d :: ds, _, 0, q => by simp; exact .nil
  | d :: ds, _, n + 1, q => by
    cases q with
    | cons q1 q2 => exact .cons q1 (DXL.take n q2)
theorem DXL.drop {B : Hp} : ∀ {ds : List D} {vs : List V} (n : Nat), DXL B vs ds → DXL B (vs.drop n) (ds.drop n)
  | [], _, n, q => by cases q; simp; exact .nil
  | d :: ds, _, 0, q => q
  | d :: ds, _, n + 1, q => by
    cases q with
    | cons q1 q2 => exact DXL.drop n q2
theorem DXL.ints {B : Hp} : ∀ {ns : List Int} {vs : List V}, DXL B vs (ns.map .int) → vs = ns.map V.int
  | [], _, q => by cases q; rfl
  | n :: ns, _, q => by
    cases q with
    | cons q1 q2 => cases q1; rw [DXL.ints q2]; rfl
theorem DXL.bls {B : Hp} : ∀ {ns : List Bool} {vs : List V}, DXL B vs (ns.map .bool) → vs = ns.map V.bl
  | [], _, q => by cases q; rfl
  | n :: ns, _, q => by
    cases q with
    | cons q1 q2 => cases q1; rw [DXL.bls q2]; rfl
theorem DXL.strs {B : Hp} : ∀ {ns : List Str} {vs : List V}, DXL B vs (ns.map .str) → vs = ns.map V.str
  | [], _, q => by cases q; rfl
  | n :: ns, _, q => by
    cases q with
    | cons q1 q2 => cases q1; rw [DXL.strs q2]; rfl

/-! ### values, own cells, worlds -/
/-- at a: an exception of the class cls, its own dict at d -/
def ExV (cls : Value) (d : Option Addr) (a : Addr) : HO := .ext fun h => ∃ (oe : Obj) (vs : Array Value), h.get? a = some oe ∧ Zc cls d oe ∧ oe.data = .fields vs
theorem exV_ok {P : Program} {w : World} {H : Hp} {h : Heap} {a : Addr} {cls : Value} {d : Option Addr} {oe : Obj} {vs : Array Value} (e : h.get? a = some oe) (z : Zc cls d oe) (hd : oe.data = .fields vs) : ObjOk P w H h a (ExV cls d a) :=
  ⟨⟨oe, vs, e, z, hd⟩, ⟨oe, e⟩, fun _ _ ⟨o, v, q, r⟩ k => ⟨o, v, k o q, r⟩⟩
/-- an exception's own fields -/
inductive XD (B : Hp) : Option (List (Str × D)) → Option Addr → Prop
  | no : XD B none none
  | yes {fs : List (Str × D)} {vs : List (Str × V)} {a : Addr} : B a = some (.xd vs) → Paired (fun p q => p.1 = q.1 ∧ DX B q.2 p.2) fs vs → XD B (some fs) (some a)
theorem Paired.imp' {α β : Type} {F G : α → β → Prop} (f : ∀ a b, F a b → G a b) : ∀ {l : List α} {k : List β}, Paired F l k → Paired G l k
  | [], _, h => by cases h; exact .nil
  | a :: l, _, h => by
    cases h with
    | cons h1 h2 => exact .cons (f _ _ h1) (Paired.imp' f h2)
theorem XD.mono {B B' : Hp} (h : Sub B B') {fs : Option (List (Str × D))} {d : Option Addr} (x : XD B fs d) : XD B' fs d := by
  cases x with
  | no => exact .no
  | yes e p => exact .yes (h _ _ e) (Paired.imp' (fun a b q => ⟨q.1, q.2.mono h⟩) p)
/-- any other value; an exception: its class, its own fields -/
inductive RV where
  | val (v : V) | exc (c : Value) (fs : Option (List (Str × D)))
inductive RAt (B : Hp) : RV → V → Prop
  | val {v : V} : RAt B (.val v) v
  | exc {c : Value} {fs : Option (List (Str × D))} {a : Addr} {d : Option Addr} : B a = some (ExV c d a) → XD B fs d → RAt B (.exc c fs) (.ref a)
theorem RAt.mono {B B' : Hp} (h : Sub B B') {r : RV} {v : V} (x : RAt B r v) : RAt B' r v := by
  cases x with
  | val => exact .val
  | exc e q => exact .exc (h _ _ e) (q.mono h)
/-- a value: frozen data; the n-th own cell; a tuple that holds own cells; the script; any other value -/
inductive A where
  | d (x : D) | own (n : Nat) | tup (as : List A) | scr (ns : List Int) | raw (v : RV)
/-- what an own cell holds -/
inductive AO where
  | lst (as : List A) | dT (kvs : List (List Key × A)) | dK (kvs : List (Key × A)) | dX (f : XN.NK → Option Int) (n : Nat) | obj (C : Addr) (fs : List (Str × A)) | dead
abbrev Lo := List AO
abbrev Sl := List (Option A)
structure Wd where
  ρ : Nat → Addr
  B : Hp
  L : Lo
  H : Hp
mutual
inductive At (K : PySem.W.Frag) (W : Wd) : A → V → Prop
  | d {x : D} {v : V} : DX W.B v x → At K W (.d x) v
  | own {n : Nat} : n < W.L.length → At K W (.own n) (.ref (W.ρ n))
  | tup {a : Addr} {as : List A} {vs : List V} : W.B a = some (.tup vs) → AtL K W as vs → At K W (.tup as) (.ref a)
  | scr {a : Addr} {ns : List Int} : SqL K W.B a (ns.map V.int) → At K W (.scr ns) (.ref a)
  | raw {r : RV} {v : V} : RAt W.B r v → At K W (.raw r) v
inductive AtL (K : PySem.W.Frag) (W : Wd) : List A → List V → Prop
  | nil : AtL K W [] []
  | cons {a : A} {v : V} {as : List A} {vs : List V} : At K W a v → AtL K W as vs → AtL K W (a :: as) (v :: vs)
end
section
variable {K : PySem.W.Frag} {W W' : Wd}
theorem At.d_iff {x : D} {v : V} (h : At K W (.d x) v) : DX W.B v x := by cases h; assumption
theorem At.own_iff {n : Nat} {v : V} (h : At K W (.own n) v) : v = .ref (W.ρ n) ∧ n < W.L.length := by cases h; exact ⟨rfl, by assumption⟩
theorem At.int {i : Int} {v : V} (h : At K W (.d (.int i)) v) : v = .int i := by cases h with | d q => cases q; rfl
theorem At.bl {i : Bool} {v : V} (h : At K W (.d (.bool i)) v) : v = .bl i := by cases h with | d q => cases q; rfl
theorem At.str {i : Str} {v : V} (h : At K W (.d (.str i)) v) : v = .str i := by cases h with | d q => cases q; rfl
theorem At.non {v : V} (h : At K W (.d .none) v) : v = .non := by cases h with | d q => cases q; rfl
theorem At.lst {ds : List D} {v : V} (h : At K W (.d (.list ds)) v) : ∃ a xs, v = .ref a ∧ W.B a = some (.lst xs) ∧ DXL W.B xs ds := by
  cases h with | d q => cases q with | lst e l => exact ⟨_, _, rfl, e, l⟩
theorem At.tpl {ds : List D} {v : V} (h : At K W (.d (.tuple ds)) v) : ∃ a xs, v = .ref a ∧ W.B a = some (.tup xs) ∧ DXL W.B xs ds := by
  cases h with | d q => cases q with | tup e l => exact ⟨_, _, rfl, e, l⟩
theorem AtL.length : ∀ {as : List A} {vs : List V}, AtL K W as vs → as.length = vs.length
  | [], _, h => by cases h; rfl
  | a :: as, _, h => by
    cases h with
    | cons h1 h2 => simp [AtL.length h2]
theorem AtL.get : ∀ {as : List A} {vs : List V} {i : Nat} {a : A}, AtL K W as vs → as[i]? = some a → ∃ v, vs[i]? = some v ∧ At K W a v
  | [], _, i, _, h, e => by simp at e
  | a :: as, _, 0, _, h, e => by
    cases h with
    | cons h1 h2 => simp at e; subst e; exact ⟨_, rfl, h1⟩
  | a :: as, _, i + 1, _, h, e => by
    cases h with
    | cons h1 h2 =>
      obtain ⟨v, e1, e2⟩ := AtL.get (i := i) h2 (by simpa using e)
      exact ⟨v, by simpa using e1, e2⟩
theorem AtL.append : ∀ {as bs : List A} {vs us : List V}, AtL K W as vs → AtL K W bs us → AtL K W (as ++ bs) (vs ++ us)
  | [], _, _, _, h, r => by cases h; exact r
  | a :: as, _, _, _, h, r => by
    cases h with
    | cons h1 h2 => exact .cons h1 (AtL.append h2 r)
theorem AtL.set {a : A} {v : V} (h : At K W a v) : ∀ {as : List A} {vs : List V} (i : Nat), AtL K W as vs → AtL K W (as.set i a) (vs.set i v)
  | [], _, i, q => by cases q; exact .nil
  | b :: as, _, 0, q => by
    cases q with
    | cons h1 h2 => exact .cons h h2
  | b :: as, _, i + 1, q => by
    cases q with
    | cons h1 h2 => exact .cons h1 (AtL.set h i h2)
theorem AtL.dropLast : ∀ {as : List A} {vs : List V}, AtL K W as vs → AtL K W as.dropLast vs.dropLast
  | [], _, q => by cases q; exact .nil
  | [a], _, q => by
    cases q with
    | cons h1 h2 => cases h2; exact .nil
  | a :: b :: as, _, q => by
    cases q with
    | cons h1 h2 =>
      cases h2 with
      | cons h2 h3 =>
        have r := AtL.dropLast (.cons h2 h3)
        simp only [List.dropLast_cons₂] at r ⊢
        exact .cons h1 r
theorem AtL.eraseIdx : ∀ {as : List A} {vs : List V} (i : Nat), AtL K W as vs → AtL K W (as.eraseIdx i) (vs.eraseIdx i)
  | [], _, i, q => by cases q; exact .nil
  | b :: as, _, 0, q => by
    cases q with
    | cons h1 h2 => exact h2
  | b :: as, _, i + 1, q => by
    cases q with
    | cons h1 h2 => exact .cons h1 (AtL.eraseIdx i h2)
theorem AtL.reverse : ∀ {as : List A} {vs : List V}, AtL K W as vs → AtL K W as.reverse vs.reverse
  | [], _, q => by cases q; exact .nil
  | b :: as, _, q => by
    cases q with
    | cons h1 h2 =>
      rw [List.reverse_cons, List.reverse_cons]
      exact (AtL.reverse h2).append (.cons h1 .nil)
/-- all frozen -/
theorem AtL.ds : ∀ {ds : List D} {vs : List V}, AtL K W (ds.map .d) vs → DXL W.B vs ds
  | [], _, q => by cases q; exact .nil
  | b :: as, _, q => by
    cases q with
    | cons h1 h2 => exact .cons h1.d_iff (AtL.ds h2)
theorem AtL.of_ds : ∀ {ds : List D} {vs : List V}, DXL W.B vs ds → AtL K W (ds.map .d) vs
  | [], _, q => by cases q; exact .nil
  | b :: as, _, q => by
    cases q with
    | cons h1 h2 => exact .cons (.d h1) (AtL.of_ds h2)

/-- what an own cell's object is -/
def OAt (K : PySem.W.Frag) (W : Wd) : AO → HO → Prop
  | .lst as, h => ∃ vs, h = .lst vs ∧ AtL K W as vs
  | .dT kvs, h => ∃ ks, h = .dT ks ∧ Paired (fun p q => p.1 = q.1 ∧ At K W p.2 q.2) kvs ks
  | .dK kvs, h => ∃ ks, h = .dK ks ∧ Paired (fun p q => p.1 = q.1 ∧ At K W p.2 q.2) kvs ks
  | .dX f n, h => ∃ (p : Addr) (ks : XN.NL), h = .ext (XN.NF p ks) ∧ XN.NRoot W.B ks ∧ (∀ k, XN.nv ks k = f k) ∧ ks.length ≤ n
  | .obj C fs, h => ∃ dx vs, h = .ins C dx vs ∧ Paired (fun p q => p.1 = q.1 ∧ At K W p.2 q.2) fs vs
  | .dead, _ => True
structure Wd.Ok (K : PySem.W.Frag) (W : Wd) : Prop where
  base : Sub W.B W.H
  own : ∀ n o, W.L[n]? = some o → o ≠ .dead → ∃ h, W.H (W.ρ n) = some h ∧ OAt K W o h ∧ W.B (W.ρ n) = none
  inj : ∀ n m o o', W.L[n]? = some o → o ≠ .dead → W.L[m]? = some o' → o' ≠ .dead → W.ρ n = W.ρ m → n = m
  there : ∀ n, n < W.L.length → W.H (W.ρ n) ≠ none
structure Grow (W W' : Wd) : Prop where
  base : Sub W.B W'.B
  len : W.L.length ≤ W'.L.length
  rho : ∀ n, n < W.L.length → W'.ρ n = W.ρ n
  keep : ∀ a o, W.H a = some o → (∀ n, n < W.L.length → a ≠ W.ρ n) → W'.H a = some o
  there : ∀ a, W'.H a = none → W.H a = none
  newB : ∀ a, W'.B a ≠ none → W.B a = none → W.H a = none ∨ ∃ n, n < W.L.length ∧ a = W.ρ n
  newL : ∀ n, W.L.length ≤ n → n < W'.L.length → W.H (W'.ρ n) = none
theorem Grow.refl : Grow W W := ⟨fun _ _ h => h, Nat.le_refl _, fun _ _ => rfl, fun _ _ h _ => h, fun _ h => h, fun _ h h' => (h h').elim, fun n h1 h2 => by omega⟩
theorem Grow.trans {W1 W2 : Wd} (a : Grow W W1) (b : Grow W1 W2) : Grow W W2 where
  base := fun c o h => b.base c o (a.base c o h)
  len := Nat.le_trans a.len b.len
  rho := fun n h => (b.rho n (Nat.lt_of_lt_of_le h a.len)).trans (a.rho n h)
  keep := fun c o h hn => b.keep c o (a.keep c o h hn) fun n hl e => by
    by_cases hn' : n < W.L.length
    · exact hn n hn' (e.trans (a.rho n hn'))
    · have := a.newL n (by omega) hl
      rw [← e, h] at this
      cases this
  there := fun c h => a.there c (b.there c h)
  newB := fun c h h' => by
    by_cases q : W1.B c = none
    · rcases b.newB c h q with z | ⟨n, hl, e⟩
      · exact .inl (a.there c z)
      · by_cases hn' : n < W.L.length
        · exact .inr ⟨n, hn', e.trans (a.rho n hn')⟩
        · exact .inl (by rw [e]; exact a.newL n (by omega) hl)
    · exact a.newB c q h'
  newL := fun n h1 h2 => by
    by_cases hn' : n < W1.L.length
    · rw [b.rho n hn']; exact a.newL n h1 hn'
    · exact a.there _ (b.newL n (by omega) h2)
mutual
theorem At.mono' (hb : Sub W.B W'.B) (hl : W.L.length ≤ W'.L.length) (hr : ∀ n, n < W.L.length → W'.ρ n = W.ρ n) : ∀ (a : A) (v : V), At K W a v → At K W' a v
  | .d x, _, h => by cases h with | d q => exact .d (q.mono hb)
  | .own n, _, h => by
    cases h with
    | own q => rw [← hr n q]; exact .own (Nat.lt_of_lt_of_le q hl)
  | .tup as, _, h => by
    cases h with
    | tup e q => exact .tup (hb _ _ e) (AtL.mono' hb hl hr as _ q)
  | .scr ns, _, h => by
    cases h with
    | scr q => exact .scr (Same.seq hb q)
  | .raw v, _, h => by
    cases h with
    | raw q => exact .raw (q.mono hb)
theorem AtL.mono' (hb : Sub W.B W'.B) (hl : W.L.length ≤ W'.L.length) (hr : ∀ n, n < W.L.length → W'.ρ n = W.ρ n) : ∀ (as : List A) (vs : List V), AtL K W as vs → AtL K W' as vs
  | [], _, h => by cases h; exact .nil
  | a :: as, _, h => by
    cases h with
    | cons h1 h2 => exact .cons (At.mono' hb hl hr a _ h1) (AtL.mono' hb hl hr as _ h2)
end
theorem At.mono {a : A} {v : V} (g : Grow W W') (h : At K W a v) : At K W' a v := At.mono' g.base g.len g.rho a v h
theorem AtL.mono {a : List A} {v : List V} (g : Grow W W') (h : AtL K W a v) : AtL K W' a v := AtL.mono' g.base g.len g.rho a v h
theorem OAt.mono {o : AO} {h : HO} (hb : Sub W.B W'.B) (hl : W.L.length ≤ W'.L.length) (hr : ∀ n, n < W.L.length → W'.ρ n = W.ρ n) (q : OAt K W o h) : OAt K W' o h := by
  cases o with
  | lst as => obtain ⟨vs, e, q⟩ := q; exact ⟨vs, e, AtL.mono' hb hl hr _ _ q⟩
  | dT kvs => obtain ⟨vs, e, q⟩ := q; exact ⟨vs, e, Paired.mapP q fun a b ⟨e1, e2⟩ => ⟨e1, At.mono' hb hl hr _ _ e2⟩⟩
  | dK kvs => obtain ⟨vs, e, q⟩ := q; exact ⟨vs, e, Paired.mapP q fun a b ⟨e1, e2⟩ => ⟨e1, At.mono' hb hl hr _ _ e2⟩⟩
  | dX f n => obtain ⟨p, ks, e, r, q⟩ := q; exact ⟨p, ks, e, fun x hx => let ⟨b, e1, e2⟩ := r x hx; ⟨b, hb _ _ e1, hb _ _ e2⟩, q⟩
  | obj C fs => obtain ⟨dx, vs, e, q⟩ := q; exact ⟨dx, vs, e, Paired.mapP q fun a b ⟨e1, e2⟩ => ⟨e1, At.mono' hb hl hr _ _ e2⟩⟩
  | dead => trivial

/-! ### the slots -/
structure AtS (K : PySem.W.Frag) (W : Wd) (s : Sl) (σ : L2.St) : Prop where
  len : s.length = σ.length
  at_ : ∀ (i : Nat) (a : A), s[i]? = some (some a) → ∃ v, σ[i]? = some (some v) ∧ At K W a v
theorem AtS.mono {s : Sl} {σ : L2.St} (g : Grow W W') (h : AtS K W s σ) : AtS K W' s σ := ⟨h.len, fun i a e => let ⟨v, e1, e2⟩ := h.at_ i a e; ⟨v, e1, e2.mono g⟩⟩
theorem AtS.set {s : Sl} {σ : L2.St} {a : A} {v : V} (h : AtS K W s σ) (i : Nat) (q : At K W a v) : AtS K W (s.set i (some a)) (σ.set i (some v)) := by
  refine ⟨by simp [h.len], fun j b e => ?_⟩
  by_cases hj : i = j
  · subst hj
    have hi : i < s.length := by
      have := (List.getElem?_eq_some_iff.mp e).1
      simpa using this
    rw [List.getElem?_set_self hi] at e
    cases e
    exact ⟨v, List.getElem?_set_self (by rw [← h.len]; exact hi), q⟩
  · rw [List.getElem?_set_ne hj] at e ⊢
    exact h.at_ j b e
end

/-! ### new objects -/
section
variable {K : PySem.W.Frag} {W : Wd} {p : Addr}
/-- a frozen object is laid -/
def Wd.frz (W : Wd) (p : Addr) (o : HO) : Wd := ⟨W.ρ, upd W.B p o, W.L, upd W.H p o⟩
/-- an own cell is laid -/
def Wd.new (W : Wd) (p : Addr) (c : AO) (o : HO) : Wd := ⟨fun n => if n = W.L.length then p else W.ρ n, W.B, W.L ++ [c], upd W.H p o⟩
/-- an own cell is written -/
def Wd.put (W : Wd) (n : Nat) (c : AO) (o : HO) : Wd := ⟨W.ρ, W.B, W.L.set n c, upd W.H (W.ρ n) o⟩
theorem Wd.Ok.free (ok : W.Ok K) (hp : W.H p = none) : W.B p = none := by
  cases q : W.B p with
  | none => rfl
  | some o => rw [ok.base p o q] at hp; cases hp
theorem sub_upd {B : Hp} {o : HO} (h : B p = none) : Sub B (upd B p o) := fun a u e => by rw [upd_ne (ne_of_none e h)]; exact e
theorem Wd.frz_grow (ok : W.Ok K) (hp : W.H p = none) (o : HO) : Grow W (W.frz p o) where
  base := sub_upd (ok.free hp)
  len := Nat.le_refl _
  rho := fun _ _ => rfl
  keep := fun a u e _ => sub_upd hp a u e
  there := fun a e => by
    cases q : W.H a with
    | none => rfl
    | some u => rw [show (W.frz p o).H a = some u from sub_upd hp a u q] at e; cases e
  newB := fun a e e' => by
    by_cases z : a = p
    · subst z; exact .inl hp
    · exact (e (by show upd W.B p o a = none; rw [upd_ne z]; exact e')).elim
  newL := fun n h1 h2 => absurd h2 (Nat.not_lt.mpr h1)
theorem Wd.frz_ok (ok : W.Ok K) (hp : W.H p = none) (o : HO) : (W.frz p o).Ok K where
  base := fun a u e => by
    by_cases z : a = p
    · subst z
      rw [show (W.frz a o).B a = some o from upd_same] at e
      rw [← e]; exact upd_same
    · rw [show (W.frz p o).B a = W.B a from upd_ne z] at e
      rw [show (W.frz p o).H a = W.H a from upd_ne z]
      exact ok.base a u e
  own := fun n c e h => by
    obtain ⟨u, e1, e2, e3⟩ := ok.own n c e h
    refine ⟨u, sub_upd hp _ _ e1, OAt.mono (sub_upd (ok.free hp)) (Nat.le_refl _) (fun _ _ => rfl) e2, ?_⟩
    show upd W.B p o (W.ρ n) = none
    rw [upd_ne (ne_of_none e1 hp)]; exact e3
  inj := ok.inj
  there := fun n h z => ok.there n h (by
    have z' : upd W.H p o (W.ρ n) = none := z
    cases q : W.H (W.ρ n) with
    | none => rfl
    | some u => rw [show upd W.H p o (W.ρ n) = some u from sub_upd hp _ _ q] at z'; cases z')
theorem Wd.new_grow (ok : W.Ok K) (hp : W.H p = none) (c : AO) (o : HO) : Grow W (W.new p c o) where
  base := fun _ _ h => h
  len := by show W.L.length ≤ (W.L ++ [c]).length; simp
  rho := fun n h => if_neg (Nat.ne_of_lt h)
  keep := fun a u e _ => sub_upd hp a u e
  there := fun a e => by
    cases q : W.H a with
    | none => rfl
    | some u => rw [show (W.new p c o).H a = some u from sub_upd hp a u q] at e; cases e
  newB := fun a e e' => (e e').elim
  newL := fun n h1 h2 => by
    have h3 : n < (W.L ++ [c]).length := h2
    have : n = W.L.length := by simp at h3; omega
    show W.H (if n = W.L.length then p else W.ρ n) = none
    rw [if_pos this]; exact hp
theorem Wd.new_own (c : AO) (o : HO) : At K (W.new p c o) (.own W.L.length) (.ref p) := by
  have h : At K (W.new p c o) (.own W.L.length) (.ref ((W.new p c o).ρ W.L.length)) := .own (by show W.L.length < (W.L ++ [c]).length; simp)
  rw [show (W.new p c o).ρ W.L.length = p from if_pos rfl] at h
  exact h
theorem Wd.new_ok (ok : W.Ok K) (hp : W.H p = none) {c : AO} {o : HO} (q : OAt K W c o) : (W.new p c o).Ok K where
  base := fun a u e => sub_upd hp a u (ok.base a u e)
  own := fun n c' e h => by
    have e' : (W.L ++ [c])[n]? = some c' := e
    have mono : ∀ {c'' o''}, OAt K W c'' o'' → OAt K (W.new p c o) c'' o'' := fun z => OAt.mono (W := W) (fun _ _ h => h) (by show W.L.length ≤ (W.L ++ [c]).length; simp) (fun n h => if_neg (Nat.ne_of_lt h)) z
    by_cases hn : n < W.L.length
    · rw [List.getElem?_append_left hn] at e'
      obtain ⟨u, e1, e2, e3⟩ := ok.own n c' e' h
      have er : (W.new p c o).ρ n = W.ρ n := if_neg (Nat.ne_of_lt hn)
      rw [er]
      exact ⟨u, sub_upd hp _ _ e1, mono e2, e3⟩
    · have hn2 : n = W.L.length := by
        have := (List.getElem?_eq_some_iff.mp e').1
        simp at this; omega
      subst hn2
      simp at e'
      subst e'
      have er : (W.new p c o).ρ W.L.length = p := if_pos rfl
      rw [er]
      exact ⟨o, upd_same, mono q, ok.free hp⟩
  inj := fun n m o1 o2 e1 h1 e2 h2 e => by
    have e1' : (W.L ++ [c])[n]? = some o1 := e1
    have e2' : (W.L ++ [c])[m]? = some o2 := e2
    have e' : (if n = W.L.length then p else W.ρ n) = (if m = W.L.length then p else W.ρ m) := e
    have b1 := (List.getElem?_eq_some_iff.mp e1').1
    have b2 := (List.getElem?_eq_some_iff.mp e2').1
    simp at b1 b2
    by_cases hn : n = W.L.length
    · by_cases hm : m = W.L.length
      · omega
      · rw [if_pos hn, if_neg hm] at e'
        rw [List.getElem?_append_left (by omega)] at e2'
        obtain ⟨u, q1, _⟩ := ok.own m o2 e2' h2
        rw [← e', hp] at q1; cases q1
    · by_cases hm : m = W.L.length
      · rw [if_neg hn, if_pos hm] at e'
        rw [List.getElem?_append_left (by omega)] at e1'
        obtain ⟨u, q1, _⟩ := ok.own n o1 e1' h1
        rw [e', hp] at q1; cases q1
      · rw [if_neg hn, if_neg hm] at e'
        rw [List.getElem?_append_left (by omega)] at e1'
        rw [List.getElem?_append_left (by omega)] at e2'
        exact ok.inj n m o1 o2 e1' h1 e2' h2 e'
  there := fun n h z => by
    have h3 : n < (W.L ++ [c]).length := h
    by_cases hn : n = W.L.length
    · subst hn
      rw [show (W.new p c o).ρ W.L.length = p from if_pos rfl, show (W.new p c o).H p = some o from upd_same] at z
      cases z
    · have hn' : n < W.L.length := by simp at h3; omega
      rw [show (W.new p c o).ρ n = W.ρ n from if_neg hn] at z
      refine ok.there n hn' ?_
      cases q : W.H (W.ρ n) with
      | none => rfl
      | some u => rw [show (W.new p c o).H (W.ρ n) = some u from sub_upd hp _ _ q] at z; cases z
theorem Wd.put_grow (ok : W.Ok K) {n : Nat} {c0 : AO} (hn : W.L[n]? = some c0) (h0 : c0 ≠ .dead) (c : AO) (o : HO) : Grow W (W.put n c o) where
  base := fun _ _ h => h
  len := by show W.L.length ≤ (W.L.set n c).length; simp
  rho := fun _ _ => rfl
  keep := fun a u e q => by
    have hl := (List.getElem?_eq_some_iff.mp hn).1
    show upd W.H (W.ρ n) o a = some u
    rw [upd_ne (q n hl)]; exact e
  there := fun a e => by
    have e' : upd W.H (W.ρ n) o a = none := e
    by_cases z : a = W.ρ n
    · subst z; rw [upd_same] at e'; cases e'
    · rw [upd_ne z] at e'; exact e'
  newB := fun a e e' => (e e').elim
  newL := fun m h1 h2 => by
    have h3 : m < (W.L.set n c).length := h2
    simp at h3; omega
theorem Wd.put_ok (ok : W.Ok K) {n : Nat} {c0 : AO} (hn : W.L[n]? = some c0) (h0 : c0 ≠ .dead) {c : AO} {o : HO} (q : OAt K W c o) : (W.put n c o).Ok K := by
  have hl := (List.getElem?_eq_some_iff.mp hn).1
  obtain ⟨u0, z1, z2, z3⟩ := ok.own n c0 hn h0
  have mono : ∀ {c'' o''}, OAt K W c'' o'' → OAt K (W.put n c o) c'' o'' := fun z => OAt.mono (W := W) (fun _ _ h => h) (by show W.L.length ≤ (W.L.set n c).length; simp) (fun n h => rfl) z
  refine ⟨fun a u e => ?_, fun m c' e h => ?_, fun m k o1 o2 e1 h1 e2 h2 e => ?_, fun m h z => ?_⟩
  · have ne : a ≠ W.ρ n := fun z => by
      have e' : W.B a = some u := e
      rw [z, z3] at e'; cases e'
    show upd W.H (W.ρ n) o a = some u
    rw [upd_ne ne]; exact ok.base a u e
  · have e' : (W.L.set n c)[m]? = some c' := e
    by_cases hm : n = m
    · subst hm
      rw [List.getElem?_set_self hl] at e'
      cases e'
      exact ⟨o, upd_same, mono q, z3⟩
    · rw [List.getElem?_set_ne hm] at e'
      obtain ⟨u, e1, e2, e3⟩ := ok.own m c' e' h
      refine ⟨u, ?_, mono e2, e3⟩
      show upd W.H (W.ρ n) o (W.ρ m) = some u
      rw [upd_ne fun z => hm (ok.inj m n c' c0 e' h hn h0 z).symm]
      exact e1
  · have get : ∀ {m o1}, (W.L.set n c)[m]? = some o1 → o1 ≠ AO.dead → ∃ o', W.L[m]? = some o' ∧ o' ≠ AO.dead := fun {m o1} e h => by
      by_cases hm : n = m
      · subst hm; exact ⟨c0, hn, h0⟩
      · rw [List.getElem?_set_ne hm] at e; exact ⟨o1, e, h⟩
    obtain ⟨p1, g1, g2⟩ := get e1 h1
    obtain ⟨p2, g3, g4⟩ := get e2 h2
    exact ok.inj m k p1 p2 g1 g2 g3 g4 e
  · have h3 : m < (W.L.set n c).length := h
    rw [List.length_set] at h3
    have z' : upd W.H (W.ρ n) o (W.ρ m) = none := z
    by_cases q : W.ρ m = W.ρ n
    · rw [q, upd_same] at z'; cases z'
    · rw [upd_ne q] at z'; exact ok.there m h3 z'
end
end GL

namespace GL
open PySem PySem.Spec L2

/-! ### readings over values -/
abbrev KA := A → Lo → Prop
abbrev GTE := Sl → Lo → KA → Prop
abbrev GTT := Sl → Lo → (Bool → Lo → Prop) → Prop
abbrev GTA := Sl → Lo → (List A → Lo → Prop) → Prop
def liftE (K : PySem.W.Frag) (g : GTE) : TE := fun σ H Q => ∃ (W : Wd) (s : Sl) (R : KA), W.H = H ∧ W.Ok K ∧ AtS K W s σ ∧ g s W.L R ∧ ∀ a W' v, R a W'.L → Grow W W' → W'.Ok K → At K W' a v → Q v W'.H
def liftT (K : PySem.W.Frag) (g : GTT) : TT := fun σ H Q => ∃ (W : Wd) (s : Sl) (R : Bool → Lo → Prop), W.H = H ∧ W.Ok K ∧ AtS K W s σ ∧ g s W.L R ∧ ∀ b W', R b W'.L → Grow W W' → W'.Ok K → Q b W'.H
def liftA (K : PySem.W.Frag) (g : GTA) : TA := fun σ H Q => ∃ (W : Wd) (s : Sl) (R : List A → Lo → Prop), W.H = H ∧ W.Ok K ∧ AtS K W s σ ∧ g s W.L R ∧ ∀ a W' v, R a W'.L → Grow W W' → W'.Ok K → AtL K W' a v → Q v W'.H
structure GE (X : Cx) (e : Expr) (g : GTE) : Prop where
  pe : PE X e (liftE X.K g)
structure GT (X : Cx) (e : Expr) (g : GTT) : Prop where
  pt : PT X e (liftT X.K g)
structure GW (X : Cx) (e : Expr) (g : GTT) : Prop where
  pw : PW X e (liftT X.K g)
structure GA (X : Cx) (es : List Expr) (g : GTA) : Prop where
  pa : PA X es (liftA X.K g)
theorem pe_imp {X : Cx} {e : Expr} {t t' : TE} (h : PE X e t) (q : ∀ σ H Q, t' σ H Q → t σ H Q) : PE X e t' := ⟨fun pins s σ H Q I x => h.run pins s σ H Q I (q _ _ _ x)⟩
theorem pt_imp {X : Cx} {e : Expr} {t t' : TT} (h : PT X e t) (q : ∀ σ H Q, t' σ H Q → t σ H Q) : PT X e t' := ⟨fun pins s σ H Q I x => h.run pins s σ H Q I (q _ _ _ x)⟩
theorem pw_imp {X : Cx} {e : Expr} {t t' : TT} (h : PW X e t) (q : ∀ σ H Q, t' σ H Q → t σ H Q) : PW X e t' := ⟨fun wh pins s σ H Q I x => h.run wh pins s σ H Q I (q _ _ _ x)⟩
theorem pa_imp {X : Cx} {e : List Expr} {t t' : TA} (h : PA X e t) (q : ∀ σ H Q, t' σ H Q → t σ H Q) : PA X e t' := ⟨fun pos pins s σ H Q I x => h.run pos pins s σ H Q I (q _ _ _ x)⟩

/-- two values -/
abbrev G2 := A → A → Lo → KA → Prop
def lift2 (K : PySem.W.Frag) (g : G2) : R2 := fun x y H Q => ∃ (W : Wd) (a b : A) (R : KA), W.H = H ∧ W.Ok K ∧ At K W a x ∧ At K W b y ∧ g a b W.L R ∧ ∀ c W' v, R c W'.L → Grow W W' → W'.Ok K → At K W' c v → Q v W'.H
def OpG (X : Cx) (f : Value → Value → Sem Value) (g : G2) : Prop := OpR X f (lift2 X.K g)
theorem opr_imp {X : Cx} {f : Value → Value → Sem Value} {r r' : R2} (h : OpR X f r) (q : ∀ x y H Q, r' x y H Q → r x y H Q) : OpR X f r' :=
  fun pins s σ H x y v u Q I rx ry z => h pins s σ H x y v u Q I rx ry (q _ _ _ _ z)
/-- a list of values -/
abbrev GC := List A → Lo → KA → Prop
def liftC (K : PySem.W.Frag) (g : GC) : List V → Hp → VK → Prop := fun vs H Q => ∃ (W : Wd) (as : List A) (R : KA), W.H = H ∧ W.Ok K ∧ AtL K W as vs ∧ g as W.L R ∧ ∀ c W' v, R c W'.L → Grow W W' → W'.Ok K → At K W' c v → Q v W'.H

section
variable {X : Cx} {a b c e : Expr} {es : List Expr} {pos : Pos} {ga gb gc : GTE} {gt gu : GTT} {gs : GTA}
def gOp (g : G2) (ga gb : GTE) : GTE := fun s L R => ga s L fun a L1 => gb s L1 fun b L2 => g a b L2 R
/-- from two lifted readings to a lifted pair -/
theorem two {K : PySem.W.Frag} {g : G2} {σ : L2.St} {H : Hp} {Q : VK} (h : liftE K (gOp g ga gb) σ H Q) : liftE K ga σ H fun x H1 => liftE K gb σ H1 fun y H2 => lift2 K g x y H2 Q := by
  obtain ⟨W, s, R, e, ok, ats, h, fin⟩ := h
  exact ⟨W, s, _, e, ok, ats, h, fun a W1 v q g1 ok1 at1 => ⟨W1, s, _, rfl, ok1, ats.mono g1, q, fun b W2 u q2 g2 ok2 at2 => ⟨W2, a, b, R, rfl, ok2, at1.mono g2, at2, q2, fun c W3 z q3 g3 ok3 at3 => fin c W3 z q3 (g1.trans (g2.trans g3)) ok3 at3⟩⟩⟩
theorem g_op {op : Operator} {g : G2} (ho : OpG X (binaryOp op) g) (ha : GE X a ga) (hb : GE X b gb) : GE X (.BinOp a op b pos) (gOp g ga gb) :=
  ⟨pe_imp (pe_op ho ha.pe hb.pe) fun σ H Q h => two h⟩
/-- names -/
def slot : Sl → Nat → Option A
  | [], _ => none
  | a :: _, 0 => a
  | _ :: r, i + 1 => slot r i
theorem slot_get : ∀ (s : Sl) (i : Nat) (a : A), slot s i = some a → s[i]? = some (some a)
  | [], _, _, h => by cases h
  | b :: _, 0, a, h => by
    have : b = some a := h
    subst this; rfl
  | b :: r, i + 1, a, h => by simpa using slot_get r i a h
def onS (o : Option A) (k : A → Prop) : Prop := match o with
  | some a => k a
  | none => False
def gVar (i : Nat) : GTE := fun s L R => onS (slot s i) fun a => R a L
theorem g_pv (i : Nat) {x : Str} {pos : Pos} (hN : X.N[i]? = some x := by rfl) (hv : Vis X.env.scope x := by first | exact Or.inl rfl | exact Or.inr (Or.inl rfl) | exact Or.inr (Or.inr rfl)) (hd : (x == ("__debug__" : Str)) = false := by decide)
    (hcd : (x == ("__classdict__" : Str)) = false := by decide) : GE X (.Name x pos) (gVar i) :=
  ⟨pe_imp (pe_var hN hv hd hcd) fun σ H Q h => by
    obtain ⟨W, s, R, e, ok, ats, h, fin⟩ := h
    unfold gVar onS at h
    split at h
    · rename_i a ea
      obtain ⟨v, e1, e2⟩ := ats.at_ i a (slot_get s i a ea)
      exact ⟨v, e1, e ▸ fin a W v h Grow.refl ok e2⟩
    · exact h.elim⟩
def gC (x : D) : GTE := fun _ L R => R (.d x) L
theorem g_const {x : D} {v : V} (h : PE X e (tC v)) (hd : ∀ B, DX B v x) : GE X e (gC x) :=
  ⟨pe_imp h fun σ H Q h => by
    obtain ⟨W, s, R, e, ok, ats, h, fin⟩ := h
    exact e ▸ fin _ W _ h Grow.refl ok (.d (hd _))⟩
end
end GL

namespace GL
open PySem PySem.Spec L2

/-! ### constants, argument lists, displays -/
section
variable {X : Cx} {a b c e : Expr} {es : List Expr} {pos : Pos} {ga gb gc : GTE} {gt gu : GTT} {gs : GTA}
theorem g_int {i j pos} : GE X (.Constant (.int i) j pos) (gC (.int i)) := g_const pe_int fun _ => .int i
theorem g_bl {i j pos} : GE X (.Constant (.bool i) j pos) (gC (.bool i)) := g_const pe_bl fun _ => .bl i
theorem g_non {j pos} : GE X (.Constant .none j pos) (gC .none) := g_const pe_non fun _ => .non
theorem g_str {i j pos} : GE X (.Constant (.str i) j pos) (gC (.str i)) := g_const pe_str fun _ => .str i
/-- a module's constant that is a whole number -/
theorem g_globI {x : Str} {i : Int} {t : Tok} {pos : Pos} (hg : Gl X x) (hm : X.mg x = some (.int i t)) (hd : (x == ("__debug__" : Str)) = false := by decide) : GE X (.Name x pos) (gC (.int i)) :=
  g_const (pe_glob hg hm (v := .int i) ⟨t, rfl⟩ hd) fun _ => .int i
def gR (v : V) : GTE := fun _ L R => R (.raw (.val v)) L
theorem g_raw {v : V} (h : PE X e (tC v)) : GE X e (gR v) :=
  ⟨pe_imp h fun σ H Q h => by
    obtain ⟨W, s, R, e, ok, ats, h, fin⟩ := h
    exact e ▸ fin _ W _ h Grow.refl ok (.raw .val)⟩
/-- a built-in class as a value -/
theorem g_ty {x : Str} {n : String} {pos : Pos} (hg : Gl X x) (hm : X.mg x = none) (hv : bootBuiltins x = some (.type n)) (hn : x ≠ "__name__" := by decide) (hd : (x == ("__debug__" : Str)) = false := by decide) : GE X (.Name x pos) (gR (.ty n)) :=
  g_raw (pe_bltn hg hm hv rfl hn hd)
/-- an own class (or def) as a value -/
theorem g_cls {x : Str} {C : Addr} {pos : Pos} (hg : Gl X x) (hm : X.mg x = some (.ref C)) (hd : (x == ("__debug__" : Str)) = false := by decide) : GE X (.Name x pos) (gR (.ref C)) :=
  g_raw (pe_glob hg hm rfl hd)
def gaNil : GTA := fun _ L R => R [] L
def gaCons (g : GTE) (r : GTA) : GTA := fun s L R => g s L fun a L1 => r s L1 fun as L2 => R (a :: as) L2
theorem ga_nil : GA X [] gaNil := ⟨pa_imp pa_nil fun σ H Q h => by
  obtain ⟨W, s, R, e, ok, ats, h, fin⟩ := h
  exact e ▸ fin _ W _ h Grow.refl ok .nil⟩
theorem ga_cons (ha : GE X e ga) (hr : GA X es gs) (hs : starEach (e :: es) X.env = (false, eval e X.env) :: starEach es X.env := by rfl) : GA X (e :: es) (gaCons ga gs) :=
  ⟨pa_imp (pa_cons ha.pe hr.pa hs) fun σ H Q h => by
    obtain ⟨W, s, R, e, ok, ats, h, fin⟩ := h
    exact ⟨W, s, _, e, ok, ats, h, fun a W1 v q g1 ok1 at1 => ⟨W1, s, _, rfl, ok1, ats.mono g1, q, fun as W2 u q2 g2 ok2 at2 => fin _ W2 _ q2 (g1.trans g2) ok2 (.cons (at1.mono g2) at2)⟩⟩⟩
/-- frozen items -/
def allD : List A → Option (List D)
  | [] => some []
  | .d x :: r => match allD r with
    | some ds => some (x :: ds)
    | none => none
  | _ :: _ => none
theorem allD_eq : ∀ {as : List A} {ds : List D}, allD as = some ds → as = ds.map .d
  | [], ds, h => by cases h; rfl
  | .d x :: r, ds, h => by
    unfold allD at h
    split at h
    · rename_i es e
      cases h
      rw [allD_eq e]; rfl
    · cases h
  | .own _ :: _, _, h => by cases h
  | .tup _ :: _, _, h => by cases h
  | .scr _ :: _, _, h => by cases h
  | .raw _ :: _, _, h => by cases h
theorem allD_map : ∀ ds : List D, allD (ds.map .d) = some ds
  | [] => rfl
  | d :: ds => by
    show (match allD (ds.map .d) with
      | some es => some (d :: es)
      | none => none) = _
    rw [allD_map ds]
def mkTup (as : List A) : A := match allD as with
  | some ds => .d (.tuple ds)
  | none => .tup as
def gTup (g : GTA) : GTE := fun s L R => g s L fun as L1 => as.length ≤ sizeLine ∧ R (mkTup as) L1
theorem tup_at {K : PySem.W.Frag} {W : Wd} {as : List A} {vs : List V} {p : Addr} (h : AtL K W as vs) (ok : W.Ok K) (hp : W.H p = none) : At K (W.frz p (.tup vs)) (mkTup as) (.ref p) := by
  have h' : AtL K (W.frz p (.tup vs)) as vs := AtL.mono (Wd.frz_grow ok hp _) h
  have hB : (W.frz p (.tup vs)).B p = some (.tup vs) := upd_same
  unfold mkTup
  split
  · rename_i ds e
    rw [allD_eq e] at h'
    exact .d (.tup hB (AtL.ds h'))
  · exact .tup hB h'
theorem g_tup {x1} (h : GA X es gs) : GE X (.Tuple es x1 pos) (gTup gs) :=
  ⟨pe_imp (pe_tup h.pa) fun σ H Q h => by
    obtain ⟨W, s, R, e, ok, ats, h, fin⟩ := h
    exact ⟨W, s, _, e, ok, ats, h, fun as W1 vs q g1 ok1 at1 => ⟨by rw [← AtL.length at1]; exact q.1, fun p hp => fin _ (W1.frz p (.tup vs)) _ q.2 (g1.trans (Wd.frz_grow ok1 hp _)) (Wd.frz_ok ok1 hp _) (tup_at at1 ok1 hp)⟩⟩⟩
/-- a list display, frozen at once -/
def gLst (g : GTA) : GTE := fun s L R => g s L fun as L1 => as.length ≤ sizeLine ∧ ∃ ds, allD as = some ds ∧ R (.d (.list ds)) L1
theorem lst_at {K : PySem.W.Frag} {W : Wd} {ds : List D} {vs : List V} {p : Addr} (h : DXL W.B vs ds) (ok : W.Ok K) (hp : W.H p = none) : At K (W.frz p (.lst vs)) (.d (.list ds)) (.ref p) :=
  .d (.lst upd_same (DXL.mono (Wd.frz_grow ok hp _).base _ _ h))
theorem g_lst (h : GA X es gs) : GE X (.List es pos) (gLst gs) :=
  ⟨pe_imp (pe_lst h.pa) fun σ H Q h => by
    obtain ⟨W, s, R, e, ok, ats, h, fin⟩ := h
    exact ⟨W, s, _, e, ok, ats, h, fun as W1 vs q g1 ok1 at1 => by
      obtain ⟨z, ds, ed, q⟩ := q
      rw [allD_eq ed] at at1 z
      exact ⟨by rw [← AtL.length at1]; exact z, fun p hp => fin _ (W1.frz p (.lst vs)) _ q (g1.trans (Wd.frz_grow ok1 hp _)) (Wd.frz_ok ok1 hp _) (lst_at at1.ds ok1 hp)⟩⟩⟩
/-- a list display, an own cell -/
def gLstO (g : GTA) : GTE := fun s L R => g s L fun as L1 => as.length ≤ sizeLine ∧ R (.own L1.length) (L1 ++ [.lst as])
theorem g_lstO (h : GA X es gs) : GE X (.List es pos) (gLstO gs) :=
  ⟨pe_imp (pe_lst h.pa) fun σ H Q h => by
    obtain ⟨W, s, R, e, ok, ats, h, fin⟩ := h
    exact ⟨W, s, _, e, ok, ats, h, fun as W1 vs q g1 ok1 at1 => by
      refine ⟨by rw [← AtL.length at1]; exact q.1, fun p hp => fin _ (W1.new p (.lst as) (.lst vs)) _ q.2 (g1.trans (Wd.new_grow ok1 hp _ _)) (Wd.new_ok ok1 hp ⟨vs, rfl, at1⟩) (Wd.new_own _ _)⟩⟩⟩
/-- an empty dict whose keys will be tuples; ints and texts -/
def gDnT : GTE := fun _ L R => R (.own L.length) (L ++ [.dT []])
def gDnK : GTE := fun _ L R => R (.own L.length) (L ++ [.dK []])
theorem g_dnT : GE X (.Dict [] [] pos) gDnT :=
  ⟨pe_imp pe_dnewT fun σ H Q h => by
    obtain ⟨W, s, R, e, ok, ats, h, fin⟩ := h
    subst e
    exact fun p hp => fin _ (W.new p (.dT []) (.dT [])) _ h (Wd.new_grow ok hp _ _) (Wd.new_ok ok hp ⟨_, rfl, .nil⟩) (Wd.new_own _ _)⟩
theorem g_dnK : GE X (.Dict [] [] pos) gDnK :=
  ⟨pe_imp pe_dnewK fun σ H Q h => by
    obtain ⟨W, s, R, e, ok, ats, h, fin⟩ := h
    subst e
    exact fun p hp => fin _ (W.new p (.dK []) (.dK [])) _ h (Wd.new_grow ok hp _ _) (Wd.new_ok ok hp ⟨_, rfl, .nil⟩) (Wd.new_own _ _)⟩

/-! ### whole numbers -/
def onI (a : A) (k : Int → Prop) : Prop := match a with
  | .d (.int i) => k i
  | _ => False
theorem onI_el {a : A} {k : Int → Prop} (h : onI a k) : ∃ i, a = .d (.int i) ∧ k i := by
  unfold onI at h
  split at h
  · exact ⟨_, rfl, h⟩
  · exact h.elim
def onB (a : A) (k : Bool → Prop) : Prop := match a with
  | .d (.bool i) => k i
  | _ => False
theorem onB_el {a : A} {k : Bool → Prop} (h : onB a k) : ∃ i, a = .d (.bool i) ∧ k i := by
  unfold onB at h
  split at h
  · exact ⟨_, rfl, h⟩
  · exact h.elim
def onT (a : A) (k : Str → Prop) : Prop := match a with
  | .d (.str i) => k i
  | _ => False
theorem onT_el {a : A} {k : Str → Prop} (h : onT a k) : ∃ i, a = .d (.str i) ∧ k i := by
  unfold onT at h
  split at h
  · exact ⟨_, rfl, h⟩
  · exact h.elim
def gI (f : Int → Int → D) : G2 := fun a b L R => onI a fun i => onI b fun j => R (.d (f i j)) L
def gIc (C : Int → Int → Prop) (f : Int → Int → D) : G2 := fun a b L R => onI a fun i => onI b fun j => C i j ∧ R (.d (f i j)) L
theorem og_I0 {f : Value → Value → Sem Value} {v : Int → Int → V} {g : Int → Int → D} (h : OpR X f (rI0 v)) (hv : ∀ B i j, DX B (v i j) (g i j)) : OpG X f (gI g) :=
  opr_imp h fun x y H Q h => by
    obtain ⟨W, a, b, R, e, ok, a1, a2, h, fin⟩ := h
    obtain ⟨i, ea, h1⟩ := onI_el h
    subst ea
    obtain ⟨j, eb, h2⟩ := onI_el h1
    subst eb
    exact ⟨i, j, a1.int, a2.int, e ▸ fin _ W _ h2 Grow.refl ok (.d (hv _ _ _))⟩
theorem og_I {f : Value → Value → Sem Value} {C : Int → Int → Prop} {v : Int → Int → V} {g : Int → Int → D} (h : OpR X f (rI C v)) (hv : ∀ B i j, DX B (v i j) (g i j)) : OpG X f (gIc C g) :=
  opr_imp h fun x y H Q h => by
    obtain ⟨W, a, b, R, e, ok, a1, a2, h, fin⟩ := h
    obtain ⟨i, ea, h1⟩ := onI_el h
    subst ea
    obtain ⟨j, eb, c, h2⟩ := onI_el h1
    subst eb
    exact ⟨i, j, a1.int, a2.int, c, e ▸ fin _ W _ h2 Grow.refl ok (.d (hv _ _ _))⟩
theorem o_add : OpG X (binaryOp .Add) (gI fun i j => .int (i + j)) := og_I0 op_add fun _ _ _ => .int _
theorem o_sub : OpG X (binaryOp .Sub) (gI fun i j => .int (i - j)) := og_I0 op_sub fun _ _ _ => .int _
theorem o_mul : OpG X (binaryOp .Mult) (gIc CMul fun i j => .int (i * j)) := og_I op_mul fun _ _ _ => .int _
theorem o_mulW : OpG X (binaryOp .Mult) (gIc CMulW fun i j => .int (i * j)) := og_I op_mulW fun _ _ _ => .int _
theorem o_fdiv : OpG X (binaryOp .FloorDiv) (gIc CDiv fun i j => .int (i / j)) := og_I op_fdiv fun _ _ _ => .int _
theorem o_fdivW : OpG X (binaryOp .FloorDiv) (gIc CDivW fun i j => .int (i / j)) := og_I op_fdivW fun _ _ _ => .int _
theorem o_mod : OpG X (binaryOp .Mod) (gIc (fun _ j => 0 < j) fun i j => .int (i % j)) := og_I op_mod fun _ _ _ => .int _
theorem o_modN : OpG X (binaryOp .Mod) (gIc (fun _ j => j ≠ 0) fun i j => .int (i.fmod j)) := og_I op_modN fun _ _ _ => .int _
theorem o_pow : OpG X (binaryOp .Pow) (gIc CPow fun i j => .int (i ^ j.toNat)) := og_I op_pow fun _ _ _ => .int _
theorem o_shl : OpG X (binaryOp .LShift) (gIc CPow fun i j => .int (i * 2 ^ j.toNat)) := og_I op_shl fun _ _ _ => .int _
theorem o_shr : OpG X (binaryOp .RShift) (gIc (fun _ j => 0 ≤ j) fun i j => .int (i / 2 ^ j.toNat)) := og_I op_shr fun _ _ _ => .int _
theorem o_and : OpG X (binaryOp .BitAnd) (gI fun i j => .int (Builtin.bitAnd i j)) := og_I0 op_and fun _ _ _ => .int _
theorem c_lt : OpG X (compareOp .Lt) (gI fun i j => .bool (decide (i < j))) := og_I0 op_lt fun _ _ _ => .bl _
theorem c_le : OpG X (compareOp .LtE) (gI fun i j => .bool (decide (i ≤ j))) := og_I0 op_le fun _ _ _ => .bl _
theorem c_gt : OpG X (compareOp .Gt) (gI fun i j => .bool (decide (j < i))) := og_I0 op_gt fun _ _ _ => .bl _
theorem c_ge : OpG X (compareOp .GtE) (gI fun i j => .bool (decide (j ≤ i))) := og_I0 op_ge fun _ _ _ => .bl _
/-- == of two whole numbers -/
theorem c_eqI : OpG X (compareOp .Eq) (gI fun i j => .bool (decide (i = j))) := opr_imp op_eq fun x y H Q h => by
    obtain ⟨W, a, b, R, e, ok, a1, a2, h, fin⟩ := h
    obtain ⟨i, ea, h1⟩ := onI_el h
    subst ea
    obtain ⟨j, eb, h2⟩ := onI_el h1
    subst eb
    obtain rfl := a1.int
    obtain rfl := a2.int
    refine ⟨rfl, e ▸ fin _ W _ h2 Grow.refl ok (.d ?_)⟩
    rw [show (decide (V.int i = V.int j)) = decide (i = j) by rw [dec_int, Bool.beq_eq_decide_eq]]
    exact .bl _
theorem c_neI : OpG X (compareOp .NotEq) (gI fun i j => .bool (!decide (i = j))) := opr_imp op_ne fun x y H Q h => by
    obtain ⟨W, a, b, R, e, ok, a1, a2, h, fin⟩ := h
    obtain ⟨i, ea, h1⟩ := onI_el h
    subst ea
    obtain ⟨j, eb, h2⟩ := onI_el h1
    subst eb
    obtain rfl := a1.int
    obtain rfl := a2.int
    refine ⟨rfl, e ▸ fin _ W _ h2 Grow.refl ok (.d ?_)⟩
    rw [show (decide (V.int i = V.int j)) = decide (i = j) by rw [dec_int, Bool.beq_eq_decide_eq]]
    exact .bl _
/-- == of two texts -/
theorem c_eqT : OpG X (compareOp .Eq) (fun a b L R => onT a fun x => onT b fun y => R (.d (.bool (decide (x = y)))) L) := opr_imp op_eq fun x y H Q h => by
    obtain ⟨W, a, b, R, e, ok, a1, a2, h, fin⟩ := h
    obtain ⟨i, ea, h1⟩ := onT_el h
    subst ea
    obtain ⟨j, eb, h2⟩ := onT_el h1
    subst eb
    obtain rfl := a1.str
    obtain rfl := a2.str
    refine ⟨rfl, e ▸ fin _ W _ h2 Grow.refl ok (.d ?_)⟩
    rw [show (decide (V.str i = V.str j)) = decide (i = j) by rw [dec_str, Bool.beq_eq_decide_eq]]
    exact .bl _
theorem c_neT : OpG X (compareOp .NotEq) (fun a b L R => onT a fun x => onT b fun y => R (.d (.bool (!decide (x = y)))) L) := opr_imp op_ne fun x y H Q h => by
    obtain ⟨W, a, b, R, e, ok, a1, a2, h, fin⟩ := h
    obtain ⟨i, ea, h1⟩ := onT_el h
    subst ea
    obtain ⟨j, eb, h2⟩ := onT_el h1
    subst eb
    obtain rfl := a1.str
    obtain rfl := a2.str
    refine ⟨rfl, e ▸ fin _ W _ h2 Grow.refl ok (.d ?_)⟩
    rw [show (decide (V.str i = V.str j)) = decide (i = j) by rw [dec_str, Bool.beq_eq_decide_eq]]
    exact .bl _
/-- == of two truths -/
theorem c_eqB : OpG X (compareOp .Eq) (fun a b L R => onB a fun x => onB b fun y => R (.d (.bool (decide (x = y)))) L) := opr_imp op_eq fun x y H Q h => by
    obtain ⟨W, a, b, R, e, ok, a1, a2, h, fin⟩ := h
    obtain ⟨i, ea, h1⟩ := onB_el h
    subst ea
    obtain ⟨j, eb, h2⟩ := onB_el h1
    subst eb
    obtain rfl := a1.bl
    obtain rfl := a2.bl
    refine ⟨rfl, e ▸ fin _ W _ h2 Grow.refl ok (.d ?_)⟩
    rw [show (decide (V.bl i = V.bl j)) = decide (i = j) by rw [dec_bl, Bool.beq_eq_decide_eq]]
    exact .bl _

/-! ### what a value reads as: frozen data -/
inductive Rds (L : Lo) : A → D → Prop
  | d {x : D} : Rds L (.d x) x
  | own {n : Nat} {ds : List D} : L[n]? = some (.lst (ds.map .d)) → Rds L (.own n) (.list ds)
theorem Rds.dp {K : PySem.W.Frag} {W : Wd} {a : A} {x : D} {v : V} (r : Rds W.L a x) (ok : W.Ok K) (h : At K W a v) : Dp K W.H v x.py := by
  cases r with
  | d => exact ((h.d_iff).mono ok.base).dp
  | own e =>
    obtain ⟨rfl, _⟩ := h.own_iff
    obtain ⟨u, e1, ⟨vs, rfl, q⟩, _⟩ := ok.own _ _ e (by intro z; cases z)
    exact .lst (SqL.of e1) ((q.ds.mono ok.base).dp)
def gEqD : G2 := fun a b L R => ∃ x y, Rds L a x ∧ Rds L b y ∧ SeqAt.shaped x.py = true ∧ SeqAt.shaped y.py = true ∧ R (.d (.bool (PyData.eqv x.py y.py))) L
def gNeD : G2 := fun a b L R => ∃ x y, Rds L a x ∧ Rds L b y ∧ SeqAt.shaped x.py = true ∧ SeqAt.shaped y.py = true ∧ R (.d (.bool (!PyData.eqv x.py y.py))) L
theorem c_eqD (hu : X.A.units + 64 < cLine) : OpG X (compareOp .Eq) gEqD := opr_imp (op_eqD hu) fun x y H Q h => by
    obtain ⟨W, a, b, R, e, ok, a1, a2, ⟨z, z', r1, r2, s1, s2, h⟩, fin⟩ := h
    subst e
    exact ⟨z.py, _, r1.dp ok a1, r2.dp ok a2, s1, s2, fin _ W _ h Grow.refl ok (.d (.bl _))⟩
theorem c_neD (hu : X.A.units + 64 < cLine) : OpG X (compareOp .NotEq) gNeD := opr_imp (op_neD hu) fun x y H Q h => by
    obtain ⟨W, a, b, R, e, ok, a1, a2, ⟨z, z', r1, r2, s1, s2, h⟩, fin⟩ := h
    subst e
    exact ⟨z.py, _, r1.dp ok a1, r2.dp ok a2, s1, s2, fin _ W _ h Grow.refl ok (.d (.bl _))⟩
/-- x in a list of data -/
def gInD : G2 := fun a b L R => ∃ x ds, Rds L a x ∧ Rds L b (.list ds) ∧ SeqAt.shaped x.py = true ∧ SeqAt.shaped (D.py (.list ds)) = true ∧ R (.d (.bool ((D.pyL ds).any fun z => PyData.eqv z x.py))) L
def gNotInD : G2 := fun a b L R => ∃ x ds, Rds L a x ∧ Rds L b (.list ds) ∧ SeqAt.shaped x.py = true ∧ SeqAt.shaped (D.py (.list ds)) = true ∧ R (.d (.bool (!(D.pyL ds).any fun z => PyData.eqv z x.py))) L
theorem c_inD (hu : X.A.units + 65 < cLine) : OpG X (compareOp .In) gInD := opr_imp (op_inD hu) fun x y H Q h => by
    obtain ⟨W, a, b, R, e, ok, a1, a2, ⟨z, z', r1, r2, s1, s2, h⟩, fin⟩ := h
    subst e
    exact ⟨z.py, _, r1.dp ok a1, r2.dp ok a2, s1, s2, fin _ W _ h Grow.refl ok (.d (.bl _))⟩
theorem c_notInD (hu : X.A.units + 65 < cLine) : OpG X (compareOp .NotIn) gNotInD := opr_imp (op_notInD hu) fun x y H Q h => by
    obtain ⟨W, a, b, R, e, ok, a1, a2, ⟨z, z', r1, r2, s1, s2, h⟩, fin⟩ := h
    subst e
    exact ⟨z.py, _, r1.dp ok a1, r2.dp ok a2, s1, s2, fin _ W _ h Grow.refl ok (.d (.bl _))⟩
/-- is None, is not None -/
def isN : A → Bool
  | .d .none => true
  | .raw (.val .non) => true
  | _ => false
theorem isN_at {K : PySem.W.Frag} {W : Wd} {a : A} {v : V} (h : At K W a v) : decide (v = V.non) = isN a := by
  cases h with
  | d q => cases q <;> rfl
  | own _ => rfl
  | tup _ _ => rfl
  | scr _ => rfl
  | raw q =>
    cases q with
    | val => cases v <;> rfl
    | exc _ _ => rfl
def gIsN : G2 := fun a b L R => b = .d .none ∧ R (.d (.bool (isN a))) L
def gNotN : G2 := fun a b L R => b = .d .none ∧ R (.d (.bool (!isN a))) L
theorem c_isN : OpG X (compareOp .Is) gIsN := opr_imp op_isN fun x y H Q h => by
    obtain ⟨W, a, b, R, e, ok, a1, a2, ⟨eb, h⟩, fin⟩ := h
    subst eb
    exact ⟨a2.non, e ▸ fin _ W _ h Grow.refl ok (by rw [isN_at a1]; exact .d (.bl _))⟩
theorem c_notN : OpG X (compareOp .IsNot) gNotN := opr_imp op_notN fun x y H Q h => by
    obtain ⟨W, a, b, R, e, ok, a1, a2, ⟨eb, h⟩, fin⟩ := h
    subst eb
    exact ⟨a2.non, e ▸ fin _ W _ h Grow.refl ok (by rw [isN_at a1]; exact .d (.bl _))⟩

/-! ### comparisons, truths -/
/-- two ways -/
def br (b : Bool) (Y N : Prop) : Prop := (b = true → Y) ∧ (b = false → N)
theorem g_cmp {op : CmpOp} {g : G2} (ho : OpG X (compareOp op) g) (ha : GE X a ga) (hb : GE X b gb) (hm : behindInMarks op b = false) : GE X (.Compare a [op] [b] pos) (gOp g ga gb) :=
  ⟨pe_imp (pe_cmpR ho ha.pe hb.pe hm) fun σ H Q h => two h⟩
/-- a value that is a truth, as a test -/
def gTs (g : GTE) : GTT := fun s L R => g s L fun a L1 => onB a fun b => R b L1
theorem tst {K : PySem.W.Frag} {g : GTE} {σ : L2.St} {H : Hp} {Q : Bool → Hp → Prop} (h : liftT K (gTs g) σ H Q) : liftE K g σ H fun x H1 => ∃ k, x = V.bl k ∧ Q k H1 := by
  obtain ⟨W, s, R, e, ok, ats, h, fin⟩ := h
  refine ⟨W, s, _, e, ok, ats, h, fun a W1 v q g1 ok1 at1 => ?_⟩
  obtain ⟨b, rfl, q⟩ := onB_el q
  exact ⟨b, at1.bl, fin b W1 q g1 ok1⟩
theorem t_cmp {op : CmpOp} {g : G2} (ho : OpG X (compareOp op) g) (ha : GE X a ga) (hb : GE X b gb) (hm : behindInMarks op b = false) : GT X (.Compare a [op] [b] pos) (gTs (gOp g ga gb)) :=
  ⟨pt_imp (pt_cmpR ho ha.pe hb.pe hm) fun σ H Q h => by
    obtain ⟨W, s, R, e, ok, ats, h, fin⟩ := tst h
    exact two ⟨W, s, R, e, ok, ats, h, fin⟩⟩
theorem t_val (h : GE X e ga) (he : ∀ whole, isTrue e X.env whole = (do let v ← whole; standAt e.pos; holding [v] (truthy v)) := by intro _; rfl) : GT X e (gTs ga) :=
  ⟨pt_imp (pt_val h.pe he) fun σ H Q h => tst h⟩
theorem w_t (h : GW X e gt) : GT X e gt := ⟨h.pw.pt⟩
variable {rest : List Expr}
theorem w_and1 (ha : GT X a gt) : GW X (.BoolOp .And [a] pos) gt := ⟨pw_and1 ha.pt⟩
theorem w_or1 (ha : GT X a gt) : GW X (.BoolOp .Or [a] pos) gt := ⟨pw_or1 ha.pt⟩
def gAnd (t u : GTT) : GTT := fun s L R => t s L fun c L1 => br c (u s L1 R) (R false L1)
def gOr (t u : GTT) : GTT := fun s L R => t s L fun c L1 => br c (R true L1) (u s L1 R)
def gNot (t : GTT) : GTT := fun s L R => t s L fun c L1 => R (!c) L1
theorem w_and (ha : GT X a gt) (hb : GW X (.BoolOp .And (b :: rest) pos) gu) : GW X (.BoolOp .And (a :: b :: rest) pos) (gAnd gt gu) :=
  ⟨pw_imp (pw_and ha.pt hb.pw) fun σ H Q h => by
    obtain ⟨W, s, R, e, ok, ats, h, fin⟩ := h
    refine ⟨W, s, _, e, ok, ats, h, fun c W1 q g1 ok1 => ?_⟩
    cases c with
    | true => exact ⟨W1, s, R, rfl, ok1, ats.mono g1, q.1 rfl, fun b W2 q2 g2 ok2 => fin b W2 q2 (g1.trans g2) ok2⟩
    | false => exact fin false W1 (q.2 rfl) g1 ok1⟩
theorem w_or (ha : GT X a gt) (hb : GW X (.BoolOp .Or (b :: rest) pos) gu) : GW X (.BoolOp .Or (a :: b :: rest) pos) (gOr gt gu) :=
  ⟨pw_imp (pw_or ha.pt hb.pw) fun σ H Q h => by
    obtain ⟨W, s, R, e, ok, ats, h, fin⟩ := h
    refine ⟨W, s, _, e, ok, ats, h, fun c W1 q g1 ok1 => ?_⟩
    cases c with
    | false => exact ⟨W1, s, R, rfl, ok1, ats.mono g1, q.2 rfl, fun b W2 q2 g2 ok2 => fin b W2 q2 (g1.trans g2) ok2⟩
    | true => exact fin true W1 (q.1 rfl) g1 ok1⟩
theorem t_not (ha : GT X a gt) : GT X (.UnaryOp .Not a pos) (gNot gt) :=
  ⟨pt_imp (pt_not ha.pt) fun σ H Q h => by
    obtain ⟨W, s, R, e, ok, ats, h, fin⟩ := h
    exact ⟨W, s, _, e, ok, ats, h, fun c W1 q g1 ok1 => fin _ W1 q g1 ok1⟩⟩
/-- .. as values -/
def gAndV (g k : GTE) : GTE := fun s L R => g s L fun a L1 => onB a fun c => br c (k s L1 R) (R (.d (.bool false)) L1)
def gOrV (g k : GTE) : GTE := fun s L R => g s L fun a L1 => onB a fun c => br c (R (.d (.bool true)) L1) (k s L1 R)
def gNotV (g : GTE) : GTE := fun s L R => g s L fun a L1 => onB a fun c => R (.d (.bool (!c))) L1
theorem g_one {op} (ha : GE X a ga) : GE X (.BoolOp op [a] pos) ga := ⟨pe_one ha.pe⟩
theorem g_and (ha : GE X a ga) (hb : GE X (.BoolOp .And (b :: rest) pos) gb) : GE X (.BoolOp .And (a :: b :: rest) pos) (gAndV ga gb) :=
  ⟨pe_imp (pe_and ha.pe hb.pe) fun σ H Q h => by
    obtain ⟨W, s, R, e, ok, ats, h, fin⟩ := h
    refine ⟨W, s, _, e, ok, ats, h, fun c W1 v q g1 ok1 at1 => ?_⟩
    obtain ⟨c, rfl, q⟩ := onB_el q
    refine ⟨c, at1.bl, ?_⟩
    cases c with
    | true => exact ⟨W1, s, R, rfl, ok1, ats.mono g1, q.1 rfl, fun b W2 v q2 g2 ok2 => fin b W2 v q2 (g1.trans g2) ok2⟩
    | false => exact fin _ W1 _ (q.2 rfl) g1 ok1 (.d (.bl _))⟩
theorem g_or (ha : GE X a ga) (hb : GE X (.BoolOp .Or (b :: rest) pos) gb) : GE X (.BoolOp .Or (a :: b :: rest) pos) (gOrV ga gb) :=
  ⟨pe_imp (pe_or ha.pe hb.pe) fun σ H Q h => by
    obtain ⟨W, s, R, e, ok, ats, h, fin⟩ := h
    refine ⟨W, s, _, e, ok, ats, h, fun c W1 v q g1 ok1 at1 => ?_⟩
    obtain ⟨c, rfl, q⟩ := onB_el q
    refine ⟨c, at1.bl, ?_⟩
    cases c with
    | false => exact ⟨W1, s, R, rfl, ok1, ats.mono g1, q.2 rfl, fun b W2 v q2 g2 ok2 => fin b W2 v q2 (g1.trans g2) ok2⟩
    | true => exact fin _ W1 _ (q.1 rfl) g1 ok1 (.d (.bl _))⟩
theorem g_not (ha : GE X a ga) : GE X (.UnaryOp .Not a pos) (gNotV ga) :=
  ⟨pe_imp (pe_not ha.pe) fun σ H Q h => by
    obtain ⟨W, s, R, e, ok, ats, h, fin⟩ := h
    refine ⟨W, s, _, e, ok, ats, h, fun c W1 v q g1 ok1 at1 => ?_⟩
    obtain ⟨c, rfl, q⟩ := onB_el q
    exact ⟨c, at1.bl, fin _ W1 _ q g1 ok1 (.d (.bl _))⟩⟩
def gIfE (t : GTT) (g k : GTE) : GTE := fun s L R => t s L fun c L1 => br c (g s L1 R) (k s L1 R)
theorem g_ifE (hc : GT X c gt) (ha : GE X a ga) (hb : GE X b gb) : GE X (.IfExp c a b pos) (gIfE gt ga gb) :=
  ⟨pe_imp (pe_ifExp hc.pt ha.pe hb.pe) fun σ H Q h => by
    obtain ⟨W, s, R, e, ok, ats, h, fin⟩ := h
    refine ⟨W, s, _, e, ok, ats, h, fun c W1 q g1 ok1 => ?_⟩
    cases c with
    | true => exact ⟨W1, s, R, rfl, ok1, ats.mono g1, q.1 rfl, fun b W2 v q2 g2 ok2 => fin b W2 v q2 (g1.trans g2) ok2⟩
    | false => exact ⟨W1, s, R, rfl, ok1, ats.mono g1, q.2 rfl, fun b W2 v q2 g2 ok2 => fin b W2 v q2 (g1.trans g2) ok2⟩⟩
/-- a < b < c: g's own answer a truth -/
def gChn (g g' : G2) (ga gb gc : GTE) : GTE := fun s L R => ga s L fun x L1 => gb s L1 fun y L2 => g x y L2 fun z L3 => onB z fun k => br k (gc s L3 fun w L4 => g' y w L4 R) (R (.d (.bool false)) L3)
theorem chn {K : PySem.W.Frag} {g g' : G2} {σ : L2.St} {H : Hp} {Q : VK} (h : liftE K (gChn g g' ga gb gc) σ H Q) : tChain (lift2 K g) (lift2 K g') (liftE K ga) (liftE K gb) (liftE K gc) σ H Q := by
  obtain ⟨W, s, R, e, ok, ats, h, fin⟩ := h
  refine ⟨W, s, _, e, ok, ats, h, fun a W1 v q g1 ok1 at1 => ⟨W1, s, _, rfl, ok1, ats.mono g1, q, fun b W2 u q2 g2 ok2 at2 => ⟨W2, a, b, _, rfl, ok2, at1.mono g2, at2, q2, fun c W3 z q3 g3 ok3 at3 => ?_⟩⟩⟩
  obtain ⟨k, rfl, q3⟩ := onB_el q3
  refine ⟨k, at3.bl, ?_⟩
  cases k with
  | false => exact fin _ W3 _ (q3.2 rfl) (g1.trans (g2.trans g3)) ok3 (.d (.bl _))
  | true => exact ⟨W3, s, _, rfl, ok3, ats.mono (g1.trans (g2.trans g3)), q3.1 rfl, fun c W4 u' q4 g4 ok4 at4 => ⟨W4, b, c, R, rfl, ok4, at2.mono (g3.trans g4), at4, q4, fun d W5 w q5 g5 ok5 at5 => fin d W5 w q5 (g1.trans (g2.trans (g3.trans (g4.trans g5)))) ok5 at5⟩⟩
theorem g_chain {op op' : CmpOp} {g g' : G2} (ho : OpG X (compareOp op) g) (ho' : OpG X (compareOp op') g') (ha : GE X a ga) (hb : GE X b gb) (hc : GE X c gc)
    (hm : lastMarks [op, op'] [b, c] = false := by with_unfolding_all rfl) : GE X (.Compare a [op, op'] [b, c] pos) (gChn g g' ga gb gc) :=
  ⟨pe_imp (pe_chain ho ho' ha.pe hb.pe hc.pe hm) fun σ H Q h => chn h⟩
theorem t_chain {op op' : CmpOp} {g g' : G2} (ho : OpG X (compareOp op) g) (ho' : OpG X (compareOp op') g') (ha : GE X a ga) (hb : GE X b gb) (hc : GE X c gc)
    (hm : lastMarks [op, op'] [b, c] = false := by with_unfolding_all rfl) : GT X (.Compare a [op, op'] [b, c] pos) (gTs (gChn g g' ga gb gc)) :=
  ⟨pt_imp (pt_chain ho ho' ha.pe hb.pe hc.pe hm) fun σ H Q h => by
    obtain ⟨W, s, R, e, ok, ats, h, fin⟩ := tst h
    exact chn ⟨W, s, R, e, ok, ats, h, fin⟩⟩
end
end GL

namespace GL
open PySem PySem.Spec L2
open PyProof.Rows hiding St

/-! ### sequences -/
def sqOf (L : Lo) : A → Option (List A)
  | .d (.list ds) => some (ds.map .d)
  | .d (.tuple ds) => some (ds.map .d)
  | .d (.grp ds) => some (ds.map .d)
  | .own n => match L[n]? with
    | some (.lst as) => some as
    | _ => none
  | .tup as => some as
  | .scr ns => some (ns.map fun i => .d (.int i))
  | _ => none
theorem sq_at {K : PySem.W.Frag} {W : Wd} {a : A} {as : List A} {v : V} (h : At K W a v) (ok : W.Ok K) (e : sqOf W.L a = some as) : ∃ p vs, v = .ref p ∧ (SqL K W.H p vs ∨ SqT K W.H p vs) ∧ AtL K W as vs := by
  cases h with
  | d q =>
    cases q with
    | lst e1 l => cases e; exact ⟨_, _, rfl, .inl (SqL.of (ok.base _ _ e1)), .of_ds l⟩
    | tup e1 l => cases e; exact ⟨_, _, rfl, .inr (SqT.of (ok.base _ _ e1)), .of_ds l⟩
    | grp e1 z l => cases e; exact ⟨_, _, rfl, .inr (.inl (.inr ⟨_, ok.base _ _ e1⟩)), .of_ds l⟩
    | non => cases e
    | bl _ => cases e
    | int _ => cases e
    | str _ => cases e
  | @own n hn =>
    dsimp only [sqOf] at e
    split at e
    · rename_i as' e1
      cases e
      obtain ⟨u, e2, ⟨vs, rfl, q⟩, _⟩ := ok.own _ _ e1 (by intro z; cases z)
      exact ⟨_, vs, rfl, .inl (SqL.of e2), q⟩
    · cases e
  | tup e1 q => cases e; exact ⟨_, _, rfl, .inr (SqT.of (ok.base _ _ e1)), q⟩
  | @scr p ns q =>
    cases e
    refine ⟨_, _, rfl, .inl (Same.seq ok.base q), ?_⟩
    have : ∀ ms : List Int, AtL K W (ms.map fun i => A.d (.int i)) (ms.map V.int) := fun ms => by
      induction ms with
      | nil => exact .nil
      | cons m ms ih => exact .cons (.d (.int m)) ih
    exact this ns
  | raw _ => cases e
theorem atI_map {as : List A} {vs : List V} {K : PySem.W.Frag} {W : Wd} {i : Int} {a : A} (h : AtL K W as vs) (e : atI as i = some a) : ∃ v, atI vs i = some v ∧ At K W a v := by
  unfold atI at e ⊢
  rw [← h.length]
  cases q : ixN as.length i with
  | none => rw [q] at e; cases e
  | some j =>
    rw [q] at e
    exact h.get e
section
variable {X : Cx} {a b c e : Expr} {es : List Expr} {pos : Pos} {ga gb gc : GTE} {gt gu : GTT} {gs : GTA}
/-- an item: a function of what is known -/
def itemA (L : Lo) (a b : A) : Option A := match sqOf L a, b with
  | some as, .d (.int i) => atI as i
  | _, _ => none
def gIx (ga gb : GTE) : GTE := gOp (fun a b L R => ∃ x, itemA L a b = some x ∧ R x L) ga gb
theorem ix_both : IxR X (fun x y H Q => rIxL X.K x y H Q ∨ rIxT X.K x y H Q) := ix_list.or ix_tup
theorem g_ix (ha : GE X a ga) (hb : GE X b gb) (hs : PlainIx b := by exact fun _ _ => rfl) : GE X (.Subscript a b pos) (gIx ga gb) :=
  ⟨pe_imp (pe_ix ix_both ha.pe hb.pe hs) fun σ H Q h => by
    obtain ⟨W, s, R, e, ok, ats, h, fin⟩ := h
    refine ⟨W, s, _, e, ok, ats, h, fun a W1 v q g1 ok1 at1 => ⟨W1, s, _, rfl, ok1, ats.mono g1, q, fun b W2 u q2 g2 ok2 at2 => ?_⟩⟩
    obtain ⟨x, ex, q2⟩ := q2
    unfold itemA at ex
    split at ex
    · rename_i as i es
      obtain ⟨p, vs, rfl, hq, hl⟩ := sq_at (at1.mono g2) ok2 es
      obtain ⟨w, e1, e2⟩ := atI_map hl ex
      have fin' := fin x W2 w q2 (g1.trans g2) ok2 e2
      rcases hq with hq | hq
      · exact .inl ⟨p, vs, i, w, rfl, at2.int, hq, e1, fin'⟩
      · exact .inr ⟨p, vs, i, w, rfl, at2.int, hq, e1, fin'⟩
    · cases ex⟩
/-! ### calls of built-ins -/
def CallG (X : Cx) (f : Value) (g : GC) : Prop := CallR X f (liftC X.K g)
theorem callr_imp {X : Cx} {f : Value} {r r' : List V → Hp → VK → Prop} (h : CallR X f r) (q : ∀ x H Q, r' x H Q → r x H Q) : CallR X f r' :=
  fun pins s σ H xs us Q I r z => h pins s σ H xs us Q I r (q _ _ _ z)
def gCB (g : GC) (gs : GTA) : GTE := fun s L R => gs s L fun as L1 => g as L1 R
theorem cb {K : PySem.W.Frag} {g : GC} {σ : L2.St} {H : Hp} {Q : VK} (h : liftE K (gCB g gs) σ H Q) : liftA K gs σ H fun vs H1 => liftC K g vs H1 Q := by
  obtain ⟨W, s, R, e, ok, ats, h, fin⟩ := h
  exact ⟨W, s, _, e, ok, ats, h, fun as W1 vs q g1 ok1 at1 => ⟨W1, as, R, rfl, ok1, at1, q, fun c W2 v q2 g2 ok2 at2 => fin c W2 v q2 (g1.trans g2) ok2 at2⟩⟩
theorem g_callB {id : String} {x : Str} {p : Pos} {g : GC} (hc : CallG X (.builtin id) g) (hg : Gl X x) (hm : X.mg x = none) (hv : bootBuiltins x = some (.builtin id)) (ha : GA X (e :: es) gs) (hn : x ≠ "__name__" := by decide) (hdb : (x == ("__debug__" : Str)) = false := by decide)
    (he : starEach (e :: es) X.env = (false, eval e X.env) :: starEach es X.env := by rfl) (hpl : (backTo pos (starEach es X.env)).any (·.1) = false := by rfl) : GE X (.Call (.Name x p) (e :: es) [] pos) (gCB g gs) :=
  ⟨pe_imp (pe_callB hc hg hm hv ha.pa hn hdb he hpl) fun σ H Q h => cb h⟩
theorem g_callTy {T : String} {x : Str} {p : Pos} {g : GC} (hc : CallG X (.type T) g) (hg : Gl X x) (hm : X.mg x = none) (hv : bootBuiltins x = some (.type T)) (ha : GA X (e :: es) gs) (hn : x ≠ "__name__" := by decide) (hdb : (x == ("__debug__" : Str)) = false := by decide)
    (he : starEach (e :: es) X.env = (false, eval e X.env) :: starEach es X.env := by rfl) (hpl : (backTo pos (starEach es X.env)).any (·.1) = false := by rfl) : GE X (.Call (.Name x p) (e :: es) [] pos) (gCB g gs) :=
  ⟨pe_imp (pe_callTy hc hg hm hv ha.pa hn hdb he hpl) fun σ H Q h => cb h⟩
theorem AtL.one {K : PySem.W.Frag} {W : Wd} {a : A} {vs : List V} (h : AtL K W [a] vs) : ∃ v, vs = [v] ∧ At K W a v := by
  cases h with | cons h1 h2 => cases h2; exact ⟨_, rfl, h1⟩
theorem AtL.two {K : PySem.W.Frag} {W : Wd} {a b : A} {vs : List V} (h : AtL K W [a, b] vs) : ∃ v u, vs = [v, u] ∧ At K W a v ∧ At K W b u := by
  cases h with | cons h1 h2 => cases h2 with | cons h2 h3 => cases h3; exact ⟨_, _, rfl, h1, h2⟩
def on1 (as : List A) (k : A → Prop) : Prop := match as with
  | [a] => k a
  | _ => False
theorem on1_el {as : List A} {k : A → Prop} (h : on1 as k) : ∃ a, as = [a] ∧ k a := by
  unfold on1 at h
  split at h
  · exact ⟨_, rfl, h⟩
  · exact h.elim
def on2 (as : List A) (k : A → A → Prop) : Prop := match as with
  | [a, b] => k a b
  | _ => False
theorem on2_el {as : List A} {k : A → A → Prop} (h : on2 as k) : ∃ a b, as = [a, b] ∧ k a b := by
  unfold on2 at h
  split at h
  · exact ⟨_, _, rfl, h⟩
  · exact h.elim
def onO {α : Type} (o : Option α) (k : α → Prop) : Prop := match o with
  | some a => k a
  | none => False
theorem onO_el {α : Type} {o : Option α} {k : α → Prop} (h : onO o k) : ∃ a, o = some a ∧ k a := by
  unfold onO at h
  split at h
  · exact ⟨_, rfl, h⟩
  · exact h.elim
/-- len of a sequence -/
def gLen : GC := fun as L R => on1 as fun a => onO (sqOf L a) fun xs => R (.d (.int xs.length)) L
theorem k_len : CallG X (.builtin "len") gLen := callr_imp call_len_seq fun vs H Q h => by
  obtain ⟨W, as, R, e, ok, ats, h0, fin⟩ := h
  obtain ⟨a, ea, h1⟩ := on1_el h0
  obtain ⟨xs, ex, h⟩ := onO_el h1
  subst ea
  obtain ⟨v, rfl, at1⟩ := ats.one
  obtain ⟨p, us, rfl, hq, hl⟩ := sq_at at1 ok ex
  exact ⟨p, us, rfl, e ▸ hq, by rw [← hl.length]; exact e ▸ fin _ W _ h Grow.refl ok (.d (.int _))⟩
/-- int of a truth, of a number -/
def gInt1 : GC := fun as L R => on1 as fun a => match a with
  | .d (.int i) => R (.d (.int i)) L
  | .d (.bool k) => R (.d (.int (if k then 1 else 0))) L
  | _ => False
theorem k_int1 : CallG X (.type "int") gInt1 := callr_imp call_int1 fun vs H Q h => by
  obtain ⟨W, as, R, e, ok, ats, h0, fin⟩ := h
  obtain ⟨a, ea, h⟩ := on1_el h0
  subst ea
  obtain ⟨v, rfl, at1⟩ := ats.one
  split at h
  · exact .inl ⟨_, by rw [at1.int], e ▸ fin _ W _ h Grow.refl ok (.d (.int _))⟩
  · exact .inr ⟨_, by rw [at1.bl], e ▸ fin _ W _ h Grow.refl ok (.d (.int _))⟩
  · exact h.elim
/-- list(xs): an own cell; frozen -/
def gListO : GC := fun as L R => on1 as fun a => onO (sqOf L a) fun xs => R (.own L.length) (L ++ [.lst xs])
theorem k_listO : CallG X (.type "list") gListO := callr_imp call_list_of fun vs H Q h => by
  obtain ⟨W, as, R, e, ok, ats, h0, fin⟩ := h
  obtain ⟨a, ea, h1⟩ := on1_el h0
  obtain ⟨xs, ex, h⟩ := onO_el h1
  subst ea e
  obtain ⟨v, rfl, at1⟩ := ats.one
  obtain ⟨p, us, rfl, hq, hl⟩ := sq_at at1 ok ex
  exact ⟨p, us, rfl, hq, fun l hl' => fin _ (W.new l (.lst xs) (.lst us)) _ h (Wd.new_grow ok hl' _ _) (Wd.new_ok ok hl' ⟨us, rfl, hl⟩) (Wd.new_own _ _)⟩
def gListF : GC := fun as L R => on1 as fun a => onO (sqOf L a) fun xs => ∃ ds : List D, xs = ds.map .d ∧ R (.d (.list ds)) L
theorem k_listF : CallG X (.type "list") gListF := callr_imp call_list_of fun vs H Q h => by
  obtain ⟨W, as, R, e, ok, ats, h0, fin⟩ := h
  obtain ⟨a, ea, h1⟩ := on1_el h0
  obtain ⟨xs, ex, ds, ed, h⟩ := onO_el h1
  subst e ed ea
  obtain ⟨v, rfl, at1⟩ := ats.one
  obtain ⟨p, us, rfl, hq, hl⟩ := sq_at at1 ok ex
  exact ⟨p, us, rfl, hq, fun l hl' => fin _ (W.frz l (.lst us)) _ h (Wd.frz_grow ok hl' _) (Wd.frz_ok ok hl' _) (lst_at hl.ds ok hl')⟩
theorem mapd_inj {as bs : List D} (z : as.map A.d = bs.map A.d) : as = bs := by
  have := congrArg allD z
  rw [allD_map, allD_map] at this
  exact Option.some.inj this
/-- tuple(xs) of a list: strong -/
theorem call_tupleS : CallR X (.type "tuple") (fun xs H Q => ∃ p ys, xs = [.ref p] ∧ SqL X.K H p ys ∧ ∀ l o, H l = none → o.dict = none → Q (.ref l) (upd H l (.frz o (.tup ys)))) := by
  intro pins s σ H xs us Q I r h
  obtain ⟨p, ys, rfl, hq, q⟩ := h
  obtain ⟨u, rfl, rx⟩ := vals1 r
  cases rx
  obtain ⟨its, r', pl, hz⟩ := I.list hq
  have hlen := r'.length
  refine call_tuple_list pl.isList (fun h' kp => ?_) (by simp only [List.size_toArray] <;> omega)
  have I1 : Inv X pins σ H { s with heap := h' } := I.kept (t' := s.toks) kp
  have I2 : Inv X pins σ (upd H h'.objs.size (.frz { cls := .type "tuple", data := .seq its.toArray } (.tup ys))) { s with heap := h'.push { cls := .type "tuple", data := .seq its.toArray } } :=
    I1.laid (t' := s.toks) (fun b o e => Heap.get?_push_of_some _ e) (Nat.le_refl _) (show ObjOk X.prog X.w _ _ _ (.frz _ (.tup ys)) from ⟨Heap.get?_push_size _ rfl, hz, its, r', PyProof.Rows.IsTup.new _ _⟩)
  exact ⟨.ref h'.objs.size, _, I2, rfl, q _ _ (I1.hok.fresh (Nat.le_refl _)) rfl⟩
/-- what is a list -/
def lsOf (L : Lo) : A → Option (List A)
  | .d (.list ds) => some (ds.map .d)
  | .own n => match L[n]? with
    | some (.lst as) => some as
    | _ => none
  | .scr ns => some (ns.map fun i => .d (.int i))
  | _ => none
theorem ls_at {K : PySem.W.Frag} {W : Wd} {a : A} {as : List A} {v : V} (h : At K W a v) (ok : W.Ok K) (e : lsOf W.L a = some as) : ∃ p vs, v = .ref p ∧ SqL K W.H p vs ∧ AtL K W as vs := by
  cases h with
  | d q =>
    cases q with
    | lst e1 l => cases e; exact ⟨_, _, rfl, SqL.of (ok.base _ _ e1), .of_ds l⟩
    | tup e1 l => cases e
    | grp e1 z l => cases e
    | non => cases e
    | bl _ => cases e
    | int _ => cases e
    | str _ => cases e
  | @own n hn =>
    dsimp only [lsOf] at e
    split at e
    · rename_i as' e1
      cases e
      obtain ⟨u, e2, ⟨vs, rfl, q⟩, _⟩ := ok.own _ _ e1 (by intro z; cases z)
      exact ⟨_, vs, rfl, SqL.of e2, q⟩
    · cases e
  | tup e1 q => cases e
  | @scr p ns q =>
    cases e
    refine ⟨_, _, rfl, Same.seq ok.base q, ?_⟩
    have : ∀ ms : List Int, AtL K W (ms.map fun i => A.d (.int i)) (ms.map V.int) := fun ms => by
      induction ms with
      | nil => exact .nil
      | cons m ms ih => exact .cons (.d (.int m)) ih
    exact this ns
  | raw _ => cases e
/-- tuple(xs) of a list, frozen items: plain; strong -/
def gTupW : GC := fun as L R => on1 as fun a => onO (lsOf L a) fun xs => ∃ ds : List D, xs = ds.map .d ∧ R (.d (.tuple ds)) L
theorem k_tupW : CallG X (.type "tuple") gTupW := callr_imp call_tuple_of fun vs H Q h => by
  obtain ⟨W, as, R, e, ok, ats, h0, fin⟩ := h
  obtain ⟨a, ea, h1⟩ := on1_el h0
  obtain ⟨xs, ex, ds, ed, h⟩ := onO_el h1
  subst e ed ea
  obtain ⟨v, rfl, at1⟩ := ats.one
  obtain ⟨p, us, rfl, hq, hl⟩ := ls_at at1 ok ex
  exact ⟨p, us, rfl, .inl ⟨hq, fun l hl' => fin _ (W.frz l (.tup us)) _ h (Wd.frz_grow ok hl' _) (Wd.frz_ok ok hl' _) (.d (.tup upd_same (DXL.mono (Wd.frz_grow ok hl' _).base _ _ hl.ds)))⟩⟩
def gTupS : GC := fun as L R => on1 as fun a => onO (lsOf L a) fun xs => ∃ ds : List D, xs = ds.map .d ∧ R (.d (.grp ds)) L
theorem k_tupS : CallG X (.type "tuple") gTupS := callr_imp call_tupleS fun vs H Q h => by
  obtain ⟨W, as, R, e, ok, ats, h0, fin⟩ := h
  obtain ⟨a, ea, h1⟩ := on1_el h0
  obtain ⟨xs, ex, ds, ed, h⟩ := onO_el h1
  subst e ed ea
  obtain ⟨v, rfl, at1⟩ := ats.one
  obtain ⟨p, us, rfl, hq, hl⟩ := ls_at at1 ok ex
  exact ⟨p, us, rfl, hq, fun l o hl' ho => fin _ (W.frz l (.frz o (.tup us))) _ h (Wd.frz_grow ok hl' _) (Wd.frz_ok ok hl' _) (.d (.grp upd_same ho (DXL.mono (Wd.frz_grow ok hl' _).base _ _ hl.ds)))⟩
/-- tuple(t) of a tuple: itself -/
def gTupT : GC := fun as L R => on1 as fun a => match a with
  | .d (.tuple ds) => R (.d (.tuple ds)) L
  | .d (.grp ds) => R (.d (.grp ds)) L
  | _ => False
theorem k_tupT : CallG X (.type "tuple") gTupT := callr_imp call_tupleT fun vs H Q h => by
  obtain ⟨W, as, R, e, ok, ats, h0, fin⟩ := h
  obtain ⟨a, ea, h⟩ := on1_el h0
  subst e ea
  obtain ⟨v, rfl, at1⟩ := ats.one
  split at h
  · obtain ⟨p, us, rfl, e, l⟩ := at1.tpl
    exact ⟨p, us, rfl, SqT.of (ok.base _ _ e), fin _ W _ h Grow.refl ok (.d (.tup e l))⟩
  · cases at1 with
    | d q =>
      cases q with
      | grp e z l => exact ⟨_, _, rfl, .inl (.inr ⟨_, ok.base _ _ e⟩), fin _ W _ h Grow.refl ok (.d (.grp e z l))⟩
  · exact h.elim
/-- sum, min, max of whole numbers; any, all of truths -/
def intsOf : List D → Option (List Int)
  | [] => some []
  | .int i :: r => match intsOf r with
    | some ns => some (i :: ns)
    | none => none
  | _ :: _ => none
theorem list_at {K : PySem.W.Frag} {W : Wd} {a : A} {ds : List D} {v : V} (r : Rds W.L a (.list ds)) (ok : W.Ok K) (h : At K W a v) : ∃ p vs, v = .ref p ∧ SqL K W.H p vs ∧ DXL W.B vs ds := by
  cases r with
  | d =>
    obtain ⟨p, vs, rfl, e, l⟩ := h.lst
    exact ⟨p, vs, rfl, SqL.of (ok.base _ _ e), l⟩
  | own e =>
    obtain ⟨rfl, _⟩ := h.own_iff
    obtain ⟨u, e1, ⟨vs, rfl, q⟩, _⟩ := ok.own _ _ e (by intro z; cases z)
    exact ⟨_, vs, rfl, SqL.of e1, q.ds⟩
def gSum : GC := fun as L R => on1 as fun a => ∃ ns : List Int, Rds L a (.list (ns.map .int)) ∧ R (.d (.int ns.sum)) L
theorem k_sum (hc : X.calm = true) : CallG X (.builtin "sum") gSum := callr_imp (cr_sum hc) fun vs H Q h => by
  obtain ⟨W, as, R, e, ok, ats, h0, fin⟩ := h
  obtain ⟨a, ea, ns, r, h⟩ := on1_el h0
  subst ea e
  obtain ⟨v, rfl, at1⟩ := ats.one
  obtain ⟨p, us, rfl, hq, hl⟩ := list_at r ok at1
  rw [hl.ints] at hq
  exact ⟨p, ns, rfl, hq, fin _ W _ h Grow.refl ok (.d (.int _))⟩
def gMax : GC := fun as L R => on1 as fun a => ∃ ns : List Int, Rds L a (.list (ns.map .int)) ∧ 0 < ns.length ∧ ∀ m, m ∈ ns → (∀ y, y ∈ ns → y ≤ m) → R (.d (.int m)) L
theorem k_max (hc : X.calm = true) : CallG X (.builtin "max") gMax := callr_imp (cr_max hc) fun vs H Q h => by
  obtain ⟨W, as, R, e, ok, ats, h0, fin⟩ := h
  obtain ⟨a, ea, ns, r, z, h⟩ := on1_el h0
  subst ea e
  obtain ⟨v, rfl, at1⟩ := ats.one
  obtain ⟨p, us, rfl, hq, hl⟩ := list_at r ok at1
  rw [hl.ints] at hq
  exact ⟨p, ns, rfl, hq, z, fun m h1 h2 => fin _ W _ (h m h1 h2) Grow.refl ok (.d (.int _))⟩
def gMin : GC := fun as L R => on1 as fun a => ∃ ns : List Int, Rds L a (.list (ns.map .int)) ∧ 0 < ns.length ∧ ∀ m, m ∈ ns → (∀ y, y ∈ ns → m ≤ y) → R (.d (.int m)) L
theorem k_min (hc : X.calm = true) : CallG X (.builtin "min") gMin := callr_imp (cr_min hc) fun vs H Q h => by
  obtain ⟨W, as, R, e, ok, ats, h0, fin⟩ := h
  obtain ⟨a, ea, ns, r, z, h⟩ := on1_el h0
  subst ea e
  obtain ⟨v, rfl, at1⟩ := ats.one
  obtain ⟨p, us, rfl, hq, hl⟩ := list_at r ok at1
  rw [hl.ints] at hq
  exact ⟨p, ns, rfl, hq, z, fun m h1 h2 => fin _ W _ (h m h1 h2) Grow.refl ok (.d (.int _))⟩
def gAny : GC := fun as L R => on1 as fun a => ∃ ns : List Bool, Rds L a (.list (ns.map .bool)) ∧ R (.d (.bool (ns.any id))) L
def gAll : GC := fun as L R => on1 as fun a => ∃ ns : List Bool, Rds L a (.list (ns.map .bool)) ∧ R (.d (.bool (ns.all id))) L
theorem k_any (hc : X.calm = true) : CallG X (.builtin "any") gAny := callr_imp (cr_any hc) fun vs H Q h => by
  obtain ⟨W, as, R, e, ok, ats, h0, fin⟩ := h
  obtain ⟨a, ea, ns, r, h⟩ := on1_el h0
  subst ea e
  obtain ⟨v, rfl, at1⟩ := ats.one
  obtain ⟨p, us, rfl, hq, hl⟩ := list_at r ok at1
  rw [hl.bls] at hq
  exact ⟨p, ns, rfl, hq, fin _ W _ h Grow.refl ok (.d (.bl _))⟩
theorem k_all (hc : X.calm = true) : CallG X (.builtin "all") gAll := callr_imp (cr_all hc) fun vs H Q h => by
  obtain ⟨W, as, R, e, ok, ats, h0, fin⟩ := h
  obtain ⟨a, ea, ns, r, h⟩ := on1_el h0
  subst ea e
  obtain ⟨v, rfl, at1⟩ := ats.one
  obtain ⟨p, us, rfl, hq, hl⟩ := list_at r ok at1
  rw [hl.bls] at hq
  exact ⟨p, ns, rfl, hq, fin _ W _ h Grow.refl ok (.d (.bl _))⟩

/-! ### isinstance with built-in types -/
def tyA (L : Lo) : A → Option String
  | .d .none => some "NoneType"
  | .d (.bool _) => some "bool"
  | .d (.int _) => some "int"
  | .d (.str _) => some "str"
  | .d (.list _) => some "list"
  | .d (.tuple _) => some "tuple"
  | .d (.grp _) => some "tuple"
  | .tup _ => some "tuple"
  | .own n => match L[n]? with
    | some (.lst _) => some "list"
    | some (.dK _) => some "dict"
    | some (.dT _) => some "dict"
    | _ => none
  | _ => none
theorem ty_at {K : PySem.W.Frag} {W : Wd} {a : A} {n : String} {v : V} (h : At K W a v) (ok : W.Ok K) (e : tyA W.L a = some n) : TyX K W.H v (.type n) := by
  cases h with
  | d q =>
    cases q with
    | lst e1 l => cases e; exact .base (.lst (ok.base _ _ e1))
    | tup e1 l => cases e; exact .base (.tup (ok.base _ _ e1))
    | grp e1 z l => cases e; exact .fTuple (ok.base _ _ e1)
    | non => cases e; exact .base .non
    | bl _ => cases e; exact .base (.bl _)
    | int _ => cases e; exact .base (.int _)
    | str _ => cases e; exact .base (.str _)
  | @own n hn =>
    dsimp only [tyA] at e
    split at e
    · rename_i as' e1
      cases e
      obtain ⟨u, e2, ⟨vs, rfl, q⟩, _⟩ := ok.own _ _ e1 (by intro z; cases z)
      exact .base (.lst e2)
    · rename_i as' e1
      cases e
      obtain ⟨u, e2, ⟨vs, rfl, q⟩, _⟩ := ok.own _ _ e1 (by intro z; cases z)
      exact .base (.dK e2)
    · rename_i as' e1
      cases e
      obtain ⟨u, e2, ⟨vs, rfl, q⟩, _⟩ := ok.own _ _ e1 (by intro z; cases z)
      exact .base (.dT e2)
    · cases e
  | tup e1 q => cases e; exact .base (.tup (ok.base _ _ e1))
  | scr _ => cases e
  | raw _ => cases e
/-- whether a built-in type is under another one, of those that occur -/
def under (a b : String) : Bool := a == b || (a == "bool" && b == "int")
def gIsi : GC := fun as L R => on2 as fun a c => match c with
  | .raw (.val (.ty m)) => onO (tyA L a) fun n => kitB n m = some (under n m) ∧ R (.d (.bool (under n m))) L
  | _ => False
theorem k_isi : CallG X (.builtin "isinstance") gIsi := callr_imp call_isi fun vs H Q h => by
  obtain ⟨W, as, R, e, ok, ats, h0, fin⟩ := h
  obtain ⟨a, c, ea, h⟩ := on2_el h0
  subst ea e
  obtain ⟨v, u, rfl, at1, at2⟩ := ats.two
  split at h
  · rename_i m
    obtain ⟨n, en, hk, h⟩ := onO_el h
    cases at2 with | raw q =>
    cases q
    exact ⟨v, .ty m, .type n, .type m, _, rfl, .ty m, ty_at at1 ok en, kit_ty hk, fin _ W _ h Grow.refl ok (.d (.bl _))⟩
  · exact h.elim
/-- isinstance(x, (T1, T2)) -/
def gIsi2 : GC := fun as L R => on2 as fun a c => match c with
  | .tup [.raw (.val (.ty m)), .raw (.val (.ty k))] => onO (tyA L a) fun n => kitB n m = some (under n m) ∧ kitB n k = some (under n k) ∧ R (.d (.bool (under n m || under n k))) L
  | _ => False
theorem k_isi2 : CallG X (.builtin "isinstance") gIsi2 := callr_imp call_isiT fun vs H Q h => by
  obtain ⟨W, as, R, e, ok, ats, h0, fin⟩ := h
  obtain ⟨a, c, ea, h⟩ := on2_el h0
  subst ea e
  obtain ⟨v, u, rfl, at1, at2⟩ := ats.two
  split at h
  · rename_i m k
    obtain ⟨n, en, hk, hk2, h⟩ := onO_el h
    cases at2 with
    | tup e1 q =>
      cases q with
      | cons q1 q2 =>
        cases q2 with
        | cons q2 q3 =>
          cases q3
          cases q1 with | raw q1 =>
          cases q2 with | raw q2 =>
          cases q1
          cases q2
          refine ⟨v, _, _, .type n, [.type m, .type k], _, rfl, ok.base _ _ e1, .cons (.ty m) (.cons (.ty k) .nil), ty_at at1 ok en, ?_, fin _ W _ h Grow.refl ok (.d (.bl _))⟩
          refine kitAny_cons (kit_ty hk) (fun z => ?_) fun z => by rw [z]; rfl
          refine kitAny_cons (kit_ty hk2) (fun z' => ?_) fun z => by rw [z]; simp
          rw [z, z']; exact kitAny_nil
  · exact h.elim
end
end GL

namespace GL
open PySem PySem.Spec L2

/-! ### what a store may be taken for -/
def Wk (b : Nat) (s : Sl) (L : Lo) (s1 : Sl) (L1 : Lo) : Prop := ∀ (K : PySem.W.Frag) (W : Wd) (σ : L2.St), W.Ok K → W.L = L → AtS K W s σ →
  ∃ W1 : Wd, W1.L = L1 ∧ W1.Ok K ∧ AtS K W1 s1 σ ∧ W1.H = W.H ∧ Sub W.B W1.B ∧ ∀ W0, Grow W0 W → W0.L.length ≤ b → b ≤ L1.length → Grow W0 W1
theorem Wk.refl {b : Nat} {s : Sl} {L : Lo} : Wk b s L s L := fun K W σ ok e a => ⟨W, e, ok, a, rfl, fun _ _ h => h, fun _ g _ _ => g⟩
theorem Wk.trans {b : Nat} {s s1 s2 : Sl} {L L1 L2 : Lo} (x : Wk b s L s1 L1) (y : Wk b s1 L1 s2 L2) (h : b ≤ L1.length) : Wk b s L s2 L2 := fun K W σ ok e at1 => by
  obtain ⟨W1, e1, ok1, at1, h1, b1, g1⟩ := x K W σ ok e at1
  obtain ⟨W2, e2, ok2, at2, h2, b2, g2⟩ := y K W1 σ ok1 e1 at1
  exact ⟨W2, e2, ok2, at2, h2.trans h1, fun a o h => b2 a o (b1 a o h), fun W0 g hb hl => g2 W0 (g1 W0 g hb h) hb hl⟩
/-- forgetting slots -/
def lessS : Sl → Sl → Prop
  | [], [] => True
  | _ :: s, none :: s1 => lessS s s1
  | some a :: s, some b :: s1 => a = b ∧ lessS s s1
  | _, _ => False
theorem lessS_len : ∀ {s s1 : Sl}, lessS s s1 → s1.length = s.length
  | [], [], _ => rfl
  | _ :: s, none :: s1, h => by simpa using lessS_len (s := s) (s1 := s1) h
  | some a :: s, some b :: s1, h => by simpa using lessS_len h.2
  | [], _ :: _, h => h.elim
  | _ :: _, [], h => h.elim
  | none :: _, some _ :: _, h => h.elim
theorem lessS_get : ∀ {s s1 : Sl}, lessS s s1 → ∀ (i : Nat) (a : A), s1[i]? = some (some a) → s[i]? = some (some a)
  | [], [], _, i, a, e => by simp at e
  | x :: s, none :: s1, h, 0, a, e => by simp at e
  | x :: s, none :: s1, h, i + 1, a, e => by simpa using lessS_get (s := s) (s1 := s1) h i a (by simpa using e)
  | some x :: s, some y :: s1, h, 0, a, e => by
    simp at e; subst e; rw [h.1]; rfl
  | some x :: s, some y :: s1, h, i + 1, a, e => by simpa using lessS_get h.2 i a (by simpa using e)
  | [], _ :: _, h, _, _, _ => h.elim
  | _ :: _, [], h, _, _, _ => h.elim
  | none :: _, some _ :: _, h, _, _, _ => h.elim
theorem Wk.less {b : Nat} {s s1 : Sl} {L : Lo} (h : lessS s s1) : Wk b s L s1 L := fun K W σ ok e a =>
  ⟨W, e, ok, ⟨(lessS_len h).trans a.len, fun i b eb => a.at_ i b (lessS_get h i b eb)⟩, rfl, fun _ _ h => h, fun _ g _ _ => g⟩
/-! own cells below a bound -/
mutual
def bel (k : Nat) : A → Bool
  | .d _ => true
  | .own n => decide (n < k)
  | .tup as => belL k as
  | .scr _ => true
  | .raw _ => true
def belL (k : Nat) : List A → Bool
  | [] => true
  | a :: as => bel k a && belL k as
end
def belO (k : Nat) : AO → Bool
  | .lst as => belL k as
  | .dT kvs => belL k (kvs.map (·.2))
  | .dK kvs => belL k (kvs.map (·.2))
  | .dX _ _ => true
  | .obj _ fs => belL k (fs.map (·.2))
  | .dead => true
def belS (k : Nat) : Sl → Bool
  | [] => true
  | none :: s => belS k s
  | some a :: s => bel k a && belS k s
mutual
theorem bel_at {K : PySem.W.Frag} {W W' : Wd} {k : Nat} (hb : Sub W.B W'.B) (hl : k ≤ W'.L.length) (hr : ∀ n, n < k → W'.ρ n = W.ρ n) : ∀ (a : A) (v : V), bel k a = true → At K W a v → At K W' a v
  | .d x, _, _, h => by cases h with | d q => exact .d (q.mono hb)
  | .own n, _, e, h => by
    cases h with
    | own q =>
      have e' : n < k := of_decide_eq_true e
      rw [← hr n e']; exact .own (Nat.lt_of_lt_of_le e' hl)
  | .tup as, _, e, h => by
    cases h with
    | tup e1 q => exact .tup (hb _ _ e1) (belL_at hb hl hr as _ e q)
  | .scr ns, _, _, h => by
    cases h with
    | scr q => exact .scr (Same.seq hb q)
  | .raw v, _, _, h => by
    cases h with
    | raw q => exact .raw (q.mono hb)
theorem belL_at {K : PySem.W.Frag} {W W' : Wd} {k : Nat} (hb : Sub W.B W'.B) (hl : k ≤ W'.L.length) (hr : ∀ n, n < k → W'.ρ n = W.ρ n) : ∀ (as : List A) (vs : List V), belL k as = true → AtL K W as vs → AtL K W' as vs
  | [], _, _, h => by cases h; exact .nil
  | a :: as, _, e, h => by
    have e' : (bel k a && belL k as) = true := e
    rw [Bool.and_eq_true] at e'
    cases h with
    | cons h1 h2 => exact .cons (bel_at hb hl hr a _ e'.1 h1) (belL_at hb hl hr as _ e'.2 h2)
end
theorem belP_at {K : PySem.W.Frag} {W W' : Wd} {k : Nat} {κ : Type} (hb : Sub W.B W'.B) (hl : k ≤ W'.L.length) (hr : ∀ n, n < k → W'.ρ n = W.ρ n) : ∀ {kvs : List (κ × A)} {ks : List (κ × V)}, belL k (kvs.map (·.2)) = true →
    Paired (fun p q => p.1 = q.1 ∧ At K W p.2 q.2) kvs ks → Paired (fun p q => p.1 = q.1 ∧ At K W' p.2 q.2) kvs ks
  | [], _, _, h => by cases h; exact .nil
  | a :: as, _, e, h => by
    have e' : (bel k a.2 && belL k (as.map (·.2))) = true := e
    rw [Bool.and_eq_true] at e'
    cases h with
    | cons h1 h2 => exact .cons ⟨h1.1, bel_at hb hl hr _ _ e'.1 h1.2⟩ (belP_at hb hl hr e'.2 h2)
theorem belO_at {K : PySem.W.Frag} {W W' : Wd} {k : Nat} (hb : Sub W.B W'.B) (hl : k ≤ W'.L.length) (hr : ∀ n, n < k → W'.ρ n = W.ρ n) {o : AO} {h : HO} (e : belO k o = true) (q : OAt K W o h) : OAt K W' o h := by
  cases o with
  | lst as => obtain ⟨vs, e1, q⟩ := q; exact ⟨vs, e1, belL_at hb hl hr _ _ e q⟩
  | dT kvs => obtain ⟨vs, e1, q⟩ := q; exact ⟨vs, e1, belP_at hb hl hr e q⟩
  | dK kvs => obtain ⟨vs, e1, q⟩ := q; exact ⟨vs, e1, belP_at hb hl hr e q⟩
  | dX f n => obtain ⟨p, ks, e, r, q⟩ := q; exact ⟨p, ks, e, fun x hx => let ⟨b, e1, e2⟩ := r x hx; ⟨b, hb _ _ e1, hb _ _ e2⟩, q⟩
  | obj C fs => obtain ⟨dx, vs, e1, q⟩ := q; exact ⟨dx, vs, e1, belP_at hb hl hr e q⟩
  | dead => trivial
theorem belS_at {K : PySem.W.Frag} {W W' : Wd} {k : Nat} (hb : Sub W.B W'.B) (hl : k ≤ W'.L.length) (hr : ∀ n, n < k → W'.ρ n = W.ρ n) {σ : L2.St} {s : Sl} (e : belS k s = true) (q : AtS K W s σ) : AtS K W' s σ := by
  have : ∀ (s : Sl) (i : Nat) (a : A), belS k s = true → s[i]? = some (some a) → bel k a = true := by
    intro s
    induction s with
    | nil => intro i a _ e; simp at e
    | cons b s ih =>
      intro i a h e
      cases i with
      | zero =>
        simp at e; subst e
        have h' : (bel k a && belS k s) = true := h
        rw [Bool.and_eq_true] at h'
        exact h'.1
      | succ i =>
        refine ih i a ?_ (by simpa using e)
        cases b with
        | none => exact h
        | some b =>
          have h' : (bel k b && belS k s) = true := h
          rw [Bool.and_eq_true] at h'
          exact h'.2
  exact ⟨q.len, fun i a ea => let ⟨v, e1, e2⟩ := q.at_ i a ea; ⟨v, e1, bel_at hb hl hr a v (this s i a e ea) e2⟩⟩
def belLo (k : Nat) : Lo → Bool
  | [] => true
  | o :: L => belO k o && belLo k L
theorem belLo_get {k : Nat} : ∀ {L : Lo} {n : Nat} {o : AO}, belLo k L = true → L[n]? = some o → belO k o = true
  | [], n, o, _, e => by simp at e
  | a :: L, 0, o, h, e => by
    simp at e; subst e
    have h' : (belO k a && belLo k L) = true := h
    rw [Bool.and_eq_true] at h'; exact h'.1
  | a :: L, n + 1, o, h, e => by
    have h' : (belO k a && belLo k L) = true := h
    rw [Bool.and_eq_true] at h'
    exact belLo_get h'.2 (by simpa using e)
/-- the last cells are given up -/
theorem Wk.pop {b : Nat} {s : Sl} {L1 J : Lo} (h1 : belS L1.length s = true) (h2 : belLo L1.length L1 = true) : Wk b s (L1 ++ J) s L1 := fun K W σ ok e a => by
  let W1 : Wd := ⟨W.ρ, W.B, L1, W.H⟩
  have get : ∀ {n o}, L1[n]? = some o → W.L[n]? = some o := fun {n o} q => by
    rw [e, List.getElem?_append_left (List.getElem?_eq_some_iff.mp q).1]; exact q
  refine ⟨W1, rfl, ⟨ok.base, fun n o q h => ?_, fun n m o o' q h q' h' z => ok.inj n m o o' (get q) h (get q') h' z, fun n h => ok.there n (by
    have h3 : n < L1.length := h
    rw [e, List.length_append]; omega)⟩, belS_at (W := W) (W' := W1) (fun _ _ h => h) (Nat.le_refl _) (fun _ _ => rfl) h1 a, rfl, fun _ _ h => h, fun W0 g hb0 hl0 => ?_⟩
  · obtain ⟨u, e1, e2, e3⟩ := ok.own n o (get q) h
    exact ⟨u, e1, belO_at (W := W) (W' := W1) (fun _ _ h => h) (Nat.le_refl _) (fun _ _ => rfl) (belLo_get h2 q) e2, e3⟩
  · have hl : W0.L.length ≤ L1.length := Nat.le_trans hb0 hl0
    exact ⟨g.base, hl, g.rho, g.keep, g.there, g.newB, fun n h1 h2 => g.newL n h1 (by
      have h3 : n < L1.length := h2
      rw [e, List.length_append]; omega)⟩
/-! the last cell, a list of frozen data, is frozen -/
mutual
def A.frz (n : Nat) (ds : List D) : A → A
  | .own m => if m = n then .d (.list ds) else .own m
  | .tup as => .tup (A.frzL n ds as)
  | .d x => .d x
  | .scr ns => .scr ns
  | .raw v => .raw v
def A.frzL (n : Nat) (ds : List D) : List A → List A
  | [] => []
  | a :: as => A.frz n ds a :: A.frzL n ds as
end
def frzS (n : Nat) (ds : List D) : Sl → Sl
  | [] => []
  | none :: s => none :: frzS n ds s
  | some a :: s => some (A.frz n ds a) :: frzS n ds s
mutual
theorem frz_at {K : PySem.W.Frag} {W W' : Wd} {n : Nat} {ds : List D} (hb : Sub W.B W'.B) (hl : W.L.length ≤ n + 1) (hl' : n ≤ W'.L.length) (hr : ∀ m, m < n → W'.ρ m = W.ρ m) (hn : ∃ vs, W'.B (W.ρ n) = some (.lst vs) ∧ DXL W'.B vs ds) :
    ∀ (a : A) (v : V), At K W a v → At K W' (a.frz n ds) v
  | .d x, _, h => by cases h with | d q => exact .d (q.mono hb)
  | .own m, _, h => by
    cases h with
    | own q =>
      unfold A.frz
      split
      · rename_i e
        subst e
        obtain ⟨vs, e1, e2⟩ := hn
        exact .d (.lst e1 e2)
      · rename_i ne
        rw [← hr m (by omega)]
        exact .own (by omega)
  | .tup as, _, h => by
    cases h with
    | tup e1 q => exact .tup (hb _ _ e1) (frzL_at hb hl hl' hr hn as _ q)
  | .scr ns, _, h => by
    cases h with
    | scr q => exact .scr (Same.seq hb q)
  | .raw v, _, h => by
    cases h with
    | raw q => exact .raw (q.mono hb)
theorem frzL_at {K : PySem.W.Frag} {W W' : Wd} {n : Nat} {ds : List D} (hb : Sub W.B W'.B) (hl : W.L.length ≤ n + 1) (hl' : n ≤ W'.L.length) (hr : ∀ m, m < n → W'.ρ m = W.ρ m) (hn : ∃ vs, W'.B (W.ρ n) = some (.lst vs) ∧ DXL W'.B vs ds) :
    ∀ (as : List A) (vs : List V), AtL K W as vs → AtL K W' (A.frzL n ds as) vs
  | [], _, h => by cases h; exact .nil
  | a :: as, _, h => by
    cases h with
    | cons h1 h2 => exact .cons (frz_at hb hl hl' hr hn a _ h1) (frzL_at hb hl hl' hr hn as _ h2)
end
theorem frzS_at {K : PySem.W.Frag} {W W' : Wd} {n : Nat} {ds : List D} {σ : L2.St} (H : ∀ (a : A) (v : V), At K W a v → At K W' (a.frz n ds) v) : ∀ {s : Sl}, AtS K W s σ → AtS K W' (frzS n ds s) σ := fun {s} q => by
  have len : ∀ s : Sl, (frzS n ds s).length = s.length := fun s => by
    induction s with
    | nil => rfl
    | cons a s ih => cases a <;> simp [frzS, ih]
  have get : ∀ (s : Sl) (i : Nat) (a : A), (frzS n ds s)[i]? = some (some a) → ∃ b, s[i]? = some (some b) ∧ a = b.frz n ds := by
    intro s
    induction s with
    | nil => intro i a e; simp [frzS] at e
    | cons b s ih =>
      intro i a e
      cases i with
      | zero =>
        cases b with
        | none => simp [frzS] at e
        | some b => simp [frzS] at e; exact ⟨b, rfl, e.symm⟩
      | succ i =>
        cases b with
        | none => simpa using ih i a (by simpa [frzS] using e)
        | some b => simpa using ih i a (by simpa [frzS] using e)
  refine ⟨(len s).trans q.len, fun i a e => ?_⟩
  obtain ⟨b, e1, rfl⟩ := get s i a e
  obtain ⟨v, e2, e3⟩ := q.at_ i b e1
  exact ⟨v, e2, H b v e3⟩
theorem Wk.frz {b : Nat} {s : Sl} {L1 : Lo} {ds : List D} (h2 : belLo L1.length L1 = true) : Wk b s (L1 ++ [.lst (ds.map .d)]) (frzS L1.length ds s) L1 := fun K W σ ok e a => by
  have hg : W.L[L1.length]? = some (.lst (ds.map .d)) := by rw [e]; simp
  obtain ⟨u, e1, ⟨vs, rfl, q⟩, e3⟩ := ok.own _ _ hg (by intro z; cases z)
  let W1 : Wd := ⟨W.ρ, upd W.B (W.ρ L1.length) (.lst vs), L1, W.H⟩
  have hsub : Sub W.B W1.B := sub_upd e3
  have get : ∀ {n o}, L1[n]? = some o → W.L[n]? = some o := fun {n o} q => by
    rw [e, List.getElem?_append_left (List.getElem?_eq_some_iff.mp q).1]; exact q
  refine ⟨W1, rfl, ⟨fun b o z => ?_, fun n o q h => ?_, fun n m o o' q h q' h' z => ok.inj n m o o' (get q) h (get q') h' z, fun n h => ok.there n (by
    have h3 : n < L1.length := h
    rw [e, List.length_append]; omega)⟩, ?_, rfl, hsub, fun W0 g hb0 hl0 => ?_⟩
  · by_cases hb : b = W.ρ L1.length
    · subst hb
      rw [show W1.B (W.ρ L1.length) = some (.lst vs) from upd_same] at z
      rw [← z]; exact e1
    · rw [show W1.B b = W.B b from upd_ne hb] at z
      exact ok.base b o z
  · obtain ⟨u, e4, e5, e6⟩ := ok.own n o (get q) h
    refine ⟨u, e4, belO_at (W := W) (W' := W1) hsub (Nat.le_refl _) (fun _ _ => rfl) (belLo_get h2 q) e5, ?_⟩
    show upd W.B (W.ρ L1.length) (.lst vs) (W.ρ n) = none
    rw [upd_ne fun z => ?_]
    · exact e6
    · have h4 := ok.inj n _ _ _ (get q) h hg (by intro z; cases z) z
      have h5 : n < L1.length := (List.getElem?_eq_some_iff.mp q).1
      omega
  · refine frzS_at (W := W) (W' := W1) (fun a v h => frz_at (W := W) (W' := W1) hsub (by rw [e]; simp) (Nat.le_refl L1.length) (fun _ _ => rfl) ⟨vs, upd_same, ?_⟩ a v h) a
    exact DXL.mono hsub _ _ q.ds
  · have hl : W0.L.length ≤ L1.length := Nat.le_trans hb0 hl0
    refine ⟨fun b o z => hsub b o (g.base b o z), hl, g.rho, g.keep, g.there, fun b z z' => ?_, fun n h1 h2 => g.newL n h1 (by
      have h3 : n < L1.length := h2
      rw [e, List.length_append]; omega)⟩
    by_cases hb : b = W.ρ L1.length
    · subst hb
      by_cases hz : W.B (W.ρ L1.length) = none
      · left
        exact g.newL _ hl (by rw [e]; simp)
      · exact g.newB _ hz z'
    · exact g.newB b (by rw [show W1.B b = W.B b from upd_ne hb] at z; exact z) z'
/-- some of the cells (frozen contents) are kept, under new numbers; the first b stay as they are -/
def selA (m : List Nat) : A → A
  | .own j => .own (m.getD j 0)
  | a => a
structure SelOk (b : Nat) (m : List Nat) (L L1 : Lo) : Prop where
  nd : m.Nodup
  len : m.length = L1.length
  fst : ∀ j, j < b → m[j]? = some j
  at_ : ∀ (j n : Nat), m[j]? = some n → ∃ o : AO, L[n]? = some o ∧ L1[j]? = some o ∧ belO 0 o = true
theorem Wk.sel {b : Nat} {s s1 : Sl} {L L1 : Lo} (m : List Nat) (h : SelOk b m L L1) (hs : s.length = s1.length) (h1 : ∀ (i : Nat) (a : A), s1[i]? = some (some a) → s[i]? = some (some (selA m a)) ∧ match a with
    | .own j => j < L1.length
    | .tup as => belL 0 as = true
    | _ => True) : Wk b s L s1 L1 := fun K W σ ok e a => by
  let W1 : Wd := ⟨fun j => W.ρ (m.getD j 0), W.B, L1, W.H⟩
  have old : ∀ {j o}, L1[j]? = some o → ∃ n, m[j]? = some n ∧ L[n]? = some o ∧ belO 0 o = true := fun {j o} q => by
    have hj : j < m.length := by rw [h.len]; exact (List.getElem?_eq_some_iff.mp q).1
    obtain ⟨o', e1, e2, e3⟩ := h.at_ j m[j] (List.getElem?_eq_getElem hj)
    rw [q] at e2; cases e2
    exact ⟨m[j], List.getElem?_eq_getElem hj, e1, e3⟩
  have rho : ∀ {j n}, m[j]? = some n → W1.ρ j = W.ρ n := fun {j n} q => by
    show W.ρ (m.getD j 0) = _
    rw [List.getD_eq_getElem?_getD, q]; rfl
  refine ⟨W1, rfl, ⟨ok.base, fun j o q hd => ?_, fun i j o o' q hd q' hd' z => ?_, fun j hj => ?_⟩, ⟨hs.symm.trans a.len, fun i c ec => ?_⟩, rfl, fun _ _ h => h, fun W0 g hb hl => ?_⟩
  · obtain ⟨n, e1, e2, e3⟩ := old q
    obtain ⟨u, e4, e5, e6⟩ := ok.own n o (by rw [e]; exact e2) hd
    rw [rho e1]
    exact ⟨u, e4, belO_at (W := W) (W' := W1) (k := 0) (fun _ _ h => h) (Nat.zero_le _) (fun n hn => absurd hn (Nat.not_lt_zero n)) e3 e5, e6⟩
  · obtain ⟨n, e1, e2, _⟩ := old q
    obtain ⟨n', e1', e2', _⟩ := old q'
    rw [rho e1, rho e1'] at z
    have := ok.inj n n' o o' (by rw [e]; exact e2) hd (by rw [e]; exact e2') hd' z
    subst this
    exact nd_ix h.nd e1 e1'
  · have hj' : j < m.length := by rw [h.len]; exact hj
    obtain ⟨o, e1, _⟩ := h.at_ j m[j] (List.getElem?_eq_getElem hj')
    rw [rho (List.getElem?_eq_getElem hj')]
    exact ok.there _ (by rw [e]; exact (List.getElem?_eq_some_iff.mp e1).1)
  · obtain ⟨e1, e2⟩ := h1 i c ec
    obtain ⟨v, e3, e4⟩ := a.at_ i _ e1
    refine ⟨v, e3, ?_⟩
    cases c with
    | d x => exact .d e4.d_iff
    | own j =>
      have hj' : j < m.length := by rw [h.len]; exact e2
      obtain ⟨ev, _⟩ := e4.own_iff
      have q := List.getElem?_eq_getElem hj'
      have er : W1.ρ j = W.ρ (m.getD j 0) := rfl
      rw [ev, ← er]
      exact At.own (W := W1) (show j < W1.L.length from e2)
    | tup as => exact bel_at (W := W) (W' := W1) (k := 0) (fun _ _ h => h) (Nat.zero_le _) (fun n hn => absurd hn (Nat.not_lt_zero n)) _ _ e2 e4
    | scr ns => cases e4 with | scr q => exact .scr q
    | raw v => cases e4 with | raw q => exact .raw q
  · refine ⟨g.base, Nat.le_trans hb hl, fun n hn => ?_, g.keep, g.there, g.newB, fun j h2 h3 => ?_⟩
    · rw [rho (h.fst n (by omega))]
      exact g.rho n hn
    · have hj' : j < m.length := by rw [h.len]; exact h3
      obtain ⟨o, e1, _⟩ := h.at_ j m[j] (List.getElem?_eq_getElem hj')
      rw [rho (List.getElem?_eq_getElem hj')]
      refine g.newL _ ?_ (by rw [e]; exact (List.getElem?_eq_some_iff.mp e1).1)
      -- one of the first W0 is at its own place alone
      refine Nat.le_of_not_lt fun z => ?_
      have e2 := h.fst m[j] (by omega)
      have := nd_ix h.nd e2 (List.getElem?_eq_getElem hj')
      omega
/-- an own list that an expression gives is frozen -/
def gFrz (g : GTE) : GTE := fun s L R => g s L fun a L' => ∃ L1 ds, a = .own L1.length ∧ L' = L1 ++ [.lst (ds.map .d)] ∧ L.length ≤ L1.length ∧ belLo L1.length L1 = true ∧ R (.d (.list ds)) L1
theorem g_frz {X : Cx} {e : Expr} {g : GTE} (h : GE X e g) : GE X e (gFrz g) :=
  ⟨pe_imp h.pe fun σ H Q h => by
    obtain ⟨W, s, R, e, ok, ats, h, fin⟩ := h
    refine ⟨W, s, _, e, ok, ats, h, fun a W1 v q g1 ok1 at1 => ?_⟩
    obtain ⟨L1, ds, ea, eL, hl, hb, q⟩ := q
    have at2 : AtS X.K W1 [some a] [some v] := ⟨rfl, fun i b e => by
      cases i with
      | zero => simp at e; subst e; exact ⟨v, rfl, at1⟩
      | succ i => simp at e⟩
    obtain ⟨W2, e2, ok2, at3, eH, _, gr⟩ := Wk.frz (b := W.L.length) (s := [some a]) (ds := ds) hb X.K W1 _ ok1 eL at2
    obtain ⟨v', ev, at4⟩ := at3.at_ 0 (.d (.list ds)) (by
      subst ea
      show some (some (A.frz L1.length ds (.own L1.length))) = _
      unfold A.frz
      rw [if_pos rfl])
    simp at ev
    subst ev
    rw [← eH]
    exact fin _ W2 _ (by rw [e2]; exact q) (gr W g1 (Nat.le_refl _) (by exact hl)) ok2 at4⟩
end GL

namespace GL
open PySem PySem.Spec L2

/-! ### statements -/
/-- an exception: its class, its own fields, the slots, the store -/
abbrev AX := Value → Option (List (Str × D)) → Sl → Lo → Prop
structure GEnds where
  nx : Sl → Lo → Prop
  rt : KA
  bk : Sl → Lo → Prop
  ct : Sl → Lo → Prop
  ex : AX
  b : Nat
abbrev GTS := GEnds → Sl → Lo → Prop
/-- an exception's own dict -/
abbrev XAt (_ : PySem.W.Frag) (W : Wd) (fs : Option (List (Str × D))) (d : Option Addr) : Prop := XD W.B fs d
structure Fin (K : PySem.W.Frag) (Wx : WX) (W0 : Wd) (D : Ends) (E : GEnds) : Prop where
  nx : ∀ s W σ, E.nx s W.L → Grow W0 W → W.Ok K → AtS K W s σ → D.nx σ W.H
  rt : ∀ a W v, E.rt a W.L → Grow W0 W → W.Ok K → At K W a v → D.rt v W.H
  bk : ∀ s W σ, E.bk s W.L → Grow W0 W → W.Ok K → AtS K W s σ → D.bk σ W.H
  ct : ∀ s W σ, E.ct s W.L → Grow W0 W → W.Ok K → AtS K W s σ → D.ct σ W.H
  ex : ∀ c fs s W d σ, E.ex c fs s W.L → Grow W0 W → W.Ok K → AtS K W s σ → XAt K W fs d → Wx c d σ W.H
  b : E.b = W0.L.length
def liftS (K : PySem.W.Frag) (Wx : WX) (W0 : Wd) (g : GTS) : TS := fun D σ H => ∃ (W : Wd) (s : Sl) (E : GEnds), W.H = H ∧ W.Ok K ∧ AtS K W s σ ∧ Grow W0 W ∧ g E s W.L ∧ Fin K Wx W0 D E
structure GS (X : Cx) (Wx : WX) (st : Stmt) (g : GTS) : Prop where
  ps : ∀ W0, PS X st (liftS X.K Wx W0 g)
structure GSs (X : Cx) (Wx : WX) (st : List Stmt) (g : GTS) : Prop where
  pss : ∀ W0, PSs X st (liftS X.K Wx W0 g)
theorem ps_imp {X : Cx} {st : Stmt} {t t' : TS} (h : PS X st t) (q : ∀ D σ H, t' D σ H → t D σ H) : PS X st t' := ⟨fun pins s σ H D I x => h.run pins s σ H D I (q _ _ _ x)⟩
theorem pss_imp {X : Cx} {st : List Stmt} {t t' : TS} (h : PSs X st t) (q : ∀ D σ H, t' D σ H → t D σ H) : PSs X st t' := ⟨fun pins s σ H D I x => h.run pins s σ H D I (q _ _ _ x)⟩
section
variable {X : Cx} {Wx : WX} {a b c e : Expr} {es : List Expr} {pos : Pos} {ga gb gc : GTE} {gt gu : GTT} {gs : GTA} {st : Stmt} {rest body orelse : List Stmt} {g k : GTS}
/-- the end of a block, before a ghost step: nothing -/
def gNext : GTS := fun D s L => D.nx s L
theorem ss_nil : GSs X Wx [] gNext := ⟨fun W0 => pss_imp pss_nil fun D σ H h => by
  obtain ⟨W, s, E, e, ok, ats, gr, h, fin⟩ := h
  exact e ▸ fin.nx s W σ h gr ok ats⟩
def gSeq (g k : GTS) : GTS := fun D s L => g { D with nx := k D } s L
theorem ss_cons (h1 : GS X Wx st g) (h2 : GSs X Wx rest k) : GSs X Wx (st :: rest) (gSeq g k) := ⟨fun W0 => pss_imp (pss_cons (h1.ps W0) (h2.pss W0)) fun D σ H h => by
  obtain ⟨W, s, E, e, ok, ats, gr, h, fin⟩ := h
  refine ⟨W, s, _, e, ok, ats, gr, h, ⟨fun s' W' σ' q gr' ok' at' => ?_, fin.rt, fin.bk, fin.ct, fin.ex, fin.b⟩⟩
  exact ⟨W', s', E, rfl, ok', at', gr', q, fin⟩⟩
theorem ss_one (h1 : GS X Wx st g) : GSs X Wx [st] g := ⟨fun W0 => pss_one (h1.ps W0)⟩
theorem s_pass : GS X Wx (.Pass pos) gNext := ⟨fun W0 => ps_imp ps_pass fun D σ H h => by
  obtain ⟨W, s, E, e, ok, ats, gr, h, fin⟩ := h
  exact e ▸ fin.nx s W σ h gr ok ats⟩
def gBrk : GTS := fun D s L => D.bk s L
def gCnt : GTS := fun D s L => D.ct s L
theorem s_break : GS X Wx (.Break pos) gBrk := ⟨fun W0 => ps_imp ps_break fun D σ H h => by
  obtain ⟨W, s, E, e, ok, ats, gr, h, fin⟩ := h
  exact e ▸ fin.bk s W σ h gr ok ats⟩
theorem s_continue : GS X Wx (.Continue pos) gCnt := ⟨fun W0 => ps_imp ps_continue fun D σ H h => by
  obtain ⟨W, s, E, e, ok, ats, gr, h, fin⟩ := h
  exact e ▸ fin.ct s W σ h gr ok ats⟩
theorem s_doc {x j pos pos'} : GS X Wx (.Expr (.Constant (.str x) j pos) pos') gNext := ⟨fun W0 => ps_imp ps_doc fun D σ H h => by
  obtain ⟨W, s, E, e, ok, ats, gr, h, fin⟩ := h
  exact e ▸ fin.nx s W σ h gr ok ats⟩
/-- a ghost step ahead of a statement -/
def gGho (g : GTS) : GTS := fun D s L => ∃ s1 L1, Wk D.b s L s1 L1 ∧ D.b ≤ L1.length ∧ g D s1 L1
theorem gho {K : PySem.W.Frag} {W0 : Wd} {g : GTS} {D : Ends} {σ : L2.St} {H : Hp} (h : liftS K Wx W0 (gGho g) D σ H) : liftS K Wx W0 g D σ H := by
  obtain ⟨W, s, E, e, ok, ats, gr, ⟨s1, L1, wk, hl, h⟩, fin⟩ := h
  obtain ⟨W1, e1, ok1, at1, eH, _, g1⟩ := wk K W σ ok rfl ats
  subst e1
  exact ⟨W1, s1, E, eH.trans e, ok1, at1, g1 W0 gr (by rw [fin.b]; exact Nat.le_refl _) hl, h, fin⟩
theorem s_gho (h : GS X Wx st g) : GS X Wx st (gGho g) := ⟨fun W0 => ps_imp (h.ps W0) fun D σ H h => gho h⟩
theorem ss_gho (h : GSs X Wx rest g) : GSs X Wx rest (gGho g) := ⟨fun W0 => pss_imp (h.pss W0) fun D σ H h => gho h⟩
/-- ways are joined: what stands between -/
def gCut (g : GTS) : GTS := fun D s L => ∃ P : Sl → Lo → Prop, g { D with nx := P } s L ∧ ∀ s' L', P s' L' → D.nx s' L'
theorem s_cut (h : GS X Wx st g) : GS X Wx st (gCut g) := ⟨fun W0 => ps_imp (h.ps W0) fun D σ H h => by
  obtain ⟨W, s, E, e, ok, ats, gr, ⟨P, h, hn⟩, fin⟩ := h
  exact ⟨W, s, _, e, ok, ats, gr, h, ⟨fun s' W' σ' q gr' ok' at' => fin.nx s' W' σ' (hn _ _ q) gr' ok' at', fin.rt, fin.bk, fin.ct, fin.ex, fin.b⟩⟩⟩
def gDrop (ga : GTE) : GTS := fun D s L => ga s L fun _ L1 => D.nx s L1
theorem s_expr (he : GE X e ga) (hs : swapsWith e none pos.line X.env = pure false := by rfl) : GS X Wx (.Expr e pos) (gDrop ga) := ⟨fun W0 => ps_imp (ps_expr he.pe hs) fun D σ H h => by
  obtain ⟨W, s, E, e, ok, ats, gr, h, fin⟩ := h
  exact ⟨W, s, _, e, ok, ats, h, fun a W' v q g1 ok1 at1 => fin.nx s W' σ q (gr.trans g1) ok1 (ats.mono g1)⟩⟩
def gRet (ga : GTE) : GTS := fun D s L => ga s L D.rt
theorem s_ret (he : GE X e ga) : GS X Wx (.Return (some e) pos) (gRet ga) := ⟨fun W0 => ps_imp (ps_ret he.pe) fun D σ H h => by
  obtain ⟨W, s, E, e, ok, ats, gr, h, fin⟩ := h
  exact ⟨W, s, _, e, ok, ats, h, fun a W' v q g1 ok1 at1 => fin.rt a W' v q (gr.trans g1) ok1 at1⟩⟩
def gRetN : GTS := fun D s L => D.rt (.d .none) L
theorem s_retN : GS X Wx (.Return none pos) gRetN := ⟨fun W0 => ps_imp ps_retN fun D σ H h => by
  obtain ⟨W, s, E, e, ok, ats, gr, h, fin⟩ := h
  exact e ▸ fin.rt _ W _ h gr ok (.d .non)⟩
def gIf (t : GTT) (g k : GTS) : GTS := fun D s L => t s L fun b L1 => br b (g D s L1) (k D s L1)
theorem s_if (hc : GT X c gt) (ha : GSs X Wx body g) (hb : GSs X Wx orelse k) : GS X Wx (.If c body orelse pos) (gIf gt g k) := ⟨fun W0 => ps_imp (ps_if hc.pt (ha.pss W0) (hb.pss W0)) fun D σ H h => by
  obtain ⟨W, s, E, e, ok, ats, gr, h, fin⟩ := h
  refine ⟨W, s, _, e, ok, ats, h, fun b W' q g1 ok1 => ?_⟩
  cases b with
  | true => exact ⟨W', s, E, rfl, ok1, ats.mono g1, gr.trans g1, q.1 rfl, fin⟩
  | false => exact ⟨W', s, E, rfl, ok1, ats.mono g1, gr.trans g1, q.2 rfl, fin⟩⟩
def gNever : GTS := fun _ _ _ => False
theorem s_never : GS X Wx st gNever := ⟨fun W0 => ps_imp ps_never fun D σ H h => by
  obtain ⟨W, s, E, e, ok, ats, gr, h, fin⟩ := h
  exact h⟩
theorem ss_never : GSs X Wx rest gNever := ⟨fun W0 => pss_imp pss_never fun D σ H h => by
  obtain ⟨W, s, E, e, ok, ats, gr, h, fin⟩ := h
  exact h⟩

/-! ### targets -/
abbrev GTG := A → Sl → Lo → (Sl → Lo → Prop) → Prop
abbrev GTGs := List A → Sl → Lo → (Sl → Lo → Prop) → Prop
/-- the slots but those at vs are as they were -/
def Off (vs : List Nat) (σ σ' : L2.St) : Prop := σ'.length = σ.length ∧ ∀ j, j ∉ vs → σ'[j]? = σ[j]?
def liftG (K : PySem.W.Frag) (vs : List Nat) (g : GTG) : TG := fun v σ H Q => ∃ (W : Wd) (s : Sl) (a : A) (R : Sl → Lo → Prop), W.H = H ∧ W.Ok K ∧ AtS K W s σ ∧ At K W a v ∧ g a s W.L R ∧
  ∀ s' W' σ', R s' W'.L → Grow W W' → W'.Ok K → AtS K W' s' σ' → Off vs σ σ' → Q σ' W'.H
def liftGs (K : PySem.W.Frag) (vs : List Nat) (g : GTGs) : TGs := fun us σ H Q => ∃ (W : Wd) (s : Sl) (as : List A) (R : Sl → Lo → Prop), W.H = H ∧ W.Ok K ∧ AtS K W s σ ∧ AtL K W as us ∧ g as s W.L R ∧
  ∀ s' W' σ', R s' W'.L → Grow W W' → W'.Ok K → AtS K W' s' σ' → Off vs σ σ' → Q σ' W'.H
structure GP (X : Cx) (target : Expr) (vs : List Nat) (g : GTG) : Prop where
  pg : PG X target (liftG X.K vs g)
structure GPs (X : Cx) (ts : List Expr) (vs : List Nat) (g : GTGs) : Prop where
  pgs : PGs X ts (liftGs X.K vs g)
theorem pg_imp {X : Cx} {e : Expr} {t t' : TG} (h : PG X e t) (q : ∀ v σ H Q, t' v σ H Q → t v σ H Q) : PG X e t' := ⟨fun pins s σ H v u Q I r x => h.run pins s σ H v u Q I r (q _ _ _ _ x)⟩
theorem pgs_imp {X : Cx} {e : List Expr} {t t' : TGs} (h : PGs X e t) (q : ∀ v σ H Q, t' v σ H Q → t v σ H Q) : PGs X e t' := ⟨fun pins s σ H v u Q I r x => h.run pins s σ H v u Q I r (q _ _ _ _ x)⟩
def gNm (i : Nat) : GTG := fun a s L R => R (s.set i (some a)) L
theorem p_name {i : Nat} {x : Str} {vs : List Nat} (hN : X.N.Nodup) (hi : X.N[i]? = some x) (hx : Loc X.env.scope x) (hv : i ∈ vs := by decide) (hf : X.fn x = true ∨ X.env.scope.names.lookup x = some .local := by first | exact .inl rfl | exact .inr rfl | assumption) : GP X (.Name x pos) vs (gNm i) :=
  ⟨pg_imp (pg_name hN hi hx hf) fun v σ H Q h => by
    obtain ⟨W, s, a, R, e, ok, ats, at1, h, fin⟩ := h
    exact e ▸ fin _ W _ h Grow.refl ok (ats.set i at1) ⟨by simp, fun j hj => List.getElem?_set_ne (fun z => hj (by rw [← z]; exact hv))⟩⟩
def gpNil : GTGs := fun as s L R => as = [] ∧ R s L
def gpCons (t : GTG) (u : GTGs) : GTGs := fun as s L R => match as with
  | a :: r => t a s L fun s1 L1 => u r s1 L1 R
  | [] => False
theorem ps_nil {vs : List Nat} : GPs X [] vs gpNil := ⟨pgs_imp pgs_nil fun v σ H Q h => by
    obtain ⟨W, s, a, R, e, ok, ats, at1, ⟨ea, h⟩, fin⟩ := h
    subst ea
    cases at1
    exact ⟨rfl, e ▸ fin _ W _ h Grow.refl ok ats ⟨rfl, fun _ _ => rfl⟩⟩⟩
theorem ps_cons {e : Expr} {es : List Expr} {vs : List Nat} {t : GTG} {u : GTGs} (h1 : GP X e vs t) (h2 : GPs X es vs u)
    (hs : (assignEach (e :: es) X.env).map (·.2) = assign e X.env :: (assignEach es X.env).map (·.2) := by rfl) : GPs X (e :: es) vs (gpCons t u) := ⟨pgs_imp (pgs_cons h1.pg h2.pgs hs) fun v σ H Q h => by
    obtain ⟨W, s, as, R, e, ok, ats, at1, h, fin⟩ := h
    cases at1 with
    | nil => exact h.elim
    | cons q1 q2 =>
      exact ⟨_, _, rfl, W, s, _, _, e, ok, ats, q1, h, fun s' W1 σ1 q g1 ok1 at1 o1 => ⟨W1, s', _, R, rfl, ok1, at1, q2.mono g1, q, fun s2 W2 σ2 q' g2 ok2 at2 o2 => fin s2 W2 σ2 q' (g1.trans g2) ok2 at2 ⟨o2.1.trans o1.1, fun j hj => (o2.2 j hj).trans (o1.2 j hj)⟩⟩⟩⟩
theorem sqT_mono {K : PySem.W.Frag} {B B' : Hp} {p : Addr} {vs : List V} (h : Sub B B') (q : SqT K B p vs) : SqT K B' p vs := by
  rcases q with (q | ⟨o, q⟩) | q
  · exact .inl (.inl (h _ _ q))
  · exact .inl (.inr ⟨o, h _ _ q⟩)
  · exact .inr q
def tpOf : A → Option (List A)
  | .d (.tuple ds) => some (ds.map .d)
  | .d (.grp ds) => some (ds.map .d)
  | .tup as => some as
  | _ => none
theorem tp_at {K : PySem.W.Frag} {W : Wd} {a : A} {as : List A} {v : V} (h : At K W a v) (e : tpOf a = some as) : ∃ p vs, v = .ref p ∧ SqT K W.B p vs ∧ AtL K W as vs := by
  cases h with
  | d q =>
    cases q with
    | tup e1 l => cases e; exact ⟨_, _, rfl, SqT.of e1, .of_ds l⟩
    | grp e1 z l => cases e; exact ⟨_, _, rfl, .inl (.inr ⟨_, e1⟩), .of_ds l⟩
    | lst e1 l => cases e
    | non => cases e
    | bl _ => cases e
    | int _ => cases e
    | str _ => cases e
  | tup e1 q => cases e; exact ⟨_, _, rfl, SqT.of e1, q⟩
  | own _ => cases e
  | scr _ => cases e
  | raw _ => cases e
def gTp (n : Nat) (t : GTGs) : GTG := fun a s L R => onO (tpOf a) fun as => as.length = n ∧ t as s L R
theorem p_tup {es : List Expr} {k : Nat} {vs : List Nat} {t : GTGs} {n : Nat} (hc : X.calm = true) (h : GPs X es vs t)
    (hn : (assignEach es X.env).length = n := by rfl) (hst : (assignEach es X.env).findIdx? (·.1) = none := by rfl) : GP X (.Tuple es k pos) vs (gTp n t) :=
  ⟨pg_imp (pg_tup hc h.pgs hn hst) fun v σ H Q h => by
    obtain ⟨W, s, a, R, e, ok, ats, at1, h, fin⟩ := h
    obtain ⟨as, ea, hl, h⟩ := onO_el h
    obtain ⟨p, us, rfl, hB, q⟩ := tp_at at1 ea
    exact ⟨p, us, rfl, e ▸ sqT_mono ok.base hB, by rw [← q.length]; exact hl, W, s, as, R, e, ok, ats, q, h, fin⟩⟩
def gSet (ga : GTE) (t : GTG) : GTS := fun D s L => ga s L fun a L1 => t a s L1 D.nx
theorem tas {K : PySem.W.Frag} {W0 : Wd} {vs : List Nat} {D : Ends} {σ : L2.St} {H : Hp} {t : GTG} (h : liftS K Wx W0 (gSet ga t) D σ H) : tAsg (liftE K ga) (liftG K vs t) D σ H := by
  obtain ⟨W, s, E, e, ok, ats, gr, h, fin⟩ := h
  exact ⟨W, s, _, e, ok, ats, h, fun a W1 v q g1 ok1 at1 => ⟨W1, s, a, E.nx, rfl, ok1, ats.mono g1, at1, q, fun s' W2 σ2 q2 g2 ok2 at2 o2 => fin.nx s' W2 σ2 q2 (gr.trans (g1.trans g2)) ok2 at2⟩⟩
theorem s_set {i : Nat} {x : Str} {pos' : Pos} (hN : X.N.Nodup) (hi : X.N[i]? = some x) (hx : Loc X.env.scope x) (he : GE X e ga) (hs : swapsWith e (some (.Name x pos')) pos.line X.env = pure false := by rfl) (hf : X.fn x = true ∨ X.env.scope.names.lookup x = some .local := by first | exact .inl rfl | exact .inr rfl | assumption) :
    GS X Wx (.Assign [.Name x pos'] e pos) (gSet ga (gNm i)) := ⟨fun W0 => ps_imp (ps_set hN hi hx he.pe hs hf) fun D σ H h => by
  obtain ⟨W, s, E, e, ok, ats, gr, h, fin⟩ := h
  exact ⟨W, s, _, e, ok, ats, h, fun a W1 v q g1 ok1 at1 => fin.nx _ W1 _ q (gr.trans g1) ok1 ((ats.mono g1).set i at1)⟩⟩
/-- targets of any form -/
theorem s_asg {tg : Expr} {vs : List Nat} {t : GTG} (he : GE X e ga) (hg : GP X tg vs t) (hs : swapsWithSole [tg] e pos.line X.env = pure false := by rfl) (hw : swappedStores [tg] e X.env = pure none := by rfl)
    (h1 : (assignEach [tg] X.env).map (·.2) = [assign tg X.env] := by rfl) : GS X Wx (.Assign [tg] e pos) (gSet ga t) := ⟨fun W0 => ps_imp (ps_asg he.pe hg.pg hs hw h1) fun D σ H h => tas h⟩
def onOwn (a : A) (k : Nat → Prop) : Prop := match a with
  | .own n => k n
  | _ => False
theorem onOwn_el {a : A} {k : Nat → Prop} (h : onOwn a k) : ∃ n, a = .own n ∧ k n := by
  unfold onOwn at h
  split at h
  · exact ⟨_, rfl, h⟩
  · exact h.elim
/-- xs[i] = e, an own list -/
def gSetIx (ga go gi : GTE) : GTS := fun D s L => ga s L fun v L1 => go s L1 fun o L2 => gi s L2 fun i L3 => onI i fun k => onOwn o fun n => ∃ as j, L3[n]? = some (.lst as) ∧ ixN as.length k = some j ∧ D.nx s (L3.set n (.lst (as.set j v)))
theorem s_setIx {o i : Expr} {go gi : GTE} {p' : Pos} (he : GE X e ga) (ho : GE X o go) (hi : GE X i gi)
    (ha : ∀ v, assign (.Subscript o i p') X.env v = (do
      let ov ← holding [v] (eval o X.env)
      let iv ← holding [v, ov] (eval i X.env)
      standAt p'
      holding [v, ov, iv] (setItem ov iv v)
      release [v, ov, iv] []) := by intro _; rfl) (hs : swapsWithSole [.Subscript o i p'] e pos.line X.env = pure false := by rfl) (hw : swappedStores [.Subscript o i p'] e X.env = pure none := by rfl)
    (h1 : (assignEach [.Subscript o i p'] X.env).map (·.2) = [assign (.Subscript o i p') X.env] := by rfl) : GS X Wx (.Assign [.Subscript o i p'] e pos) (gSetIx ga go gi) := ⟨fun W0 => ps_imp (ps_asg he.pe (pg_sub ho.pe hi.pe set_list ha) hs hw h1) fun D σ H h => by
  obtain ⟨W, s, E, e, ok, ats, gr, h, fin⟩ := h
  refine ⟨W, s, _, e, ok, ats, h, fun a W1 v q g1 ok1 at1 => ⟨W1, s, _, rfl, ok1, ats.mono g1, q, fun o W2 u q2 g2 ok2 at2 => ⟨W2, s, _, rfl, ok2, ats.mono (g1.trans g2), q2, fun i W3 w q3 g3 ok3 at3 => ?_⟩⟩⟩
  obtain ⟨k, rfl, q3⟩ := onI_el q3
  obtain ⟨n, rfl, as, j, e1, e2, q4⟩ := onOwn_el q3
  · obtain ⟨eu, hn⟩ := (at2.mono g3).own_iff
    obtain ⟨h', e3, ⟨us, rfl, q⟩, e4⟩ := ok3.own _ _ e1 (by intro z; cases z)
    refine ⟨W3.ρ n, us, k, j, eu, at3.int, e3, by rw [← q.length]; exact e2, ?_⟩
    exact fin.nx s (W3.put n (.lst (as.set j a)) (.lst (us.set j v))) σ q4 (gr.trans (g1.trans (g2.trans (g3.trans (Wd.put_grow ok3 e1 (by intro z; cases z) _ _)))))
      (Wd.put_ok ok3 e1 (by intro z; cases z) ⟨_, rfl, AtL.set (at1.mono (g2.trans g3)) j q⟩) (ats.mono (g1.trans (g2.trans (g3.trans (Wd.put_grow ok3 e1 (by intro z; cases z) _ _)))))⟩
/-- x op= e on whole numbers -/
def gAugI (f : Int → Int → Int) (i : Nat) (ga : GTE) : GTS := fun D s L => onS (slot s i) fun x => ga s L fun y L1 => onI x fun p => onI y fun q => D.nx (s.set i (some (.d (.int (f p q))))) L1
end
end GL

namespace GL
open PySem PySem.Spec L2

/-! ### what is walked -/
/-- an iterator that gives these items from the world W on, while the condition holds of the store -/
structure ItOk (K : PySem.W.Frag) (W : Wd) (items : List A) (cond : Lo → Prop) (J : It) : Prop where
  go : ∀ i W1, Grow W W1 → W1.Ok K → cond W1.L → i < items.length → J.go i W1.H
  stop : ∀ W1, Grow W W1 → W1.Ok K → cond W1.L → J.stop items.length W1.H
  yld : ∀ i W1 x H', Grow W W1 → W1.Ok K → cond W1.L → i < items.length → J.yld i W1.H x H' → ∃ W2 a, items[i]? = some a ∧ W2.H = H' ∧ W2.L = W1.L ∧ Grow W1 W2 ∧ W2.Ok K ∧ At K W2 a x
abbrev GTI := Sl → Lo → (List A → (Lo → Prop) → Lo → Prop) → Prop
def liftI (K : PySem.W.Frag) (g : GTI) : TI := fun σ H R => ∃ (W : Wd) (s : Sl) (Rg : List A → (Lo → Prop) → Lo → Prop), W.H = H ∧ W.Ok K ∧ AtS K W s σ ∧ g s W.L Rg ∧
  ∀ items cond W' J, Rg items cond W'.L → Grow W W' → W'.Ok K → ItOk K W' items cond J → R J W'.H
structure GI (X : Cx) (tg iter : Expr) (g : GTI) : Prop where
  pi : PI X tg iter (liftI X.K g)
theorem pi_imp {X : Cx} {tg e : Expr} {t t' : TI} (h : PI X tg e t) (q : ∀ σ H Q, t' σ H Q → t σ H Q) : PI X tg e t' := ⟨fun pins s σ H Q I x => h.run pins s σ H Q I (q _ _ _ x)⟩
section
variable {X : Cx} {Wx : WX} {a b c e tg : Expr} {es : List Expr} {pos : Pos} {ga gb gc : GTE} {gt gu : GTT} {gs : GTA} {st : Stmt} {rest body orelse : List Stmt} {g k : GTS}
/-- a list: frozen, own (it stays as it is), the script -/
def gIL (ga : GTE) : GTI := fun s L R => ga s L fun x L1 => onO (lsOf L1 x) fun as => R as (fun L2 => lsOf L2 x = some as) L1
theorem i_list (h : GE X e ga) : GI X tg e (gIL ga) := ⟨pi_imp (pi_list h.pe) fun σ H Q h => by
  obtain ⟨W, s, R, e, ok, ats, h, fin⟩ := h
  refine ⟨W, s, _, e, ok, ats, h, fun x W1 v q g1 ok1 at1 => ?_⟩
  obtain ⟨as, ea, q⟩ := onO_el q
  obtain ⟨p, vs, rfl, hq, hl⟩ := ls_at at1 ok1 ea
  refine ⟨p, rfl, ⟨vs, hq⟩, fin as _ W1 _ q g1 ok1 ⟨fun i W2 g2 ok2 hc hi => ?_, fun W2 g2 ok2 hc => ?_, fun i W2 y H' g2 ok2 hc hi hy => ?_⟩⟩
  · obtain ⟨p2, us, ep, hq2, hl2⟩ := ls_at (at1.mono g2) ok2 hc
    cases ep
    obtain ⟨u, eu, _⟩ := hl2.get (List.getElem?_eq_getElem hi)
    exact ⟨us, u, hq2, eu⟩
  · obtain ⟨p2, us, ep, hq2, hl2⟩ := ls_at (at1.mono g2) ok2 hc
    cases ep
    exact ⟨us, hq2, by rw [hl2.length]; exact Nat.le_refl _⟩
  · obtain ⟨p2, us, ep, hq2, hl2⟩ := ls_at (at1.mono g2) ok2 hc
    cases ep
    obtain ⟨u, eu, au⟩ := hl2.get (List.getElem?_eq_getElem hi)
    obtain ⟨rfl, hy⟩ := hy
    have := hy us hq2
    rw [eu] at this; cases this
    exact ⟨W2, _, List.getElem?_eq_getElem hi, rfl, rfl, Grow.refl, ok2, au⟩⟩
/-- a tuple -/
def gIT (ga : GTE) : GTI := fun s L R => ga s L fun x L1 => onO (tpOf x) fun as => R as (fun _ => True) L1
theorem i_tup (h : GE X e ga) : GI X tg e (gIT ga) := ⟨pi_imp (pi_tup h.pe) fun σ H Q h => by
  obtain ⟨W, s, R, e, ok, ats, h, fin⟩ := h
  refine ⟨W, s, _, e, ok, ats, h, fun x W1 v q g1 ok1 at1 => ?_⟩
  obtain ⟨as, ea, q⟩ := onO_el q
  obtain ⟨p, vs, rfl, hq, hl⟩ := tp_at at1 ea
  refine ⟨p, rfl, ⟨vs, sqT_mono ok1.base hq⟩, fin as _ W1 _ q g1 ok1 ⟨fun i W2 g2 ok2 hc hi => ?_, fun W2 g2 ok2 hc => ?_, fun i W2 y H' g2 ok2 hc hi hy => ?_⟩⟩
  · obtain ⟨u, eu, _⟩ := hl.get (List.getElem?_eq_getElem hi)
    exact ⟨vs, u, sqT_mono ok2.base (sqT_mono g2.base hq), eu⟩
  · exact ⟨vs, sqT_mono ok2.base (sqT_mono g2.base hq), by rw [hl.length]; exact Nat.le_refl _⟩
  · obtain ⟨u, eu, au⟩ := (hl.mono g2).get (List.getElem?_eq_getElem hi)
    obtain ⟨rfl, hy⟩ := hy
    have := hy vs (sqT_mono ok2.base (sqT_mono g2.base hq))
    rw [eu] at this; cases this
    exact ⟨W2, _, List.getElem?_eq_getElem hi, rfl, rfl, Grow.refl, ok2, au⟩⟩
/-- range(n), range(a, b): the items are lo, lo + 1, .. -/
def rngA (lo : Int) (n : Nat) : List A := (List.range n).map fun i => .d (.int (lo + (i : Nat)))
theorem rngA_len (lo : Int) (n : Nat) : (rngA lo n).length = n := by simp [rngA]
theorem rngA_get {lo : Int} {n i : Nat} (h : i < n) : (rngA lo n)[i]? = some (.d (.int (lo + (i : Nat)))) := by simp [rngA, h]
theorem itok_range {K : PySem.W.Frag} {W : Wd} {lo : Int} {n : Nat} : ItOk K W (rngA lo n) (fun _ => True) (Itr lo n) where
  go := fun i W1 _ _ _ h => by rw [rngA_len] at h; exact h
  stop := fun W1 _ _ _ => by rw [rngA_len]; exact Nat.le_refl _
  yld := fun i W1 x H' g1 ok1 _ h hy => by
    rw [rngA_len] at h
    obtain ⟨rfl, rfl⟩ := hy
    exact ⟨W1, _, rngA_get h, rfl, rfl, Grow.refl, ok1, .d (.int _)⟩
def gIR1 (gs : GTA) : GTI := fun s L R => gs s L fun as L1 => on1 as fun a => onI a fun n => (-(2 ^ 62) ≤ n ∧ n < 2 ^ 62) ∧ R (rngA 0 n.toNat) (fun _ => True) L1
def gIR2 (gs : GTA) : GTI := fun s L R => gs s L fun as L1 => on2 as fun a b => onI a fun i => onI b fun j => (-(2 ^ 62) ≤ i ∧ i < 2 ^ 62 ∧ -(2 ^ 62) ≤ j ∧ j < 2 ^ 62) ∧ R (rngA i (j - i).toNat) (fun _ => True) L1
theorem i_range1 {p : Pos} (hg : Gl X "range") (hm : X.mg "range" = none) (ha : GA X [a] gs) (hs : starEach [a] X.env = [(false, eval a X.env)] := by rfl) : GI X tg (.Call (.Name "range" p) [a] [] pos) (gIR1 gs) := ⟨pi_imp (pi_range1 hg hm ha.pa hs) fun σ H Q h => by
  obtain ⟨W, s, R, e, ok, ats, h, fin⟩ := h
  refine ⟨W, s, _, e, ok, ats, h, fun as W1 vs q g1 ok1 at1 => ?_⟩
  obtain ⟨a, ea, q1⟩ := on1_el q
  obtain ⟨n, en, hb, q2⟩ := onI_el q1
  subst ea en
  obtain ⟨v, rfl, at2⟩ := at1.one
  exact ⟨n, by rw [at2.int], hb.1, hb.2, fin _ _ W1 _ q2 g1 ok1 itok_range⟩⟩
theorem i_range2 {p : Pos} (hg : Gl X "range") (hm : X.mg "range" = none) (ha : GA X [a, b] gs) (hs : starEach [a, b] X.env = [(false, eval a X.env), (false, eval b X.env)] := by rfl) (hs2 : starEach [b] X.env = [(false, eval b X.env)] := by rfl) : GI X tg (.Call (.Name "range" p) [a, b] [] pos) (gIR2 gs) := ⟨pi_imp (pi_range2 hg hm ha.pa hs hs2) fun σ H Q h => by
  obtain ⟨W, s, R, e, ok, ats, h, fin⟩ := h
  refine ⟨W, s, _, e, ok, ats, h, fun as W1 vs q g1 ok1 at1 => ?_⟩
  obtain ⟨a, b, ea, q1⟩ := on2_el q
  obtain ⟨n, en, q2⟩ := onI_el q1
  obtain ⟨m, em, hb, q3⟩ := onI_el q2
  subst ea en em
  obtain ⟨v, u, rfl, at2, at3⟩ := at1.two
  exact ⟨n, m, by rw [at2.int, at3.int], hb, fin _ _ W1 _ q3 g1 ok1 itok_range⟩⟩

/-! ### for -/
theorem pss_ex (h : GSs X Wx rest g) : PSs X rest (fun D σ H => ∃ W0, liftS X.K Wx W0 g D σ H) := ⟨fun pins s σ H D I ⟨W0, z⟩ => (h.pss W0).run pins s σ H D I z⟩
/-- the items; I: the invariant by the turn -/
def forG (items : List A) (cond : Lo → Prop) (b0 : Nat) (t : GTG) (g : GTS) (D : GEnds) (s : Sl) (L : Lo) : Prop :=
  ∃ I : Nat → Sl → Lo → Prop, I 0 s L ∧ ∀ i s' L', I i s' L' → i ≤ items.length → cond L' ∧ b0 ≤ L'.length ∧
    (∀ a, items[i]? = some a → t a s' L' fun s2 L2 => g { D with nx := fun s3 L3 => ∃ s4 L4, Wk b0 s3 L3 s4 L4 ∧ b0 ≤ L4.length ∧ I (i + 1) s4 L4, ct := fun s3 L3 => ∃ s4 L4, Wk b0 s3 L3 s4 L4 ∧ b0 ≤ L4.length ∧ I (i + 1) s4 L4, bk := D.nx, b := b0 } s2 L2) ∧
    (i = items.length → D.nx s' L')
def gFor (gi : GTI) (t : GTG) (g : GTS) : GTS := fun D s L => gi s L fun items cond L1 => forG items cond L1.length t g D s L1
theorem s_for {iter : Expr} {vs : List Nat} {gi : GTI} {t : GTG} (hp : PassesOwn (model X.prog X.w) X.A X.env X.xe) (hc : X.calm = true) (hi : GI X tg iter gi) (hg : GP X tg vs t) (hb : GSs X Wx body g)
    (hs : ∀ x, foldedSetIterable iter X.env x = pure x := by intro _; rfl) : GS X Wx (.For tg iter body [] pos) (gFor gi t g) := ⟨fun W0 => ps_imp (ps_for hp hc hi.pi hg.pg (pss_ex hb) hs) fun D σ H h => by
  obtain ⟨W, s, E, e, ok, ats, gr, h, fin⟩ := h
  refine ⟨W, s, _, e, ok, ats, h, fun items cond Wi J q g1 ok1 io => ?_⟩
  obtain ⟨I, h0, step⟩ := q
  refine ⟨fun i m σ' H' => m = items.length - i ∧ i ≤ items.length ∧ ∃ W2 s2, W2.H = H' ∧ Grow Wi W2 ∧ W2.Ok X.K ∧ AtS X.K W2 s2 σ' ∧ I i s2 W2.L, ⟨items.length, by simp, Nat.zero_le _, Wi, s, rfl, Grow.refl, ok1, ats.mono g1, h0⟩, ?_⟩
  rintro i m σ' H' ⟨rfl, hi, W2, s2, rfl, g2, ok2, at2, hI⟩
  obtain ⟨hc, hl, body, done⟩ := step i s2 W2.L hI hi
  by_cases hlt : i < items.length
  · refine .inr ⟨io.go i W2 g2 ok2 hc hlt, fun σ3 H3 => ∃ W3 s3, W3.H = H3 ∧ Grow Wi W3 ∧ W3.Ok X.K ∧ AtS X.K W3 s3 σ3 ∧ I (i + 1) s3 W3.L, fun σ3 H3 z => ⟨items.length - (i + 1), by omega, rfl, hlt, z⟩, fun x H3 hy => ?_⟩
    obtain ⟨W3, a, ea, eH, eL, g3, ok3, at3⟩ := io.yld i W2 x H3 g2 ok2 hc hlt hy
    have hb' := body a ea
    rw [← eL] at hb'
    refine ⟨W3, s2, a, _, eH, ok3, at2.mono g3, at3, hb', fun s4 W4 σ4 q4 g4 ok4 at4 _ => ?_⟩
    have again : ∀ (s : Sl) (W : Wd) (σ : L2.St), (∃ s4 L4, Wk Wi.L.length s W.L s4 L4 ∧ Wi.L.length ≤ L4.length ∧ I (i + 1) s4 L4) → Grow Wi W → W.Ok X.K → AtS X.K W s σ → ∃ W3 s3, W3.H = W.H ∧ Grow Wi W3 ∧ W3.Ok X.K ∧ AtS X.K W3 s3 σ ∧ I (i + 1) s3 W3.L := fun s W σ ⟨s5, L5, wk, hl5, hI5⟩ gw okw atw => by
      obtain ⟨W5, e5, ok5, at5, eH5, _, g5⟩ := wk X.K W σ okw rfl atw
      subst e5
      exact ⟨W5, s5, eH5, g5 Wi gw (Nat.le_refl _) hl5, ok5, at5, hI5⟩
    refine ⟨Wi, W4, s4, _, rfl, ok4, at4, g2.trans (g3.trans g4), q4, ⟨fun s W σ q gw okw atw => again s W σ q gw okw atw, fun a W v q gw okw atw => fin.rt a W v q (gr.trans (g1.trans gw)) okw atw, fun s W σ q gw okw atw => fin.nx s W σ q (gr.trans (g1.trans gw)) okw atw,
      fun s W σ q gw okw atw => again s W σ q gw okw atw, fun c fs s W d σ q gw okw atw xa => fin.ex c fs s W d σ q (gr.trans (g1.trans gw)) okw atw xa, rfl⟩⟩
  · have ei : i = items.length := by omega
    subst ei
    exact .inl ⟨io.stop W2 g2 ok2 hc, fin.nx s2 W2 σ' (done rfl) (gr.trans (g1.trans g2)) ok2 at2⟩⟩
/-! ### while -/
def gWhl (t : GTT) (g : GTS) : GTS := fun D s L => ∃ I : Nat → Sl → Lo → Prop, (∃ m, I m s L) ∧ ∀ m s' L', I m s' L' → L.length ≤ L'.length ∧ t s' L' fun b L1 =>
  br b (g { D with nx := fun s3 L3 => ∃ s4 L4 m', Wk L.length s3 L3 s4 L4 ∧ L.length ≤ L4.length ∧ m' < m ∧ I m' s4 L4, ct := fun s3 L3 => ∃ s4 L4 m', Wk L.length s3 L3 s4 L4 ∧ L.length ≤ L4.length ∧ m' < m ∧ I m' s4 L4, bk := D.nx, b := L.length } s' L1)
    (D.nx s' L1)
theorem s_while (hp : PassesOwn (model X.prog X.w) X.A X.env X.xe) (hc : GT X c gt) (hb : GSs X Wx body g) : GS X Wx (.While c body [] pos) (gWhl gt g) := ⟨fun W0 => ps_imp (ps_while hp hc.pt (pss_ex hb)) fun D σ H h => by
  obtain ⟨Wi, s, E, e, ok, ats, gr, ⟨I, ⟨m0, h0⟩, step⟩, fin⟩ := h
  refine ⟨fun m σ' H' => ∃ W2 s2, W2.H = H' ∧ Grow Wi W2 ∧ W2.Ok X.K ∧ AtS X.K W2 s2 σ' ∧ I m s2 W2.L, ⟨m0, Wi, s, e, Grow.refl, ok, ats, h0⟩, ?_⟩
  rintro m σ' H' ⟨W2, s2, rfl, g2, ok2, at2, hI⟩
  obtain ⟨hl, q⟩ := step m s2 W2.L hI
  refine ⟨W2, s2, _, rfl, ok2, at2, q, fun b W3 q3 g3 ok3 => ?_⟩
  cases b with
  | false => exact fin.nx s2 W3 σ' (q3.2 rfl) (gr.trans (g2.trans g3)) ok3 (at2.mono g3)
  | true =>
    refine ⟨fun σ4 H4 => ∃ m', m' < m ∧ ∃ W3 s3, W3.H = H4 ∧ Grow Wi W3 ∧ W3.Ok X.K ∧ AtS X.K W3 s3 σ4 ∧ I m' s3 W3.L, fun σ4 H4 z => z, ?_⟩
    have again : ∀ (s : Sl) (W : Wd) (σ : L2.St), (∃ s4 L4 m', Wk Wi.L.length s W.L s4 L4 ∧ Wi.L.length ≤ L4.length ∧ m' < m ∧ I m' s4 L4) → Grow Wi W → W.Ok X.K → AtS X.K W s σ → ∃ m', m' < m ∧ ∃ W3 s3, W3.H = W.H ∧ Grow Wi W3 ∧ W3.Ok X.K ∧ AtS X.K W3 s3 σ ∧ I m' s3 W3.L := fun s W σ ⟨s5, L5, m', wk, hl5, hm, hI5⟩ gw okw atw => by
      obtain ⟨W5, e5, ok5, at5, eH5, _, g5⟩ := wk X.K W σ okw rfl atw
      subst e5
      exact ⟨m', hm, W5, s5, eH5, g5 Wi gw (Nat.le_refl _) hl5, ok5, at5, hI5⟩
    refine ⟨Wi, W3, s2, _, rfl, ok3, at2.mono g3, g2.trans g3, q3.1 rfl, ⟨fun s W σ q gw okw atw => again s W σ q gw okw atw, fun a W v q gw okw atw => fin.rt a W v q (gr.trans gw) okw atw, fun s W σ q gw okw atw => fin.nx s W σ q (gr.trans gw) okw atw,
      fun s W σ q gw okw atw => again s W σ q gw okw atw, fun c fs s W d σ q gw okw atw xa => fin.ex c fs s W d σ q (gr.trans gw) okw atw xa, rfl⟩⟩⟩

/-! ### comprehensions -/
def wipA (s : Sl) : List Nat → Sl
  | [] => s
  | v :: vs => (wipA s vs).set v none
theorem atS_none {K : PySem.W.Frag} {W : Wd} {s : Sl} {σ : L2.St} (h : AtS K W s σ) (i : Nat) : AtS K W (s.set i none) (σ.set i none) := by
  refine ⟨by simp [h.len], fun j b e => ?_⟩
  by_cases hj : i = j
  · subst hj
    have hi : i < s.length := by
      have := (List.getElem?_eq_some_iff.mp e).1
      simpa using this
    rw [List.getElem?_set_self hi] at e
    cases e
  · rw [List.getElem?_set_ne hj] at e ⊢
    exact h.at_ j b e
theorem wip_at {K : PySem.W.Frag} {W : Wd} {s : Sl} {σ : L2.St} (h : AtS K W s σ) : ∀ vs : List Nat, AtS K W (wipA s vs) (wipe σ vs)
  | [] => h
  | v :: vs => atS_none (wip_at h vs) v
theorem wipe_get {σ : L2.St} : ∀ (vs : List Nat) (j : Nat), (wipe σ vs)[j]? = if j ∈ vs ∧ j < σ.length then some none else σ[j]?
  | [], j => by simp [wipe]
  | v :: vs, j => by
    have hl := wipe_length σ vs
    show ((wipe σ vs).set v none)[j]? = _
    by_cases hj : v = j
    · subst hj
      by_cases hv : v < σ.length
      · rw [List.getElem?_set_self (by rw [hl]; exact hv), if_pos ⟨by simp, hv⟩]
      · rw [if_neg (fun z => hv z.2), List.getElem?_eq_none (by simp [hl]; omega), List.getElem?_eq_none (by omega)]
    · rw [List.getElem?_set_ne hj, wipe_get vs j]
      have : (j ∈ v :: vs) ↔ (j ∈ vs) := by simp [Ne.symm hj]
      simp only [this]
theorem wipe_off {σ σ' : L2.St} {vs : List Nat} (h : Off vs (wipe σ vs) σ') : wipe σ' vs = wipe σ vs := by
  apply List.ext_getElem?
  intro j
  have hl := wipe_length σ vs
  rw [wipe_get, wipe_get]
  rw [h.1, hl]
  by_cases hj : j ∈ vs
  · by_cases hj2 : j < σ.length
    · rw [if_pos ⟨hj, hj2⟩, if_pos ⟨hj, hj2⟩]
    · rw [if_neg (fun z => hj2 z.2), if_neg (fun z => hj2 z.2), List.getElem?_eq_none (by rw [h.1, hl]; omega), List.getElem?_eq_none (by omega)]
  · rw [if_neg (fun z => hj z.1), if_neg (fun z => hj z.1), h.2 j hj, wipe_get, if_neg (fun z => hj z.1)]
structure GTests (X : Cx) (ifs : List Expr) (g : GTT) : Prop where
  pts : PTs X ifs (liftT X.K g)
def gYes : GTT := fun _ L R => R true L
theorem ts_nil : GTests X [] gYes := ⟨⟨fun pins s σ H Q I h => pts_nil.run pins s σ H Q I (by
  obtain ⟨W, s, R, e, ok, ats, h, fin⟩ := h
  exact e ▸ fin _ W h Grow.refl ok)⟩⟩
theorem ts_one (h : GT X c gt) : GTests X [c] gt := ⟨pts_one h.pt⟩
/-- [elt for tg in iter if ..]: frozen; I: what is made so far, by the turn -/
def lcG (items : List A) (cond : Lo → Prop) (b0 : Nat) (t : GTG) (tt : GTT) (ge : GTE) (vs : List Nat) (s : Sl) (L : Lo) (R : KA) : Prop :=
  ∃ I : Nat → List D → Lo → Prop, I 0 [] L ∧ ∀ i acc L', I i acc L' → i ≤ items.length → cond L' ∧ b0 ≤ L'.length ∧
    (∀ a, items[i]? = some a → t a (wipA s vs) L' fun s2 L2 => tt s2 L2 fun k L3 => br k (ge s2 L3 fun x L4 => ∃ y, x = .d y ∧ acc.length < sizeLine ∧ b0 ≤ L4.length ∧ I (i + 1) (acc ++ [y]) L4) (b0 ≤ L3.length ∧ I (i + 1) acc L3)) ∧
    (i = items.length → R (.d (.list acc)) L')
structure LcH (items : List A) (cond : Lo → Prop) (b0 : Nat) (t : GTG) (tt : GTT) (ge : GTE) (vs : List Nat) (s : Sl) (L : Lo) (R : KA) : Prop where
  h : lcG items cond b0 t tt ge vs s L R
def gLc (gi : GTI) (t : GTG) (tt : GTT) (ge : GTE) (vs : List Nat) : GTE := fun s L R => gi s L fun items cond L1 => LcH items cond L1.length t tt ge vs s L1 R
/-- the lifted comprehension's reading -/
theorem lcr {K : PySem.W.Frag} {gi : GTI} {t : GTG} {tt : GTT} {ge : GTE} {vs : List Nat} {σ : L2.St} {H : Hp} {Q : VK} (h : liftE K (gLc gi t tt ge vs) σ H Q) : tLc (liftI K gi) (liftG K vs t) (liftT K tt) (liftE K ge) vs σ H Q := by
  obtain ⟨W, s, R, e, ok, ats, h, fin⟩ := h
  refine ⟨W, s, _, e, ok, ats, h, fun items cond Wi J q g1 ok1 io => ?_⟩
  obtain ⟨I, h0, step⟩ := q.h
  intro Dd hD
  have outH : ∀ {W2 : Wd} (u : HO), Grow Wi W2 → Grow Wi ⟨W2.ρ, W2.B, W2.L, upd W2.H Dd u⟩ := fun {W2} u g2 =>
    ⟨g2.base, g2.len, g2.rho, fun a o h hn => by
      show upd W2.H Dd u a = some o
      rw [upd_ne (ne_of_none h hD)]; exact g2.keep a o h hn, fun a h => g2.there a (by
      have h' : upd W2.H Dd u a = none := h
      by_cases z : a = Dd
      · subst z; rw [upd_same] at h'; cases h'
      · rw [upd_ne z] at h'; exact h'), g2.newB, g2.newL⟩
  have outO : ∀ {W2 : Wd} (u : HO), W2.Ok K → W2.B Dd = none → (∀ n, n < W2.L.length → W2.ρ n ≠ Dd) → (⟨W2.ρ, W2.B, W2.L, upd W2.H Dd u⟩ : Wd).Ok K := fun {W2} u ok2 hB hr =>
    ⟨fun a o h => by
      show upd W2.H Dd u a = some o
      rw [upd_ne (ne_of_none h hB)]; exact ok2.base a o h, fun n o e h => by
      obtain ⟨h', e1, e2, e3⟩ := ok2.own n o e h
      refine ⟨h', ?_, OAt.mono (W := W2) (fun _ _ h => h) (Nat.le_refl _) (fun _ _ => rfl) e2, e3⟩
      show upd W2.H Dd u (W2.ρ n) = some h'
      rw [upd_ne (hr n (List.getElem?_eq_some_iff.mp e).1)]; exact e1, ok2.inj, fun n h z => by
      have z' : upd W2.H Dd u (W2.ρ n) = none := z
      rw [upd_ne (hr n h)] at z'
      exact ok2.there n h z'⟩
  have hr0 : ∀ n, n < Wi.L.length → Wi.ρ n ≠ Dd := fun n h z => ok1.there n h (by rw [z]; exact hD)
  refine ⟨fun i m H' => m = items.length - i ∧ i ≤ items.length ∧ ∃ (W2 : Wd) (acc : List D) (us : List V), Grow Wi W2 ∧ W2.Ok K ∧ W2.H = H' ∧ W2.B Dd = none ∧ (∀ n, n < W2.L.length → W2.ρ n ≠ Dd) ∧ W2.H Dd = some (.lst us) ∧ DXL W2.B us acc ∧ I i acc W2.L,
    ⟨items.length, by simp, Nat.zero_le _, ⟨Wi.ρ, Wi.B, Wi.L, upd Wi.H Dd (.lst [])⟩, [], [], outH _ Grow.refl, outO _ ok1 (ok1.free hD) hr0, rfl, ok1.free hD, hr0, upd_same, .nil, h0⟩, ?_⟩
  rintro i m H' ⟨rfl, hi, W2, acc, us, g2, ok2, rfl, hB, hr, hL, hx, hI⟩
  obtain ⟨hc, hl, turn, done⟩ := step i acc W2.L hI hi
  by_cases hlt : i < items.length
  · refine .inr ⟨io.go i W2 g2 ok2 hc hlt, fun H3 => ∃ (W2 : Wd) (acc : List D) (us : List V), Grow Wi W2 ∧ W2.Ok K ∧ W2.H = H3 ∧ W2.B Dd = none ∧ (∀ n, n < W2.L.length → W2.ρ n ≠ Dd) ∧ W2.H Dd = some (.lst us) ∧ DXL W2.B us acc ∧ I (i + 1) acc W2.L,
      fun H3 z => ⟨items.length - (i + 1), by omega, rfl, hlt, z⟩, fun x H3 hy => ?_⟩
    obtain ⟨W3, a, ea, eH, eL, g3, ok3, at3⟩ := io.yld i W2 x H3 g2 ok2 hc hlt hy
    have hb' := turn a ea
    rw [← eL] at hb'
    -- what is apart stays apart
    have apart : ∀ {W4 : Wd}, Grow W2 W4 → W4.B Dd = none ∧ (∀ n, n < W4.L.length → W4.ρ n ≠ Dd) ∧ W4.H Dd = some (.lst us) := fun {W4} g => by
      refine ⟨?_, fun n h z => ?_, g.keep _ _ hL fun n h z => hr n h z.symm⟩
      · cases q : W4.B Dd with
        | none => rfl
        | some o =>
          rcases g.newB Dd (by rw [q]; intro z; cases z) hB with z | ⟨n, h, z⟩
          · rw [hL] at z; cases z
          · exact (hr n h z.symm).elim
      · by_cases hn : n < W2.L.length
        · rw [g.rho n hn] at z; exact hr n hn z
        · have := g.newL n (by omega) h
          rw [z, hL] at this; cases this
    refine ⟨W3, wipA s vs, a, _, eH, ok3, (wip_at (ats.mono g1) vs).mono (g2.trans g3), at3, hb', fun s4 W4 σ4 q4 g4 ok4 at4 off => ⟨wipe_off off, ?_⟩⟩
    refine ⟨W4, s4, _, rfl, ok4, at4, q4, fun k W5 q5 g5 ok5 => ?_⟩
    have g25 := g3.trans (g4.trans g5)
    cases k with
    | false =>
      obtain ⟨b1, b2, b3⟩ := apart g25
      exact ⟨W5, acc, us, g2.trans g25, ok5, rfl, b1, b2, b3, DXL.mono g25.base _ _ hx, (q5.2 rfl).2⟩
    | true =>
      refine ⟨W5, s4, _, rfl, ok5, at4.mono g5, q5.1 rfl, fun x W6 v q6 g6 ok6 at6 => ?_⟩
      obtain ⟨y, rfl, hz, hl6, q6⟩ := q6
      obtain ⟨b1, b2, b3⟩ := apart (g25.trans g6)
      refine ⟨us, b3, by rw [hx.length]; exact hz, ⟨W6.ρ, W6.B, W6.L, upd W6.H Dd (.lst (us ++ [v]))⟩, acc ++ [y], us ++ [v], outH _ (g2.trans (g25.trans g6)), outO _ ok6 b1 b2, rfl, b1, b2, upd_same, (DXL.mono (g25.trans g6).base _ _ hx).append (.cons at6.d_iff .nil), q6⟩
  · have ei : i = items.length := by omega
    subst ei
    refine .inl ⟨io.stop W2 g2 ok2 hc, ?_⟩
    have hsub : Sub W2.B (upd W2.B Dd (.lst us)) := sub_upd hB
    refine fin _ ⟨W2.ρ, upd W2.B Dd (.lst us), W2.L, W2.H⟩ _ (done rfl) (g1.trans ⟨fun a o h => hsub a o (g2.base a o h), g2.len, g2.rho, g2.keep, g2.there, fun a h h' => ?_, g2.newL⟩) ⟨fun a o h => ?_, fun n o e h => ?_, ok2.inj, ok2.there⟩ (.d (.lst upd_same (DXL.mono hsub _ _ hx)))
    · by_cases z : a = Dd
      · subst z; exact .inl hD
      · exact g2.newB a (by
          have h2 : upd W2.B Dd (.lst us) a ≠ none := h
          rw [upd_ne z] at h2; exact h2) h'
    · by_cases z : a = Dd
      · subst z
        have h2 : upd W2.B a (.lst us) a = some o := h
        rw [upd_same] at h2
        rw [← h2]; exact hL
      · exact ok2.base a o (by
          have h2 : upd W2.B Dd (.lst us) a = some o := h
          rw [upd_ne z] at h2; exact h2)
    · obtain ⟨h', e1, e2, e3⟩ := ok2.own n o e h
      refine ⟨h', e1, OAt.mono (W := W2) hsub (Nat.le_refl _) (fun _ _ => rfl) e2, ?_⟩
      show upd W2.B Dd (.lst us) (W2.ρ n) = none
      rw [upd_ne (hr n (List.getElem?_eq_some_iff.mp e).1)]; exact e3
theorem g_lc {elt iter : Expr} {ifs : List Expr} {scope : Scope} {own : List (Str × Nat)} {gi : GTI} {t : GTG} {tt : GTT} {ge : GTE} (hc : X.calm = true) (hN : X.N.Nodup) (hi : GI X tg iter gi) (ok : BlkOk X.N X.env.scope scope own)
    (hg : ∀ (s : Shared) (H : Hp) (C : Addr) (cl : List (Str × Addr)) (fp : List Addr), GP (X.blk s H scope (PySem.compEnvC scope cl C X.env) fp) tg (own.map (·.2)) t) (ht : ∀ (s : Shared) (H : Hp) (C : Addr) (cl : List (Str × Addr)) (fp : List Addr), GTests (X.blk s H scope (PySem.compEnvC scope cl C X.env) fp) ifs tt)
    (he : ∀ (s : Shared) (H : Hp) (C : Addr) (cl : List (Str × Addr)) (fp : List Addr), GE (X.blk s H scope (PySem.compEnvC scope cl C X.env) fp) elt ge) (hs : ∀ x, foldedSetIterable iter X.env x = pure x := by intro _; rfl) :
    GE X (.ListComp elt [⟨tg, iter, ifs, 0⟩] scope pos) (gLc gi t tt ge (own.map (·.2))) :=
  ⟨pe_imp (pe_lc hc hN hi.pi ok (fun s H C cl fp => (hg s H C cl fp).pg) (fun s H C cl fp => (ht s H C cl fp).pts) (fun s H C cl fp => (he s H C cl fp).pe) hs) fun σ H Q h => lcr h⟩
theorem s_setLc {i : Nat} {y : Str} {py : Pos} {elt iter : Expr} {ifs : List Expr} {scope : Scope} {own : List (Str × Nat)} {spos : Pos} {gi : GTI} {t : GTG} {tt : GTT} {ge : GTE} (hc : X.calm = true) (hN : X.N.Nodup) (hy : X.N[i]? = some y) (hyl : X.env.scope.names.lookup y = some .local)
    (hsw : swapsWith (.ListComp elt [⟨tg, iter, ifs, 0⟩] scope pos) (some (.Name y py)) spos.line X.env = pure true) (hi : GI X tg iter gi) (ok : BlkOk X.N X.env.scope scope own)
    (hg : ∀ (s : Shared) (H : Hp) (C : Addr) (cl : List (Str × Addr)) (fp : List Addr), GP (X.blk s H scope (PySem.compEnvC scope cl C X.env) fp) tg (own.map (·.2)) t) (ht : ∀ (s : Shared) (H : Hp) (C : Addr) (cl : List (Str × Addr)) (fp : List Addr), GTests (X.blk s H scope (PySem.compEnvC scope cl C X.env) fp) ifs tt)
    (he : ∀ (s : Shared) (H : Hp) (C : Addr) (cl : List (Str × Addr)) (fp : List Addr), GE (X.blk s H scope (PySem.compEnvC scope cl C X.env) fp) elt ge) (hs : ∀ x, foldedSetIterable iter X.env x = pure x := by intro _; rfl) :
    GS X Wx (.Assign [.Name y py] (.ListComp elt [⟨tg, iter, ifs, 0⟩] scope pos) spos) (gSet (gLc gi t tt ge (own.map (·.2))) (gNm i)) :=
  ⟨fun W0 => ps_imp (ps_setLc hc hN hy hyl hsw hi.pi ok (fun s H C cl fp => (hg s H C cl fp).pg) (fun s H C cl fp => (ht s H C cl fp).pts) (fun s H C cl fp => (he s H C cl fp).pe) hs) fun D σ H h => by
    obtain ⟨W, s, E, e, okw, ats, gr, h, fin⟩ := h
    exact lcr ⟨W, s, _, e, okw, ats, h, fun a W1 v q g1 ok1 at1 => fin.nx _ W1 _ q (gr.trans g1) ok1 ((ats.mono g1).set i at1)⟩⟩
end
end GL

namespace GL
open PySem PySem.Spec L2

/-! ### what a def promises, over values -/
abbrev KX := Value → Option (List (Str × D)) → Lo → Prop
abbrev ASp := List A → Lo → KA → KX → Prop
def liftSp (K : PySem.W.Frag) (asp : ASp) : Sp := fun vs H Q E => ∃ (W : Wd) (as : List A) (R : KA) (Ex : KX), W.H = H ∧ W.Ok K ∧ AtL K W as vs ∧ asp as W.L R Ex ∧ (∀ a W' v, R a W'.L → Grow W W' → W'.Ok K → At K W' a v → Q v W'.H) ∧
  ∀ c fs W' d, Ex c fs W'.L → Grow W W' → W'.Ok K → XAt K W' fs d → E c d W'.H
abbrev WX0 : WX := fun _ _ _ _ => False
def startA (n : Nat) (as : List A) : Sl := as.map some ++ List.replicate (n - as.length) none
theorem start_at {K : PySem.W.Frag} {W : Wd} {N : List Str} {as : List A} {vs : List V} (h : AtL K W as vs) : AtS K W (startA N.length as) (L2.start N vs) := by
  have hl := h.length
  refine ⟨by simp [startA, L2.start, hl], fun i a e => ?_⟩
  unfold startA at e
  by_cases hi : i < as.length
  · rw [List.getElem?_append_left (by simpa using hi), List.getElem?_map] at e
    cases q : as[i]? with
    | none => rw [q] at e; cases e
    | some b =>
      rw [q] at e
      cases e
      obtain ⟨v, e1, e2⟩ := h.get q
      refine ⟨v, ?_, e2⟩
      unfold L2.start
      rw [List.getElem?_append_left (by simp; omega), List.getElem?_map, e1]
      rfl
  · rw [List.getElem?_append_right (by simp; omega)] at e
    have := List.mem_of_getElem? e
    simp at this
/-- the ends of a def's body; own cells may be given up at the end -/
def fnEnds (b : Nat) (R : KA) : GEnds where
  nx := fun s L => ∃ s1 L1, Wk b s L s1 L1 ∧ b ≤ L1.length ∧ R (.d .none) L1
  rt := fun a L => ∃ a1 L1, Wk b [some a] L [some a1] L1 ∧ b ≤ L1.length ∧ R a1 L1
  bk := fun _ _ => False
  ct := fun _ _ => False
  ex := fun _ _ _ _ => False
  b := b
def fnEndsX (b : Nat) (R : KA) (Ex : KX) : GEnds := { fnEnds b R with ex := fun c fs s L => ∃ s1 L1, Wk b s L s1 L1 ∧ b ≤ L1.length ∧ Ex c fs L1 }
theorem rt0 {b : Nat} {R : KA} {a : A} {L : Lo} (h : R a L) (hb : b ≤ L.length) : (fnEnds b R).rt a L := ⟨a, L, Wk.refl, hb, h⟩
theorem rtX0 {b : Nat} {R : KA} {Ex : KX} {a : A} {L : Lo} (h : R a L) (hb : b ≤ L.length) : (fnEndsX b R Ex).rt a L := ⟨a, L, Wk.refl, hb, h⟩
theorem Wk.nil {s : Sl} {L : Lo} : ∀ (K : PySem.W.Frag) (W : Wd) (σ : L2.St), AtS K W s σ → AtS K W ([] : Sl) [] := fun _ _ _ _ => ⟨rfl, fun i a e => by simp at e⟩
section
variable {P : Program} {w : World} {K : PySem.W.Frag} {mg : Str → Option Value} {base : Heap}
theorem rt_fin {K : PySem.W.Frag} {W0 : Wd} {R : KA} {Q : VK} (hR : ∀ a W' v, R a W'.L → Grow W0 W' → W'.Ok K → At K W' a v → Q v W'.H) {a : A} {W : Wd} {v : V} (q : ∃ a1 L1, Wk W0.L.length [some a] W.L [some a1] L1 ∧ W0.L.length ≤ L1.length ∧ R a1 L1) (gr : Grow W0 W) (ok : W.Ok K) (at1 : At K W a v) : Q v W.H := by
  obtain ⟨a1, L1, wk, hl, q⟩ := q
  have at2 : AtS K W [some a] [some v] := ⟨rfl, fun i b e => by
    cases i with
    | zero => simp at e; subst e; exact ⟨v, rfl, at1⟩
    | succ i => simp at e⟩
  obtain ⟨W2, e2, ok2, at3, eH, _, g2⟩ := wk K W _ ok rfl at2
  subst e2
  obtain ⟨v', ev, at4⟩ := at3.at_ 0 a1 rfl
  simp at ev
  subst ev
  rw [← eH]
  exact hR _ W2 _ q (g2 W0 gr (Nat.le_refl _) hl) ok2 at4
/-- falling off the end -/
theorem nx_fin {K : PySem.W.Frag} {W0 : Wd} {R : KA} {Q : VK} (hR : ∀ a W' v, R a W'.L → Grow W0 W' → W'.Ok K → At K W' a v → Q v W'.H) {s : Sl} {W : Wd} {σ : L2.St} (q : ∃ s1 L1, Wk W0.L.length s W.L s1 L1 ∧ W0.L.length ≤ L1.length ∧ R (.d .none) L1) (gr : Grow W0 W) (ok : W.Ok K) (at1 : AtS K W s σ) : Q .non W.H := by
  obtain ⟨s1, L1, wk, hl, q⟩ := q
  obtain ⟨W2, e2, ok2, at3, eH, _, g2⟩ := wk K W _ ok rfl at1
  subst e2
  rw [← eH]
  exact hR _ W2 _ q (g2 W0 gr (Nat.le_refl _) hl) ok2 (.d .non)
/-- THE RULE for a def that raises nothing -/
theorem okG {x qual : Str} {st : Stmt} {f : Addr} {fd : FuncData} {N ps : List Str} {k : Nat} {asp : ASp} (F : Fun K x qual st f fd) (S : FnScope N ps (defScope st)) (len : ∀ as L R Ex, asp as L R Ex → as.length = ps.length)
    (body : ∀ (cdv : Value) (A : Around) (outer : List Env) (s : Shared) (H : Hp) (E : XK), Room k (A.deeper (PyProof.Rows.envOfC qual (defScope st) s.heap.objs.size f cdv)) →
      ∃ g, GSs (cxOf CX0 P w K mg base N qual (defScope st) f cdv A outer s H E).nox WX0 (defBody st) g ∧ ∀ as L R Ex, asp as L R Ex → g (fnEnds L.length R) (startA N.length as) L) :
    FnOk P w K mg base CX0 (k + 1) f fd ps (liftSp K asp) := by
  refine F.ok S (fun vs H Q E h => ?_) (fun cdv A outer s H vs Q E hr h => ?_)
  · obtain ⟨W, as, R, Ex, e, ok, at1, h, _⟩ := h
    rw [← at1.length]
    exact len as _ _ _ h
  · obtain ⟨W, as, R, Ex, e, ok, at1, h, hR, hX⟩ := h
    obtain ⟨g, hg, hb⟩ := body cdv A outer s H E hr
    refine ⟨_, hg.pss W, W, startA N.length as, fnEnds W.L.length R, e, ok, start_at at1, Grow.refl, hb as W.L R Ex h, ⟨fun s' W' σ' q gr ok' at' => nx_fin hR q gr ok' at', fun a W' v q gr ok' at' => rt_fin hR q gr ok' at', fun _ _ _ q => q.elim, fun _ _ _ q => q.elim, fun _ _ _ _ _ _ q => q.elim, rfl⟩⟩
/-- .. for one that may raise -/
theorem okGX {x qual : Str} {st : Stmt} {f : Addr} {fd : FuncData} {N ps : List Str} {k : Nat} {asp : ASp} (F : Fun K x qual st f fd) (S : FnScope N ps (defScope st)) (len : ∀ as L R Ex, asp as L R Ex → as.length = ps.length)
    (body : ∀ (cdv : Value) (A : Around) (outer : List Env) (s : Shared) (H : Hp) (E : XK), Room k (A.deeper (PyProof.Rows.envOfC qual (defScope st) s.heap.objs.size f cdv)) →
      ∃ g, GSs (cxOf (L2.CX P w) P w K mg base N qual (defScope st) f cdv A outer s H E) (fun c d _ H => E c d H) (defBody st) g ∧ ∀ as L R Ex, asp as L R Ex → g (fnEndsX L.length R Ex) (startA N.length as) L) :
    FnOk P w K mg base (L2.CX P w) (k + 1) f fd ps (liftSp K asp) := by
  refine F.okX S (fun vs H Q E h => ?_) (fun cdv A outer s H vs Q E hr h => ?_)
  · obtain ⟨W, as, R, Ex, e, ok, at1, h, _⟩ := h
    rw [← at1.length]
    exact len as _ _ _ h
  · obtain ⟨W, as, R, Ex, e, ok, at1, h, hR, hX⟩ := h
    obtain ⟨g, hg, hb⟩ := body cdv A outer s H E hr
    refine ⟨_, hg.pss W, W, startA N.length as, fnEndsX W.L.length R Ex, e, ok, start_at at1, Grow.refl, hb as W.L R Ex h, ⟨fun s' W' σ' q gr ok' at' => nx_fin hR q gr ok' at', fun a W' v q gr ok' at' => rt_fin hR q gr ok' at', fun _ _ _ q => q.elim, fun _ _ _ q => q.elim, fun c fs s' W' d σ' q gr ok' at' xa => ?_, rfl⟩⟩
    obtain ⟨s1, L1, wk, hl, q⟩ := q
    obtain ⟨W2, e2, ok2, at4, eH, sb, g2⟩ := wk K W' _ ok' rfl at'
    subst e2
    rw [← eH]
    exact hX c fs W2 d q (g2 W gr (Nat.le_refl _) hl) ok2 (xa.mono sb)
end

/-! ### calls -/
def ren (f : List Nat) (b : Nat) (j : Nat) : Nat := match f[j]? with
  | some n => n
  | none => b + (j - f.length)
mutual
def A.ren (r : Nat → Nat) : A → A
  | .d x => .d x
  | .own n => .own (r n)
  | .tup as => .tup (A.renL r as)
  | .scr ns => .scr ns
  | .raw v => .raw v
def A.renL (r : Nat → Nat) : List A → List A
  | [] => []
  | a :: as => A.ren r a :: A.renL r as
end
def AO.ren (r : Nat → Nat) : AO → AO
  | .lst as => .lst (A.renL r as)
  | .dT kvs => .dT (kvs.map fun p => (p.1, A.ren r p.2))
  | .dK kvs => .dK (kvs.map fun p => (p.1, A.ren r p.2))
  | .dX f n => .dX f n
  | .obj C fs => .obj C (fs.map fun p => (p.1, A.ren r p.2))
  | .dead => .dead
mutual
theorem ren_to {K : PySem.W.Frag} {W W' : Wd} {r : Nat → Nat} (hb : Sub W.B W'.B) (hr : ∀ j, j < W.L.length → r j < W'.L.length ∧ W'.ρ (r j) = W.ρ j) : ∀ (a : A) (v : V), At K W a v → At K W' (a.ren r) v
  | .d x, _, h => by cases h with | d q => exact .d (q.mono hb)
  | .own n, _, h => by
    cases h with
    | own q =>
      obtain ⟨h1, h2⟩ := hr n q
      rw [← h2]; exact .own h1
  | .tup as, _, h => by
    cases h with
    | tup e q => exact .tup (hb _ _ e) (renL_to hb hr as _ q)
  | .scr ns, _, h => by
    cases h with
    | scr q => exact .scr (Same.seq hb q)
  | .raw v, _, h => by
    cases h with
    | raw q => exact .raw (q.mono hb)
theorem renL_to {K : PySem.W.Frag} {W W' : Wd} {r : Nat → Nat} (hb : Sub W.B W'.B) (hr : ∀ j, j < W.L.length → r j < W'.L.length ∧ W'.ρ (r j) = W.ρ j) : ∀ (as : List A) (vs : List V), AtL K W as vs → AtL K W' (A.renL r as) vs
  | [], _, h => by cases h; exact .nil
  | a :: as, _, h => by
    cases h with
    | cons h1 h2 => exact .cons (ren_to hb hr a _ h1) (renL_to hb hr as _ h2)
end
mutual
theorem ren_of {K : PySem.W.Frag} {W W' : Wd} {r : Nat → Nat} (hb : Sub W.B W'.B) (hr : ∀ j, r j < W.L.length → j < W'.L.length ∧ W'.ρ j = W.ρ (r j)) : ∀ (a : A) (v : V), At K W (a.ren r) v → At K W' a v
  | .d x, _, h => by cases h with | d q => exact .d (q.mono hb)
  | .own n, _, h => by
    cases h with
    | own q =>
      obtain ⟨h1, h2⟩ := hr n q
      rw [← h2]; exact .own h1
  | .tup as, _, h => by
    cases h with
    | tup e q => exact .tup (hb _ _ e) (renL_of hb hr as _ q)
  | .scr ns, _, h => by
    cases h with
    | scr q => exact .scr (Same.seq hb q)
  | .raw v, _, h => by
    cases h with
    | raw q => exact .raw (q.mono hb)
theorem renL_of {K : PySem.W.Frag} {W W' : Wd} {r : Nat → Nat} (hb : Sub W.B W'.B) (hr : ∀ j, r j < W.L.length → j < W'.L.length ∧ W'.ρ j = W.ρ (r j)) : ∀ (as : List A) (vs : List V), AtL K W (A.renL r as) vs → AtL K W' as vs
  | [], _, h => by cases h; exact .nil
  | a :: as, _, h => by
    cases h with
    | cons h1 h2 => exact .cons (ren_of hb hr a _ h1) (renL_of hb hr as _ h2)
end
theorem Paired.mapL {α β γ : Type} {F : γ → β → Prop} {G : α → β → Prop} {m : α → γ} : ∀ {l : List α} {k : List β}, (∀ a b, F (m a) b → G a b) → Paired F (l.map m) k → Paired G l k
  | [], _, _, h => by cases h; exact .nil
  | a :: l, _, f, h => by
    cases h with
    | cons h1 h2 => exact .cons (f _ _ h1) (Paired.mapL f h2)
theorem Paired.mapR {α β γ : Type} {F : α → β → Prop} {G : γ → β → Prop} {m : α → γ} : ∀ {l : List α} {k : List β}, (∀ a b, F a b → G (m a) b) → Paired F l k → Paired G (l.map m) k
  | [], _, _, h => by cases h; exact .nil
  | a :: l, _, f, h => by
    cases h with
    | cons h1 h2 => exact .cons (f _ _ h1) (Paired.mapR f h2)
theorem renO_to {K : PySem.W.Frag} {W W' : Wd} {r : Nat → Nat} (hb : Sub W.B W'.B) (hr : ∀ j, j < W.L.length → r j < W'.L.length ∧ W'.ρ (r j) = W.ρ j) {o : AO} {h : HO} (q : OAt K W o h) : OAt K W' (o.ren r) h := by
  cases o with
  | lst as => obtain ⟨vs, e, q⟩ := q; exact ⟨vs, e, renL_to hb hr _ _ q⟩
  | dT kvs => obtain ⟨vs, e, q⟩ := q; exact ⟨vs, e, Paired.mapR (fun a b ⟨e1, e2⟩ => ⟨e1, ren_to hb hr _ _ e2⟩) q⟩
  | dK kvs => obtain ⟨vs, e, q⟩ := q; exact ⟨vs, e, Paired.mapR (fun a b ⟨e1, e2⟩ => ⟨e1, ren_to hb hr _ _ e2⟩) q⟩
  | dX f n => obtain ⟨p, ks, e, rt, q⟩ := q; exact ⟨p, ks, e, fun x hx => let ⟨b, e1, e2⟩ := rt x hx; ⟨b, hb _ _ e1, hb _ _ e2⟩, q⟩
  | obj C fs => obtain ⟨dx, vs, e, q⟩ := q; exact ⟨dx, vs, e, Paired.mapR (fun a b ⟨e1, e2⟩ => ⟨e1, ren_to hb hr _ _ e2⟩) q⟩
  | dead => trivial
theorem renO_of {K : PySem.W.Frag} {W W' : Wd} {r : Nat → Nat} (hb : Sub W.B W'.B) (hr : ∀ j, r j < W.L.length → j < W'.L.length ∧ W'.ρ j = W.ρ (r j)) {o : AO} {h : HO} (q : OAt K W (o.ren r) h) : OAt K W' o h := by
  cases o with
  | lst as => obtain ⟨vs, e, q⟩ := q; exact ⟨vs, e, renL_of hb hr _ _ q⟩
  | dT kvs => obtain ⟨vs, e, q⟩ := q; exact ⟨vs, e, Paired.mapL (fun a b ⟨e1, e2⟩ => ⟨e1, ren_of hb hr _ _ e2⟩) q⟩
  | dK kvs => obtain ⟨vs, e, q⟩ := q; exact ⟨vs, e, Paired.mapL (fun a b ⟨e1, e2⟩ => ⟨e1, ren_of hb hr _ _ e2⟩) q⟩
  | dX f n => obtain ⟨p, ks, e, rt, q⟩ := q; exact ⟨p, ks, e, fun x hx => let ⟨b, e1, e2⟩ := rt x hx; ⟨b, hb _ _ e1, hb _ _ e2⟩, q⟩
  | obj C fs => obtain ⟨dx, vs, e, q⟩ := q; exact ⟨dx, vs, e, Paired.mapL (fun a b ⟨e1, e2⟩ => ⟨e1, ren_of hb hr _ _ e2⟩) q⟩
  | dead => trivial
def putAll : List Nat → Lo → Lo → Lo
  | n :: f, o :: M, L => putAll f M (L.set n o)
  | _, _, L => L
theorem putAll_len : ∀ (f : List Nat) (M L : Lo), (putAll f M L).length = L.length
  | [], _, _ => rfl
  | _ :: _, [], _ => rfl
  | n :: f, o :: M, L => by
    show (putAll f M (L.set n o)).length = _
    rw [putAll_len f M]; simp
theorem putAll_ne : ∀ (f : List Nat) (M L : Lo) (n : Nat), n ∉ f → (putAll f M L)[n]? = L[n]?
  | [], _, _, _, _ => rfl
  | _ :: _, [], _, _, _ => rfl
  | m :: f, o :: M, L, n, h => by
    show (putAll f M (L.set m o))[n]? = _
    rw [putAll_ne f M _ n (fun z => h (List.mem_cons_of_mem _ z)), List.getElem?_set_ne (fun z => h (by rw [z]; exact List.mem_cons_self))]
theorem putAll_at : ∀ (f : List Nat) (M L : Lo) (j n : Nat) (o : AO), f.Nodup → f[j]? = some n → M[j]? = some o → n < L.length → (putAll f M L)[n]? = some o
  | [], _, _, j, _, _, _, e, _, _ => by simp at e
  | _ :: _, [], _, j, _, _, _, _, e, _ => by simp at e
  | m :: f, p :: M, L, 0, n, o, hd, e, e2, hl => by
    simp at e e2
    subst e e2
    show (putAll f M (L.set m p))[m]? = _
    rw [putAll_ne f M _ m (List.nodup_cons.mp hd).1, List.getElem?_set_self hl]
  | m :: f, p :: M, L, j + 1, n, o, hd, e, e2, hl => by
    show (putAll f M (L.set m p))[n]? = _
    exact putAll_at f M _ j n o (List.nodup_cons.mp hd).2 (by simpa using e) (by simpa using e2) (by simpa using hl)
def mrg (f : List Nat) (L L' : Lo) : Lo := putAll f (L'.map (AO.ren (ren f L.length))) L ++ (L'.drop f.length).map (AO.ren (ren f L.length))
structure PassOk (f : List Nat) (L Lc : Lo) : Prop where
  len : Lc.length = f.length
  nd : f.Nodup
  at_ : ∀ (j : Nat) (o : AO), Lc[j]? = some o → o ≠ AO.dead ∧ ∃ n : Nat, f[j]? = some n ∧ L[n]? = some (o.ren (ren f L.length))
theorem PassOk.nil {L : Lo} : PassOk [] L [] := ⟨rfl, List.nodup_nil, fun j o e => by simp at e⟩
theorem ren_lt {f : List Nat} {b j n : Nat} (h : f[j]? = some n) : ren f b j = n := by unfold ren; rw [h]
theorem ren_ge {f : List Nat} {b j : Nat} (h : f.length ≤ j) : ren f b j = b + (j - f.length) := by unfold ren; rw [List.getElem?_eq_none h]
theorem ren_dead {r : Nat → Nat} {o : AO} (h : o ≠ AO.dead) : o.ren r ≠ AO.dead := by
  cases o with
  | dead => exact (h rfl).elim
  | _ => intro z; cases z
/-- the callee's world -/
def Wd.sub (W : Wd) (f : List Nat) (Lc : Lo) : Wd := ⟨fun j => W.ρ (ren f W.L.length j), W.B, Lc, W.H⟩
theorem PassOk.lt {f : List Nat} {L Lc : Lo} (p : PassOk f L Lc) {j : Nat} (h : j < f.length) : ∃ n, f[j]? = some n ∧ n < L.length := by
  obtain ⟨_, n, e1, e2⟩ := p.at_ j (Lc[j]'(by rw [p.len]; exact h)) (List.getElem?_eq_getElem _)
  exact ⟨n, e1, (List.getElem?_eq_some_iff.mp e2).1⟩
theorem Wd.sub_back {W : Wd} {f : List Nat} {Lc : Lo} (p : PassOk f W.L Lc) : ∀ j, ren f W.L.length j < W.L.length → j < (W.sub f Lc).L.length ∧ (W.sub f Lc).ρ j = W.ρ (ren f W.L.length j) := fun j h => by
  refine ⟨?_, rfl⟩
  show j < Lc.length
  rw [p.len]
  by_cases hj : j < f.length
  · exact hj
  · rw [ren_ge (by omega)] at h; omega
theorem Wd.sub_ok {K : PySem.W.Frag} {W : Wd} (ok : W.Ok K) {f : List Nat} {Lc : Lo} (p : PassOk f W.L Lc) : (W.sub f Lc).Ok K where
  base := ok.base
  own := fun j o e h => by
    obtain ⟨_, n, e1, e2⟩ := p.at_ j o e
    obtain ⟨u, e3, e4, e5⟩ := ok.own n _ e2 (ren_dead h)
    have er : (W.sub f Lc).ρ j = W.ρ n := by show W.ρ (ren f W.L.length j) = _; rw [ren_lt e1]
    rw [er]
    exact ⟨u, e3, renO_of (W := W) (W' := W.sub f Lc) (fun _ _ h => h) (Wd.sub_back p) e4, e5⟩
  inj := fun i j o o' e h e' h' z => by
    obtain ⟨_, n, e1, e2⟩ := p.at_ i o e
    obtain ⟨_, m, e3, e4⟩ := p.at_ j o' e'
    have z' : W.ρ (ren f W.L.length i) = W.ρ (ren f W.L.length j) := z
    rw [ren_lt e1, ren_lt e3] at z'
    have := ok.inj n m _ _ e2 (ren_dead h) e4 (ren_dead h') z'
    subst this
    exact nd_ix p.nd e1 e3
  there := fun j h => by
    have h' : j < f.length := by rw [← p.len]; exact h
    obtain ⟨n, e1, e2⟩ := p.lt h'
    show W.H (W.ρ (ren f W.L.length j)) ≠ none
    rw [ren_lt e1]; exact ok.there n e2
/-- the caller's world behind the call -/
def Wd.back (W : Wd) (f : List Nat) (Wc : Wd) : Wd := ⟨fun n => if n < W.L.length then W.ρ n else Wc.ρ (f.length + (n - W.L.length)), Wc.B, mrg f W.L Wc.L, Wc.H⟩
section
variable {K : PySem.W.Frag} {W Wc : Wd} {f : List Nat} {Lc : Lo}
theorem mrg_len (p : PassOk f W.L Lc) (g : Grow (W.sub f Lc) Wc) : (mrg f W.L Wc.L).length = W.L.length + (Wc.L.length - f.length) := by
  unfold mrg
  rw [List.length_append, putAll_len, List.length_map, List.length_drop]
theorem back_ren (p : PassOk f W.L Lc) (g : Grow (W.sub f Lc) Wc) : ∀ j, j < Wc.L.length → ren f W.L.length j < (W.back f Wc).L.length ∧ (W.back f Wc).ρ (ren f W.L.length j) = Wc.ρ j := fun j h => by
  have hl : (W.back f Wc).L.length = W.L.length + (Wc.L.length - f.length) := mrg_len p g
  by_cases hj : j < f.length
  · obtain ⟨n, e1, e2⟩ := p.lt hj
    rw [ren_lt e1, hl]
    refine ⟨by omega, ?_⟩
    show (if n < W.L.length then W.ρ n else _) = _
    rw [if_pos e2, g.rho j (by show j < Lc.length; rw [p.len]; exact hj)]
    show W.ρ n = W.ρ (ren f W.L.length j)
    rw [ren_lt e1]
  · have hj' : f.length ≤ j := by omega
    rw [ren_ge hj', hl]
    refine ⟨by omega, ?_⟩
    show (if W.L.length + (j - f.length) < W.L.length then _ else Wc.ρ (f.length + (W.L.length + (j - f.length) - W.L.length))) = _
    rw [if_neg (by omega)]
    congr 1
    omega
theorem mrg_get (p : PassOk f W.L Lc) (g : Grow (W.sub f Lc) Wc) {n : Nat} {o : AO} (e : (mrg f W.L Wc.L)[n]? = some o) :
    (n < W.L.length ∧ n ∉ f ∧ W.L[n]? = some o) ∨ ∃ j o', ren f W.L.length j = n ∧ Wc.L[j]? = some o' ∧ o = o'.ren (ren f W.L.length) := by
  unfold mrg at e
  by_cases hn : n < W.L.length
  · rw [List.getElem?_append_left (by rw [putAll_len]; exact hn)] at e
    by_cases hf : n ∈ f
    · obtain ⟨j, hj, ej⟩ := List.getElem_of_mem hf
      have e1 : f[j]? = some n := by rw [List.getElem?_eq_getElem hj, ej]
      have hj2 : j < Wc.L.length := by
        have := g.len
        have h2 : (W.sub f Lc).L.length = f.length := p.len
        omega
      have e2 : (Wc.L.map (AO.ren (ren f W.L.length)))[j]? = some ((Wc.L[j]).ren (ren f W.L.length)) := by rw [List.getElem?_map, List.getElem?_eq_getElem hj2]; rfl
      rw [putAll_at f _ _ j n _ p.nd e1 e2 hn] at e
      exact .inr ⟨j, Wc.L[j], ren_lt e1, List.getElem?_eq_getElem hj2, (Option.some.inj e).symm⟩
    · rw [putAll_ne f _ _ n hf] at e
      exact .inl ⟨hn, hf, e⟩
  · rw [List.getElem?_append_right (by rw [putAll_len]; omega), putAll_len, List.getElem?_map, List.getElem?_drop] at e
    cases q : Wc.L[f.length + (n - W.L.length)]? with
    | none => rw [q] at e; cases e
    | some o' =>
      rw [q] at e
      refine .inr ⟨f.length + (n - W.L.length), o', ?_, q, (Option.some.inj e).symm⟩
      rw [ren_ge (by omega)]; omega
theorem Wd.back_grow (ok : W.Ok K) (p : PassOk f W.L Lc) (g : Grow (W.sub f Lc) Wc) : Grow W (W.back f Wc) where
  base := g.base
  len := by show _ ≤ (mrg f W.L Wc.L).length; rw [mrg_len p g]; omega
  rho := fun n h => if_pos h
  keep := fun a o h hn => g.keep a o h fun j hj z => by
    have hj' : j < f.length := by rw [← p.len]; exact hj
    obtain ⟨n, e1, e2⟩ := p.lt hj'
    refine hn n e2 (z.trans ?_)
    show W.ρ (ren f W.L.length j) = _
    rw [ren_lt e1]
  there := g.there
  newB := fun a h h' => by
    rcases g.newB a h h' with z | ⟨j, hj, z⟩
    · exact .inl z
    · have hj' : j < f.length := by rw [← p.len]; exact hj
      obtain ⟨n, e1, e2⟩ := p.lt hj'
      refine .inr ⟨n, e2, z.trans ?_⟩
      show W.ρ (ren f W.L.length j) = _
      rw [ren_lt e1]
  newL := fun n h1 h2 => by
    have h3 : n < (mrg f W.L Wc.L).length := h2
    rw [mrg_len p g] at h3
    show W.H (if n < W.L.length then W.ρ n else Wc.ρ (f.length + (n - W.L.length))) = none
    rw [if_neg (by omega)]
    exact g.newL _ (by show Lc.length ≤ _; rw [p.len]; omega) (by omega)
theorem Wd.back_ok (ok : W.Ok K) (p : PassOk f W.L Lc) (g : Grow (W.sub f Lc) Wc) (okc : Wc.Ok K) : (W.back f Wc).Ok K := by
  have gb := Wd.back_grow ok p g
  -- a passed cell's place
  have pas : ∀ {j n}, f[j]? = some n → n < W.L.length → (∃ o, W.L[n]? = some o ∧ o ≠ .dead) ∧ (W.sub f Lc).ρ j = W.ρ n := fun {j n} e h => by
    have hj := (List.getElem?_eq_some_iff.mp e).1
    obtain ⟨h1, m, e1, e2⟩ := p.at_ j (Lc[j]'(by rw [p.len]; exact hj)) (List.getElem?_eq_getElem _)
    rw [e] at e1; cases e1
    exact ⟨⟨_, e2, ren_dead h1⟩, by show W.ρ (ren f W.L.length j) = _; rw [ren_lt e]⟩
  -- one that is not passed stands apart
  have ap : ∀ {n o}, n < W.L.length → n ∉ f → W.L[n]? = some o → o ≠ .dead → ∀ j, j < f.length → W.ρ n ≠ (W.sub f Lc).ρ j := fun {n o} h hf e hd j hj z => by
    obtain ⟨m, e1, e2⟩ := p.lt hj
    obtain ⟨⟨o', e3, e4⟩, e5⟩ := pas e1 e2
    rw [e5] at z
    have := ok.inj n m o o' e hd e3 e4 z
    subst this
    exact hf (List.mem_of_getElem? e1)
  refine ⟨okc.base, fun n o e h => ?_, fun n m o o' e h e' h' z => ?_, fun n h => ?_⟩
  · rcases mrg_get p g e with ⟨hn, hf, e1⟩ | ⟨j, o', ej, e1, eo⟩
    · obtain ⟨u, e2, e3, e4⟩ := ok.own n o e1 h
      have er : (W.back f Wc).ρ n = W.ρ n := if_pos hn
      rw [er]
      refine ⟨u, g.keep _ _ e2 fun j hj => ap hn hf e1 h j (by rw [← p.len]; exact hj), OAt.mono (W := W) gb.base gb.len gb.rho e3, ?_⟩
      cases q : Wc.B (W.ρ n) with
      | none => exact q
      | some w =>
        rcases g.newB (W.ρ n) (by rw [q]; intro z; cases z) e4 with z | ⟨j, hj, z⟩
        · have z' : W.H (W.ρ n) = none := z
          rw [e2] at z'; cases z'
        · exact (ap hn hf e1 h j (by rw [← p.len]; exact hj) z).elim
    · subst ej
      have hd : o' ≠ .dead := fun z => h (by rw [eo, z]; rfl)
      obtain ⟨u, e2, e3, e4⟩ := okc.own j o' e1 hd
      have hj := (List.getElem?_eq_some_iff.mp e1).1
      rw [(back_ren p g j hj).2]
      exact ⟨u, e2, by rw [eo]; exact renO_to (W := Wc) (W' := W.back f Wc) (fun _ _ h => h) (back_ren p g) e3, e4⟩
  · have cell : ∀ {n o}, (mrg f W.L Wc.L)[n]? = some o → o ≠ .dead → (n < W.L.length ∧ n ∉ f ∧ (W.back f Wc).ρ n = W.ρ n ∧ W.L[n]? = some o) ∨ ∃ j o', ren f W.L.length j = n ∧ j < Wc.L.length ∧ (W.back f Wc).ρ n = Wc.ρ j ∧ Wc.L[j]? = some o' ∧ o' ≠ .dead := fun {n o} e h => by
      rcases mrg_get p g e with ⟨hn, hf, e1⟩ | ⟨j, o', ej, e1, eo⟩
      · exact .inl ⟨hn, hf, if_pos hn, e1⟩
      · have hj := (List.getElem?_eq_some_iff.mp e1).1
        exact .inr ⟨j, o', ej, hj, by rw [← ej]; exact (back_ren p g j hj).2, e1, fun z => h (by rw [eo, z]; rfl)⟩
    -- a cell that is not passed and one of the callee's
    have mix : ∀ {n o j}, n < W.L.length → n ∉ f → W.L[n]? = some o → o ≠ .dead → j < Wc.L.length → W.ρ n ≠ Wc.ρ j := fun {n o j} hn hf e hd hj z => by
      by_cases hj2 : j < f.length
      · rw [g.rho j (by show j < Lc.length; rw [p.len]; exact hj2)] at z
        exact ap hn hf e hd j hj2 z
      · have := g.newL j (by show Lc.length ≤ j; rw [p.len]; omega) hj
        have h2 : W.H (Wc.ρ j) = none := this
        rw [← z] at h2
        exact ok.there n hn h2
    rcases cell e h with ⟨a1, a2, a3, a4⟩ | ⟨j, o1, b1, b2, b3, b4, b5⟩
    · rcases cell e' h' with ⟨c1, c2, c3, c4⟩ | ⟨i, o2, d1, d2, d3, d4, d5⟩
      · rw [a3, c3] at z
        exact ok.inj n m o o' a4 h c4 h' z
      · rw [a3, d3] at z
        exact (mix a1 a2 a4 h d2 z).elim
    · rcases cell e' h' with ⟨c1, c2, c3, c4⟩ | ⟨i, o2, d1, d2, d3, d4, d5⟩
      · rw [b3, c3] at z
        exact (mix c1 c2 c4 h' b2 z.symm).elim
      · rw [b3, d3] at z
        have := okc.inj j i o1 o2 b4 b5 d4 d5 z
        rw [← b1, ← d1, this]
  · by_cases hn : n < W.L.length
    · have er : (W.back f Wc).ρ n = W.ρ n := if_pos hn
      rw [er]
      exact fun z => ok.there n hn (g.there _ z)
    · have h3 : n < (mrg f W.L Wc.L).length := h
      rw [mrg_len p g] at h3
      have er : (W.back f Wc).ρ n = Wc.ρ (f.length + (n - W.L.length)) := if_neg hn
      rw [er]
      exact okc.there _ (by omega)
theorem Wd.back_at (p : PassOk f W.L Lc) (g : Grow (W.sub f Lc) Wc) {a : A} {v : V} (h : At K Wc a v) : At K (W.back f Wc) (a.ren (ren f W.L.length)) v :=
  ren_to (W := Wc) (W' := W.back f Wc) (fun _ _ h => h) (back_ren p g) a v h
end
section
variable {X : Cx} {CX : CXT} {k : Nat} {fa : Addr} {fd : FuncData} {ps : List Str} {asp : ASp} {x : Str} {p pos : Pos} {e : Expr} {es : List Expr} {gs : GTA}
/-- f(..): the own cells f are handed, in this order -/
def gCall (asp : ASp) (f : List Nat) (gs : GTA) : GTE := fun s L R => gs s L fun as L1 => ∃ asc Lc, as = A.renL (ren f L1.length) asc ∧ PassOk f L1 Lc ∧ asp asc Lc (fun a L' => R (a.ren (ren f L1.length)) (mrg f L1 L')) (fun _ _ _ => False)
theorem g_call {f : List Nat} (F : FnOk X.prog X.w X.K X.mg X.base CX0 k fa fd ps (liftSp X.K asp)) (hr : Room k X.A) (hg : Gl X x) (hm : X.mg x = some (.ref fa)) (hk : PySem.W.keepIn X.K (.ref fa) = true) (hb : Binds X.K fd ps [])
    (ha : GA X (e :: es) gs) (hdb : (x == ("__debug__" : Str)) = false := by decide) (he : starEach (e :: es) X.env = (false, eval e X.env) :: starEach es X.env := by rfl) (hpl : (backTo pos (starEach es X.env)).any (·.1) = false := by rfl) :
    GE X (.Call (.Name x p) (e :: es) [] pos) (gCall asp f gs) :=
  ⟨pe_imp (pe_call F hr hg hm hk hb .nil pass0 ha.pa hdb he hpl) fun σ H Q h => by
    obtain ⟨W, s, R, e, ok, ats, h, fin⟩ := h
    refine ⟨W, s, _, e, ok, ats, h, fun as W1 vs q g1 ok1 at1 => ?_⟩
    obtain ⟨asc, Lc, ea, hp, q⟩ := q
    subst ea
    rw [List.append_nil]
    refine ⟨W1.sub f Lc, asc, _, _, rfl, Wd.sub_ok ok1 hp, renL_of (W := W1) (W' := W1.sub f Lc) (fun _ _ h => h) (Wd.sub_back hp) _ _ at1, q, fun a Wc v q2 g2 okc atc => ?_, fun _ _ _ _ z => z.elim⟩
    exact fin _ (W1.back f Wc) v q2 (g1.trans (Wd.back_grow ok1 hp g2)) (Wd.back_ok ok1 hp g2 okc) (Wd.back_at hp g2 atc)⟩
/-- .. of values without own cells, giving one such -/
def gCall0 (asp : ASp) (gs : GTA) : GTE := fun s L R => gs s L fun as L1 => asp as [] (fun a L' => L' = [] ∧ (∃ x, a = .d x) ∧ R a L1) (fun _ _ _ => False) ∧ ∃ ds, allD as = some ds
end
end GL

namespace GL
open PySem PySem.Spec L2

/-! ### a def that may be called -/
def Cl (P : Program) (w : World) (K : PySem.W.Frag) (mg : Str → Option Value) (base : Heap) (k : Nat) (x : Str) (ps : List Str) (asp : ASp) : Prop :=
  ∃ f fd, FnOk P w K mg base CX0 k f fd ps (liftSp K asp) ∧ mg x = some (.ref f) ∧ PySem.W.keepIn K (.ref f) = true ∧ Binds K fd ps []
def Df (K : PySem.W.Frag) (mg : Str → Option Value) (x : Str) (ps : List Str) (st : Stmt) : Prop := ∃ f fd, Fun K x x st f fd ∧ mg x = some (.ref f) ∧ Binds K fd ps []
theorem Df.cl {P : Program} {w : World} {K : PySem.W.Frag} {mg : Str → Option Value} {base : Heap} {x : Str} {st : Stmt} {N ps : List Str} {k : Nat} {asp : ASp} (d : Df K mg x ps st) (S : FnScope N ps (defScope st)) (len : ∀ as L R Ex, asp as L R Ex → as.length = ps.length)
    (body : ∀ (f : Addr) (cdv : Value) (A : Around) (outer : List Env) (s : Shared) (H : Hp) (E : XK), Room k (A.deeper (PyProof.Rows.envOfC x (defScope st) s.heap.objs.size f cdv)) →
      ∃ g, GSs (cxOf CX0 P w K mg base N x (defScope st) f cdv A outer s H E).nox WX0 (defBody st) g ∧ ∀ as L R Ex, asp as L R Ex → g (fnEnds L.length R) (startA N.length as) L) :
    Cl P w K mg base (k + 1) x ps asp := by
  obtain ⟨f, fd, F, hm, b⟩ := d
  exact ⟨f, fd, okG F S len fun cdv A outer s H E hr => body f cdv A outer s H E hr, hm, F.kp, b⟩
section
variable {X : Cx} {j k : Nat} {ps : List Str} {asp : ASp} {x : Str} {p pos : Pos} {a b c e o : Expr} {es : List Expr} {ga gb gc go : GTE} {gs : GTA}
theorem g_cl {f : List Nat} (C : Cl X.prog X.w X.K X.mg X.base j x ps asp) (hr : Room k X.A) (hg : Gl X x) (ha : GA X (e :: es) gs) (hjk : j ≤ k := by decide) (hdb : (x == ("__debug__" : Str)) = false := by decide)
    (he : starEach (e :: es) X.env = (false, eval e X.env) :: starEach es X.env := by rfl) (hpl : (backTo pos (starEach es X.env)).any (·.1) = false := by rfl) : GE X (.Call (.Name x p) (e :: es) [] pos) (gCall asp f gs) := by
  obtain ⟨fa, fd, F, hm, hk, hb⟩ := C
  exact g_call F (hr.mono hjk) hg hm hk hb ha hdb he hpl
/-- .. of a def that is asked frozen values and gives one: what it asks, and what it may give -/
def fz (pre : List D → Prop) (post : List D → D → Prop) : ASp := fun as L R _ => ∃ ds, as = ds.map .d ∧ pre ds ∧ ∀ d, post ds d → R (.d d) L

/-! ### methods -/
theorem pe_bmX {T id : String} {name : Str} {apos cpos : Pos} {r : V → List V → Hp → VK → Prop} {to : TE} {t : TA} {ty : V → Hp → Prop} (hty' : ∀ {pins : List (Addr × Obj)} {σ : L2.St} {H : Hp} {s : Shared} {x : V} {v : Value}, Inv X pins σ H s → RelV x v → ty x H → s.TypeIs v T ∧ ∀ a, v = .ref a → ∃ ob, s.heap.get? a = some ob ∧ ob.dict = none)
    (pa : PlainAttrs T) (slot : Slot T name id) (hty : typeOf (.builtin id) = pure (.type "method_descriptor")) (hm : MtR X id r) (ho : PE X o to) (ha : PA X (e :: es) t)
    (hbase : attributeBase o name X.env (eval o X.env) = eval o X.env := by rfl)
    (hfew : ((backTo cpos (starEach (e :: es) X.env)).all (fun x => !x.1) && (backToKw cpos (keywordEach [] X.env)).all (fun x => x.1.isSome)
      && decide ((e :: es).length + ([] : List Keyword).length + (if ([] : List Keyword).isEmpty then 0 else 1) < 30)) = true := by rfl)
    (hline : (apos.endLine == cpos.line) = true := by rfl) (hs : starEach (e :: es) X.env = (false, eval e X.env) :: starEach es X.env := by rfl) (hplain : (backTo cpos (starEach es X.env)).any (·.1) = false := by rfl) :
    PE X (.Call (.Attribute o name apos) (e :: es) [] cpos) (fun σ H Q => to σ H fun x H1 => ty x H1 ∧ t σ H1 fun xs H2 => r x xs H2 Q) := by
  refine ⟨fun pins s σ H Q I h => ?_⟩
  refine wpAny_Call_method_late hbase hfew hline rfl (thn (ho.run pins s σ H _ I h) fun v s1 ⟨x, H1, I1, r1, tyx, q1⟩ => ?_)
  obtain ⟨h1, h2⟩ := hty' I1 r1 tyx
  refine ⟨T, id, pa, slot, hty, h1, h2, ?_⟩
  have hA := ha.run cpos pins s1 σ H1 _ I1 q1
  rw [hs] at hA ⊢
  refine Calls.callWith_builtin (by show (false || (backTo cpos (starEach es X.env)).any (·.1)) = false; rw [hplain] <;> rfl) (Calls.evalArgs_plain ?_)
  exact thn hA fun us s2 ⟨vs, H2, I2, r2, q2⟩ => hm pins s2 σ H2 x vs v us Q I2 r1 r2 q2
/-- a tuple that is known to be plain -/
def tyGrp (x : V) (H : Hp) : Prop := ∃ p o vs, x = .ref p ∧ H p = some (.frz o (.tup vs)) ∧ o.dict = none
theorem tyGrp_is {pins : List (Addr × Obj)} {σ : L2.St} {H : Hp} {s : Shared} {x : V} {v : Value} (I : Inv X pins σ H s) (r : RelV x v) (ty : tyGrp x H) : s.TypeIs v "tuple" ∧ ∀ a, v = .ref a → ∃ ob, s.heap.get? a = some ob ∧ ob.dict = none := by
  obtain ⟨p, o, vs, rfl, hp, hd⟩ := ty
  cases r
  obtain ⟨e, _, its, _, o', e', hc, _⟩ := I.hok p _ hp
  rw [e] at e'; cases e'
  exact ⟨⟨o, e, hc⟩, fun a z => by cases z; exact ⟨o, e, hd⟩⟩
theorem mt_tup_indexI : MtR X "tuple.index" (fun x xs H Q => ∃ p, ∃ ys : List Int, ∃ z j, x = .ref p ∧ xs = [.int z] ∧ SqT X.K H p (ys.map V.int) ∧ ys[j]? = some z ∧ (∀ m, m < j → ys[m]? ≠ some z) ∧ Q (.int (j : Nat)) H) := by
  intro pins s σ H x xs v us Q I rx rs h
  obtain ⟨p, ys, z, j, rfl, rfl, hq, hy, hno, q⟩ := h
  cases rx
  obtain ⟨u, rfl, t, rfl⟩ := vals1 rs
  obtain ⟨its, r, pl, hz⟩ := I.tuple hq
  obtain ⟨⟨cls, dd, dt, sl⟩, ho, hc, n, hd⟩ := pl
  simp only at hc hd
  subst hc
  subst hd
  have hl : its.toArray.size = ys.length := by rw [List.size_toArray, ← r.length, List.length_map]
  have hj : j < its.toArray.size := by rw [hl]; exact (List.getElem?_eq_some_iff.mp hy).1
  have at' : ∀ (m : Nat) (hm : m < its.toArray.size), ∃ y t', ys[m]? = some y ∧ its.toArray[m] = Value.int y t' := fun m hm => by
    have hm' : m < ys.length := by rw [← hl]; exact hm
    obtain ⟨w, hw, t', hw'⟩ := r.get (i := m) (x := .int ys[m]) (by simp [hm'])
    refine ⟨ys[m], t', List.getElem?_eq_getElem hm', ?_⟩
    have e := (List.getElem?_eq_some_iff.mp hw).2
    rw [← hw', ← e]
    simp
  have flat : (ys.map V.int).all flatV = true := by
    rw [List.all_map]
    exact List.all_eq_true.mpr fun _ _ => rfl
  refine call_meets PySem.F.slot_tuple_index ⟨_, ho, rfl⟩ PySem.F.entry_tuple_index (PySem.F.args_tuple_index_2 _ _) (TI.tuple_indexAt p its.toArray n dd sl (.int z t) (eqU (.int z)) j hj ?_ ?_)
    ⟨ho, fun w hw => mem_eqAt (x := .int z) ⟨t, rfl⟩ rfl r flat w (by simpa using hw), ⟨.int (j : Nat), H, I.tok _, ⟨_, rfl⟩, q⟩⟩
  · obtain ⟨y, t', h1, h2⟩ := at' j hj
    rw [hy] at h1
    cases h1
    rw [h2]
    show (z == z) = true
    exact beq_self_eq_true z
  · intro m hm hmj
    obtain ⟨y, t', h1, h2⟩ := at' m hm
    rw [h2]
    show (y == z) = false
    exact beq_eq_false_iff_ne.mpr fun e => hno m hmj (e ▸ h1)
/-- group.index(mark): the first place -/
def gIdx (go : GTE) (gs : GTA) : GTE := fun s L R => go s L fun o L1 => ∃ ns : List Int, o = .d (.grp (ns.map .int)) ∧ gs s L1 fun as L2 => on1 as fun a => onI a fun k => ∃ j : Nat, ns[j]? = some k ∧ (∀ m, m < j → ns[m]? ≠ some k) ∧ R (.d (.int (j : Nat))) L2
theorem g_idx {apos cpos : Pos} (ho : GE X o go) (ha : GA X (e :: es) gs) (hbase : attributeBase o "index" X.env (eval o X.env) = eval o X.env := by rfl)
    (hfew : ((backTo cpos (starEach (e :: es) X.env)).all (fun x => !x.1) && (backToKw cpos (keywordEach [] X.env)).all (fun x => x.1.isSome)
      && decide ((e :: es).length + ([] : List Keyword).length + (if ([] : List Keyword).isEmpty then 0 else 1) < 30)) = true := by rfl)
    (hline : (apos.endLine == cpos.line) = true := by rfl) (hs : starEach (e :: es) X.env = (false, eval e X.env) :: starEach es X.env := by rfl) (hplain : (backTo cpos (starEach es X.env)).any (·.1) = false := by rfl) :
    GE X (.Call (.Attribute o "index" apos) (e :: es) [] cpos) (gIdx go gs) :=
  ⟨pe_imp (pe_bmX (T := "tuple") (fun I r t => tyGrp_is I r t) PySem.F.plainAttrs_tuple PySem.F.slot_tuple_index PySem.F.type_tuple_index mt_tup_indexI ho.pe ha.pa hbase hfew hline hs hplain) fun σ H Q h => by
    obtain ⟨W, s, R, e, ok, ats, h, fin⟩ := h
    refine ⟨W, s, _, e, ok, ats, h, fun o W1 v q g1 ok1 at1 => ?_⟩
    obtain ⟨ns, rfl, q⟩ := q
    obtain ⟨p, ob, vs, rfl, hB, hd, hl⟩ : ∃ p ob vs, v = .ref p ∧ W1.B p = some (.frz ob (.tup vs)) ∧ ob.dict = none ∧ DXL W1.B vs (ns.map .int) := by
      cases at1 with | d q => cases q with | grp e z l => exact ⟨_, _, _, rfl, e, z, l⟩
    have ev := hl.ints
    subst ev
    refine ⟨⟨p, ob, _, rfl, ok1.base _ _ hB, hd⟩, W1, s, _, rfl, ok1, ats.mono g1, q, fun as W2 us q2 g2 ok2 at2 => ?_⟩
    obtain ⟨a, ea, q3⟩ := on1_el q2
    obtain ⟨k, ek, j, e1, e2, q4⟩ := onI_el q3
    subst ea ek
    obtain ⟨u, rfl, at3⟩ := at2.one
    exact ⟨p, ns, k, j, rfl, by rw [at3.int], .inl (.inr ⟨ob, ok2.base _ _ (g2.base _ _ hB)⟩), e1, e2, fin _ W2 _ q4 (g1.trans g2) ok2 (.d (.int _))⟩⟩
/-- the list that an own cell holds -/
def cel (L : Lo) (n : Nat) : Option (List A) := match L[n]? with
  | some (.lst as) => some as
  | _ => none
theorem cel_eq {L : Lo} {n : Nat} {as : List A} (h : cel L n = some as) : L[n]? = some (.lst as) := by
  unfold cel at h
  split at h
  · rename_i e; cases h; exact e
  · cases h
/-- a receiver that is an own list -/
def gMl (go : GTE) (gs : GTA) (g : Nat → List A → GC) : GTE := fun s L R => go s L fun o L1 => onOwn o fun n => onO (cel L1 n) fun _ => gs s L1 fun as L2 => onO (cel L2 n) fun xs => g n xs as L2 R
theorem g_ml {name : Str} {id : String} {apos cpos : Pos} {r : V → List V → Hp → VK → Prop} {g : Nat → List A → GC} (slot : Slot "list" name id) (hty : typeOf (.builtin id) = pure (.type "method_descriptor")) (hm : MtR X id r)
    (hg : ∀ (W : Wd) (n : Nat) (xs as : List A) (us vs : List V) (R : KA) (Q : VK), W.Ok X.K → W.L[n]? = some (.lst xs) → W.H (W.ρ n) = some (.lst us) → AtL X.K W xs us → AtL X.K W as vs → g n xs as W.L R → (∀ a W' v, R a W'.L → Grow W W' → W'.Ok X.K → At X.K W' a v → Q v W'.H) → r (.ref (W.ρ n)) vs W.H Q)
    (ho : GE X o go) (ha : GA X (e :: es) gs) (hbase : attributeBase o name X.env (eval o X.env) = eval o X.env := by rfl)
    (hfew : ((backTo cpos (starEach (e :: es) X.env)).all (fun x => !x.1) && (backToKw cpos (keywordEach [] X.env)).all (fun x => x.1.isSome)
      && decide ((e :: es).length + ([] : List Keyword).length + (if ([] : List Keyword).isEmpty then 0 else 1) < 30)) = true := by rfl)
    (hline : (apos.endLine == cpos.line) = true := by rfl) (hs : starEach (e :: es) X.env = (false, eval e X.env) :: starEach es X.env := by rfl) (hplain : (backTo cpos (starEach es X.env)).any (·.1) = false := by rfl) :
    GE X (.Call (.Attribute o name apos) (e :: es) [] cpos) (gMl go gs g) :=
  ⟨pe_imp (pe_bm PySem.F.plainAttrs_list slot hty hm ho.pe ha.pa hbase hfew hline hs hplain) fun σ H Q h => by
    obtain ⟨W, s, R, e, ok, ats, h, fin⟩ := h
    refine ⟨W, s, _, e, ok, ats, h, fun o W1 v q g1 ok1 at1 => ?_⟩
    obtain ⟨n, rfl, q1⟩ := onOwn_el q
    obtain ⟨xs, ex, q2⟩ := onO_el q1
    obtain ⟨rfl, hn⟩ := at1.own_iff
    obtain ⟨u, e1, ⟨us, rfl, hl⟩, e2⟩ := ok1.own _ _ (cel_eq ex) (by intro z; cases z)
    refine ⟨.inl ⟨rfl, _, SqL.of e1⟩, W1, s, _, rfl, ok1, ats.mono g1, q2, fun as W2 vs q3 g2 ok2 at2 => ?_⟩
    obtain ⟨ys, ey, q4⟩ := onO_el q3
    rw [← g2.rho n hn]
    obtain ⟨u, e3, ⟨us2, rfl, hl2⟩, e4⟩ := ok2.own _ _ (cel_eq ey) (by intro z; cases z)
    exact hg W2 n ys as us2 vs R Q ok2 (cel_eq ey) e3 hl2 at2 q4 fun a W3 v q g3 ok3 at3 => fin a W3 v q (g1.trans (g2.trans g3)) ok3 at3⟩
def gApp : Nat → List A → GC := fun n xs as L R => on1 as fun a => xs.length < sizeLine ∧ R (.d .none) (L.set n (.lst (xs ++ [a])))
theorem g_app {apos cpos : Pos} (ho : GE X o go) (ha : GA X (e :: es) gs) (hbase : attributeBase o "append" X.env (eval o X.env) = eval o X.env := by rfl)
    (hfew : ((backTo cpos (starEach (e :: es) X.env)).all (fun x => !x.1) && (backToKw cpos (keywordEach [] X.env)).all (fun x => x.1.isSome)
      && decide ((e :: es).length + ([] : List Keyword).length + (if ([] : List Keyword).isEmpty then 0 else 1) < 30)) = true := by rfl)
    (hline : (apos.endLine == cpos.line) = true := by rfl) (hs : starEach (e :: es) X.env = (false, eval e X.env) :: starEach es X.env := by rfl) (hplain : (backTo cpos (starEach es X.env)).any (·.1) = false := by rfl) :
    GE X (.Call (.Attribute o "append" apos) (e :: es) [] cpos) (gMl go gs gApp) :=
  g_ml PySem.F.slot_list_append PySem.F.type_list_append mt_append (fun W n xs as us vs R Q ok hn hH hl ha h fin => by
    obtain ⟨a, ea, hz, h1⟩ := on1_el h
    subst ea
    obtain ⟨v, rfl, at1⟩ := ha.one
    exact ⟨_, us, v, rfl, rfl, hH, by rw [← hl.length]; exact hz, fin _ (W.put n (.lst (xs ++ [a])) (.lst (us ++ [v]))) _ h1 (Wd.put_grow ok hn (by intro z; cases z) _ _) (Wd.put_ok ok hn (by intro z; cases z) ⟨_, rfl, hl.append (.cons at1 .nil)⟩) (.d .non)⟩) ho ha hbase hfew hline hs hplain
/-- a list that is no script -/
def plOf (L : Lo) : A → Option (List A)
  | .d (.list ds) => some (ds.map .d)
  | .own n => cel L n
  | _ => none
theorem pl_at {K : PySem.W.Frag} {W : Wd} {a : A} {as : List A} {v : V} (h : At K W a v) (ok : W.Ok K) (e : plOf W.L a = some as) : ∃ p vs, v = .ref p ∧ W.H p = some (.lst vs) ∧ AtL K W as vs := by
  cases h with
  | d q =>
    cases q with
    | lst e1 l => cases e; exact ⟨_, _, rfl, ok.base _ _ e1, .of_ds l⟩
    | tup e1 l => cases e
    | grp e1 z l => cases e
    | non => cases e
    | bl _ => cases e
    | int _ => cases e
    | str _ => cases e
  | @own n hn =>
    obtain ⟨u, e2, ⟨vs, rfl, q⟩, _⟩ := ok.own _ _ (cel_eq e) (by intro z; cases z)
    exact ⟨_, vs, rfl, e2, q⟩
  | tup e1 q => cases e
  | scr _ => cases e
  | raw _ => cases e
def gExt : Nat → List A → GC := fun n xs as L R => on1 as fun a => onO (plOf L a) fun ys => xs.length + ys.length ≤ sizeLine ∧ R (.d .none) (L.set n (.lst (xs ++ ys)))
theorem g_ext {apos cpos : Pos} (ho : GE X o go) (ha : GA X (e :: es) gs) (hbase : attributeBase o "extend" X.env (eval o X.env) = eval o X.env := by rfl)
    (hfew : ((backTo cpos (starEach (e :: es) X.env)).all (fun x => !x.1) && (backToKw cpos (keywordEach [] X.env)).all (fun x => x.1.isSome)
      && decide ((e :: es).length + ([] : List Keyword).length + (if ([] : List Keyword).isEmpty then 0 else 1) < 30)) = true := by rfl)
    (hline : (apos.endLine == cpos.line) = true := by rfl) (hs : starEach (e :: es) X.env = (false, eval e X.env) :: starEach es X.env := by rfl) (hplain : (backTo cpos (starEach es X.env)).any (·.1) = false := by rfl) :
    GE X (.Call (.Attribute o "extend" apos) (e :: es) [] cpos) (gMl go gs gExt) :=
  g_ml PySem.F.slot_list_extend PySem.F.type_list_extend mt_extend (fun W n xs as us vs R Q ok hn hH hl ha h fin => by
    obtain ⟨a, ea, h1⟩ := on1_el h
    obtain ⟨ys, ey, hz, h2⟩ := onO_el h1
    subst ea
    obtain ⟨v, rfl, at1⟩ := ha.one
    obtain ⟨p, ws, rfl, hp, hw⟩ := pl_at at1 ok ey
    exact ⟨_, p, us, ws, rfl, rfl, hH, hp, by rw [← hl.length, ← hw.length]; exact hz, fin _ (W.put n (.lst (xs ++ ys)) (.lst (us ++ ws))) _ h2 (Wd.put_grow ok hn (by intro z; cases z) _ _) (Wd.put_ok ok hn (by intro z; cases z) ⟨_, rfl, hl.append hw⟩) (.d .non)⟩) ho ha hbase hfew hline hs hplain

/-! ### zip of two lists, of two tuples: new pairs -/
def zipA (as bs : List A) : List A := List.zipWith (fun a b => mkTup [a, b]) as bs
theorem tpOf_mk (as : List A) : tpOf (mkTup as) = some as := by
  unfold mkTup
  split
  · rename_i ds e
    rw [allD_eq e]; rfl
  · rfl
theorem zipA_len (as bs : List A) : (zipA as bs).length = min as.length bs.length := by simp [zipA]
theorem zipA_get {as bs : List A} {i : Nat} {a b : A} (h1 : as[i]? = some a) (h2 : bs[i]? = some b) : (zipA as bs)[i]? = some (mkTup [a, b]) := by
  unfold zipA
  rw [List.getElem?_zipWith, h1, h2]
/-- a pair laid at T -/
theorem pair_at {K : PySem.W.Frag} {W : Wd} {a b : A} {x y : V} {T : Addr} (ok : W.Ok K) (hT : W.H T = none) (ha : At K W a x) (hb : At K W b y) : ∃ W2 : Wd, W2.H = upd W.H T (.tup [x, y]) ∧ W2.L = W.L ∧ Grow W W2 ∧ W2.Ok K ∧ At K W2 (mkTup [a, b]) (.ref T) :=
  ⟨W.frz T (.tup [x, y]), rfl, rfl, Wd.frz_grow ok hT _, Wd.frz_ok ok hT _, tup_at (.cons ha (.cons hb .nil)) ok hT⟩
theorem lt_min {n a b : Nat} (h : n < min a b) : n < a ∧ n < b := by omega
theorem itok_zipL {K : PySem.W.Frag} {W : Wd} {x y : A} {u v : V} {as bs : List A} {p q : Addr} (hu : At K W x u) (hv : At K W y v) (ep : u = .ref p) (eq : v = .ref q) : ItOk K W (zipA as bs) (fun L => lsOf L x = some as ∧ lsOf L y = some bs) (Itz K p q) where
  go := fun i W1 g1 ok1 hc hi => by
    rw [zipA_len] at hi
    obtain ⟨h1, h2⟩ := lt_min hi
    obtain ⟨p2, us, e1, hq1, hl1⟩ := ls_at (hu.mono g1) ok1 hc.1
    obtain ⟨q2, vs, e2, hq2, hl2⟩ := ls_at (hv.mono g1) ok1 hc.2
    rw [ep] at e1; cases e1
    rw [eq] at e2; cases e2
    obtain ⟨a, ea, _⟩ := hl1.get (List.getElem?_eq_getElem h1)
    obtain ⟨b, eb, _⟩ := hl2.get (List.getElem?_eq_getElem h2)
    exact ⟨us, vs, a, b, hq1, hq2, ea, eb⟩
  stop := fun W1 g1 ok1 hc => by
    obtain ⟨p2, us, e1, hq1, hl1⟩ := ls_at (hu.mono g1) ok1 hc.1
    obtain ⟨q2, vs, e2, hq2, hl2⟩ := ls_at (hv.mono g1) ok1 hc.2
    rw [ep] at e1; cases e1
    rw [eq] at e2; cases e2
    refine ⟨us, vs, hq1, hq2, ?_⟩
    rw [← hl1.length, ← hl2.length, zipA_len]; omega
  yld := fun i W1 z H' g1 ok1 hc hi hy => by
    rw [zipA_len] at hi
    obtain ⟨h1, h2⟩ := lt_min hi
    obtain ⟨p2, us, e1, hq1, hl1⟩ := ls_at (hu.mono g1) ok1 hc.1
    obtain ⟨q2, vs, e2, hq2, hl2⟩ := ls_at (hv.mono g1) ok1 hc.2
    rw [ep] at e1; cases e1
    rw [eq] at e2; cases e2
    obtain ⟨a, ea, aa⟩ := hl1.get (List.getElem?_eq_getElem h1)
    obtain ⟨b, eb, ab⟩ := hl2.get (List.getElem?_eq_getElem h2)
    obtain ⟨T, x1, y1, rfl, hT, rfl, f1, f2⟩ := hy
    have z1 := f1 us hq1
    have z2 := f2 vs hq2
    rw [ea] at z1; cases z1
    rw [eb] at z2; cases z2
    obtain ⟨W2, w1, w2, w3, w4, w5⟩ := pair_at ok1 hT aa ab
    exact ⟨W2, _, zipA_get (List.getElem?_eq_getElem h1) (List.getElem?_eq_getElem h2), w1, w2, w3, w4, w5⟩
theorem itok_zipT {K : PySem.W.Frag} {W : Wd} {as bs : List A} {us vs : List V} {p q : Addr} (hp : SqT K W.B p us) (hq : SqT K W.B q vs) (hu : AtL K W as us) (hv : AtL K W bs vs) : ItOk K W (zipA as bs) (fun _ => True) (RZ.ItzT K p q) where
  go := fun i W1 g1 ok1 hc hi => by
    rw [zipA_len] at hi
    obtain ⟨h1, h2⟩ := lt_min hi
    obtain ⟨a, ea, _⟩ := hu.get (List.getElem?_eq_getElem h1)
    obtain ⟨b, eb, _⟩ := hv.get (List.getElem?_eq_getElem h2)
    exact ⟨us, vs, a, b, sqT_mono ok1.base (sqT_mono g1.base hp), sqT_mono ok1.base (sqT_mono g1.base hq), ea, eb⟩
  stop := fun W1 g1 ok1 hc => by
    refine ⟨us, vs, sqT_mono ok1.base (sqT_mono g1.base hp), sqT_mono ok1.base (sqT_mono g1.base hq), ?_⟩
    rw [← hu.length, ← hv.length, zipA_len]; omega
  yld := fun i W1 z H' g1 ok1 hc hi hy => by
    rw [zipA_len] at hi
    obtain ⟨h1, h2⟩ := lt_min hi
    obtain ⟨a, ea, aa⟩ := (hu.mono g1).get (List.getElem?_eq_getElem h1)
    obtain ⟨b, eb, ab⟩ := (hv.mono g1).get (List.getElem?_eq_getElem h2)
    obtain ⟨T, x1, y1, rfl, hT, rfl, f1, f2⟩ := hy
    have z1 := f1 us (sqT_mono ok1.base (sqT_mono g1.base hp))
    have z2 := f2 vs (sqT_mono ok1.base (sqT_mono g1.base hq))
    rw [ea] at z1; cases z1
    rw [eb] at z2; cases z2
    obtain ⟨W2, w1, w2, w3, w4, w5⟩ := pair_at ok1 hT aa ab
    exact ⟨W2, _, zipA_get (List.getElem?_eq_getElem h1) (List.getElem?_eq_getElem h2), w1, w2, w3, w4, w5⟩
/-- of two lists; of two tuples -/
def gIZL (gs : GTA) : GTI := fun s L R => gs s L fun as L1 => on2 as fun x y => onO (lsOf L1 x) fun xs => onO (lsOf L1 y) fun ys => R (zipA xs ys) (fun L2 => lsOf L2 x = some xs ∧ lsOf L2 y = some ys) L1
def gIZT (gs : GTA) : GTI := fun s L R => gs s L fun as L1 => on2 as fun x y => onO (tpOf x) fun xs => onO (tpOf y) fun ys => R (zipA xs ys) (fun _ => True) L1
theorem i_zipL {p tpos : Pos} {elts : List Expr} {kk : Nat} (hg : Gl X "zip") (hm : X.mg "zip" = none) (ha : GA X [a, b] gs) (hs : starEach [a, b] X.env = (false, eval a X.env) :: starEach [b] X.env := by rfl) (hpl : (backTo pos (starEach [b] X.env)).any (·.1) = false := by rfl) :
    GI X (.Tuple elts kk tpos) (.Call (.Name "zip" p) [a, b] [] pos) (gIZL gs) := ⟨pi_imp (RZ.pi_zipA hg hm ha.pa hs hpl) fun σ H Q h => by
  obtain ⟨W, s, R, e, ok, ats, h, fin⟩ := h
  refine ⟨W, s, _, e, ok, ats, h, fun as W1 vs q g1 ok1 at1 => ?_⟩
  obtain ⟨x, y, ea, q1⟩ := on2_el q
  obtain ⟨xs, ex, q2⟩ := onO_el q1
  obtain ⟨ys, ey, q3⟩ := onO_el q2
  subst ea
  obtain ⟨u, v, rfl, hu, hv⟩ := at1.two
  obtain ⟨p1, us, e1, hq1, hl1⟩ := ls_at hu ok1 ex
  obtain ⟨p2, ws, e2, hq2, hl2⟩ := ls_at hv ok1 ey
  refine ⟨p1, p2, us, ws, by rw [e1, e2], .inl ⟨hq1, hq2, fin _ _ W1 _ q3 g1 ok1 (itok_zipL hu hv e1 e2)⟩⟩⟩
theorem i_zipT {p tpos : Pos} {elts : List Expr} {kk : Nat} (hg : Gl X "zip") (hm : X.mg "zip" = none) (ha : GA X [a, b] gs) (hs : starEach [a, b] X.env = (false, eval a X.env) :: starEach [b] X.env := by rfl) (hpl : (backTo pos (starEach [b] X.env)).any (·.1) = false := by rfl) :
    GI X (.Tuple elts kk tpos) (.Call (.Name "zip" p) [a, b] [] pos) (gIZT gs) := ⟨pi_imp (RZ.pi_zipA hg hm ha.pa hs hpl) fun σ H Q h => by
  obtain ⟨W, s, R, e, ok, ats, h, fin⟩ := h
  refine ⟨W, s, _, e, ok, ats, h, fun as W1 vs q g1 ok1 at1 => ?_⟩
  obtain ⟨x, y, ea, q1⟩ := on2_el q
  obtain ⟨xs, ex, q2⟩ := onO_el q1
  obtain ⟨ys, ey, q3⟩ := onO_el q2
  subst ea
  obtain ⟨u, v, rfl, hu, hv⟩ := at1.two
  obtain ⟨p1, us, e1, hq1, hl1⟩ := tp_at hu ex
  obtain ⟨p2, ws, e2, hq2, hl2⟩ := tp_at hv ey
  refine ⟨p1, p2, us, ws, by rw [e1, e2], .inr ⟨sqT_mono ok1.base hq1, sqT_mono ok1.base hq2, fin _ _ W1 _ q3 g1 ok1 (itok_zipT hq1 hq2 hl1 hl2)⟩⟩⟩

/-! ### sequences joined, repeated, cut -/
/-- lists: a new one, frozen -/
def gCatL : G2 := fun a b L R => onO (plOf L a) fun xs => onO (plOf L b) fun ys => xs.length + ys.length ≤ sizeLine ∧ ∃ ds : List D, xs ++ ys = ds.map .d ∧ R (.d (.list ds)) L
theorem o_catL : OpG X (binaryOp .Add) gCatL := opr_imp op_cat fun x y H Q h => by
    obtain ⟨W, a, b, R, e, ok, a1, a2, h, fin⟩ := h
    obtain ⟨xs, ex, h1⟩ := onO_el h
    obtain ⟨ys, ey, hz, ds, ed, h2⟩ := onO_el h1
    subst e
    obtain ⟨p, us, rfl, hp, hl⟩ := pl_at a1 ok ex
    obtain ⟨q, vs, rfl, hq, hl2⟩ := pl_at a2 ok ey
    have hl3 := hl.append hl2
    rw [ed] at hl3
    exact ⟨p, q, us, vs, rfl, rfl, hp, hq, by rw [← hl.length, ← hl2.length]; exact hz, fun l hl' => fin _ (W.frz l (.lst (us ++ vs))) _ h2 (Wd.frz_grow ok hl' _) (Wd.frz_ok ok hl' _) (lst_at hl3.ds ok hl')⟩
/-- xs * k, frozen -/
def gRepL : G2 := fun a b L R => onO (plOf L a) fun xs => onI b fun k => (-(2 ^ 63) ≤ k ∧ k < 2 ^ 63 ∧ xs.length * k.toNat ≤ sizeLine) ∧ ∃ ds : List D, xs = ds.map .d ∧ R (.d (.list (List.replicate k.toNat ds).flatten)) L
theorem rep_dxl {B : Hp} {us : List V} {ds : List D} (h : DXL B us ds) : ∀ k : Nat, DXL B (List.replicate k us).flatten (List.replicate k ds).flatten
  | 0 => .nil
  | k + 1 => by
    rw [List.replicate_succ, List.replicate_succ, List.flatten_cons, List.flatten_cons]
    exact h.append (rep_dxl h k)
theorem o_repL : OpG X (binaryOp .Mult) gRepL := opr_imp op_rep fun x y H Q h => by
    obtain ⟨W, a, b, R, e, ok, a1, a2, h, fin⟩ := h
    obtain ⟨xs, ex, h1⟩ := onO_el h
    obtain ⟨k, ek, hz, ds, ed, h2⟩ := onI_el h1
    subst e ed ek
    obtain ⟨p, us, rfl, hp, hl⟩ := pl_at a1 ok ex
    exact ⟨p, k, us, rfl, a2.int, hp, hz.1, hz.2.1, by rw [← hl.length]; exact hz.2.2, fun l hl' => fin _ (W.frz l (.lst (List.replicate k.toNat us).flatten)) _ h2 (Wd.frz_grow ok hl' _) (Wd.frz_ok ok hl' _) (lst_at (rep_dxl hl.ds _) ok hl')⟩
/-- tuples, frozen; the answer a plain one (neither is empty) -/
def tdOf : A → Option (List D)
  | .d (.tuple ds) => some ds
  | .d (.grp ds) => some ds
  | _ => none
theorem td_at {K : PySem.W.Frag} {W : Wd} {a : A} {ds : List D} {v : V} (h : At K W a v) (e : tdOf a = some ds) : ∃ p vs, v = .ref p ∧ SqT K W.B p vs ∧ DXL W.B vs ds := by
  cases h with
  | d q =>
    cases q with
    | tup e1 l => cases e; exact ⟨_, _, rfl, SqT.of e1, l⟩
    | grp e1 z l => cases e; exact ⟨_, _, rfl, .inl (.inr ⟨_, e1⟩), l⟩
    | lst e1 l => cases e
    | non => cases e
    | bl _ => cases e
    | int _ => cases e
    | str _ => cases e
  | own _ => cases e
  | tup e1 q => cases e
  | scr _ => cases e
  | raw _ => cases e
/-- t + (x,): the left may be empty if the right one is a plain tuple -/
def gCatT : G2 := fun a b L R => onO (tdOf a) fun xs => match b with
  | .d (.tuple ys) => xs.length + ys.length ≤ sizeLine ∧ ys ≠ [] ∧ R (.d (.tuple (xs ++ ys))) L
  | _ => False
theorem o_catT : OpG X (binaryOp .Add) gCatT := opr_imp op_catA fun x y H Q h => by
    obtain ⟨W, a, b, R, e, ok, a1, a2, h, fin⟩ := h
    obtain ⟨xs, ex, h1⟩ := onO_el h
    subst e
    split at h1
    · rename_i ys
      obtain ⟨hz, hne, h2⟩ := h1
      obtain ⟨p, us, rfl, hp, hl⟩ := td_at a1 ex
      obtain ⟨q, vs, rfl, hq, hl2⟩ := a2.tpl
      have hvne : vs ≠ [] := fun z => hne (by
        subst z
        cases hl2; rfl)
      refine ⟨p, q, us, vs, rfl, rfl, sqT_mono ok.base hp, SqT.of (ok.base _ _ hq), by rw [hl.length, hl2.length]; exact hz, fun z => ?_, fun _ z => (hvne z).elim, fun _ _ l hl' => ?_⟩
      · subst z
        cases hl
        exact fin _ W _ h2 Grow.refl ok (.d (.tup hq hl2))
      · exact fin _ (W.frz l (.tup (us ++ vs))) _ h2 (Wd.frz_grow ok hl' _) (Wd.frz_ok ok hl' _) (.d (.tup upd_same (DXL.mono (Wd.frz_grow ok hl' _).base _ _ (hl.append hl2))))
    · exact h1.elim
def gRepT : G2 := fun a b L R => onO (tdOf a) fun xs => onI b fun k => (xs ≠ [] ∧ 2 ≤ k ∧ k ≤ 1000 ∧ xs.length ≤ 1000) ∧ R (.d (.tuple (List.replicate k.toNat xs).flatten)) L
theorem o_repT : OpG X (binaryOp .Mult) gRepT := opr_imp op_repT fun x y H Q h => by
    obtain ⟨W, a, b, R, e, ok, a1, a2, h, fin⟩ := h
    obtain ⟨xs, ex, h1⟩ := onO_el h
    obtain ⟨k, ek, ⟨z1, z2, z3, z4⟩, h2⟩ := onI_el h1
    subst e ek
    obtain ⟨p, us, rfl, hp, hl⟩ := td_at a1 ex
    exact ⟨p, k, us, rfl, a2.int, sqT_mono ok.base hp, (fun z => z1 (by subst z; cases hl; rfl)), z2, z3, by rw [hl.length]; exact z4, fun l hl' => fin _ (W.frz l (.tup (List.replicate k.toNat us).flatten)) _ h2 (Wd.frz_grow ok hl' _) (Wd.frz_ok ok hl' _) (.d (.tup upd_same (DXL.mono (Wd.frz_grow ok hl' _).base _ _ (rep_dxl hl _))))⟩
/-- tuple(range(n)), strong or plain -/
def ints0 (n : Nat) : List D := (List.range n).map fun i => .int (i : Nat)
theorem rg_dxl {B : Hp} (n : Int) : DXL B (rgV 0 n) (ints0 n.toNat) := by
  unfold rgV ints0
  rw [show (n - 0).toNat = n.toNat by rw [Int.sub_zero]]
  generalize List.range n.toNat = l
  induction l with
  | nil => exact .nil
  | cons i l ih =>
    refine .cons ?_ ih
    show DX B (V.int (0 + ((i : Nat) : Int))) (D.int ((i : Nat) : Int))
    rw [Int.zero_add]
    exact .int _
def gTupRg (ga : GTE) : GTE := fun s L R => ga s L fun a L1 => onI a fun n => n ≤ 1000000 ∧ -1000000 ≤ n ∧ R (.d (.tuple (ints0 n.toNat))) L1
theorem g_tupRg {p p2 pos2 : Pos} (hc : X.calm = true) (hg : Gl X "tuple") (hm : X.mg "tuple" = none) (hg2 : Gl X "range") (hm2 : X.mg "range" = none) (ha : GE X a ga)
    (he : ∀ {ta : TE}, PE X a ta → PRg X (.Call (.Name "range" p2) [a] [] pos2) (tRg1 ta)) (na : starEach [.Call (.Name "range" p2) [a] [] pos2] X.env = (false, eval (.Call (.Name "range" p2) [a] [] pos2) X.env) :: starEach [] X.env := by rfl) :
    GE X (.Call (.Name "tuple" p) [.Call (.Name "range" p2) [a] [] pos2] [] pos) (gTupRg ga) :=
  ⟨pe_imp (pe_tupRg hc hg hm (he ha.pe) na) fun σ H Q h => by
    obtain ⟨W, s, R, e, ok, ats, h, fin⟩ := h
    refine ⟨W, s, _, e, ok, ats, h, fun a W1 v q g1 ok1 at1 => ?_⟩
    obtain ⟨n, en, h1, h2, q1⟩ := onI_el q
    subst en
    refine ⟨n, at1.int, ⟨by omega, by omega, by omega, by omega, by omega⟩, fun l hl => ?_⟩
    exact fin _ (W1.frz l (.tup (rgV 0 n))) _ q1 (g1.trans (Wd.frz_grow ok1 hl _)) (Wd.frz_ok ok1 hl _) (.d (.tup upd_same (rg_dxl n)))⟩
end
end GL
namespace GL
open PySem PySem.Spec L2
theorem blk_by {X : Cx} {scope : Scope} {own : List (Str × Nat)} (h : blkC X.N X.env.scope scope own = true) : BlkOk X.N X.env.scope scope own := blkOk_by h
theorem hu65 {X : Cx} {k : Nat} (hr : Room k X.A) : X.A.units + 65 < cLine := by have := hr.un; omega
/-- the law's state -/
abbrev stA (ns : List Int) (c cell : Int) : AO := .lst [.scr ns, .d (.int c), .d (.int cell)]
/-- a draw -/
def sp_law_take : ASp := fun as L R _ => ∃ ns c cell size, as = [.own 0, .d (.int size)] ∧ L = [stA ns c cell] ∧ 0 < size ∧ size < 1073741824 ∧ ∀ r c' cell', 0 ≤ r → r < size → R (.d (.int r)) [stA ns c' cell']
theorem scr_item {L : Lo} {ns : List Int} {i : Int} (h0 : 0 ≤ i) (h1 : i < ns.length) : ∃ v, itemA L (.scr ns) (.d (.int i)) = some (.d (.int v)) := by
  obtain ⟨j, rfl⟩ : ∃ j : Nat, i = j := ⟨i.toNat, by omega⟩
  have hj : j < ns.length := by omega
  refine ⟨ns[j], ?_⟩
  show atI (ns.map fun i => A.d (.int i)) (j : Int) = _
  exact atI_nat (by rw [List.getElem?_map, List.getElem?_eq_getElem hj]; rfl)
theorem scr_len (ns : List Int) : (ns.map fun i => A.d (.int i)).length = ns.length := by simp
end GL

namespace GL
open PySem PySem.Spec L2

/-! ### short forms -/
abbrev nts (ns : List Int) : List D := ns.map D.int
theorem nts_len (ns : List Int) : (nts ns).length = ns.length := by simp [nts]
theorem mapd_get {ds : List D} {i : Nat} {a : A} (h : (ds.map A.d)[i]? = some a) : ∃ d, ds[i]? = some d ∧ a = .d d := by
  rw [List.getElem?_map] at h
  cases q : ds[i]? with
  | none => rw [q] at h; cases h
  | some d => rw [q] at h; cases h; exact ⟨d, rfl, rfl⟩
theorem nts_get {ns : List Int} {i : Nat} {a : A} (h : ((nts ns).map A.d)[i]? = some a) : ∃ n, ns[i]? = some n ∧ a = .d (.int n) := by
  obtain ⟨d, h1, rfl⟩ := mapd_get h
  rw [show nts ns = ns.map D.int from rfl, List.getElem?_map] at h1
  cases q : ns[i]? with
  | none => rw [q] at h1; cases h1
  | some n => rw [q] at h1; cases h1; exact ⟨n, rfl, rfl⟩
theorem td_cases {a : A} {ds : List D} (h : tdOf a = some ds) : a = .d (.tuple ds) ∨ a = .d (.grp ds) := by
  unfold tdOf at h
  split at h
  · cases h; exact .inl rfl
  · cases h; exact .inr rfl
  · cases h
theorem tp_of_td {a : A} {ds : List D} (h : tdOf a = some ds) : tpOf a = some (ds.map .d) := by
  rcases td_cases h with rfl | rfl <;> rfl
theorem sq_of_td {L : Lo} {a : A} {ds : List D} (h : tdOf a = some ds) : sqOf L a = some (ds.map .d) := by
  rcases td_cases h with rfl | rfl <;> rfl
theorem onO_of {α : Type} {o : Option α} {a : α} {k : α → Prop} (h : o = some a) (q : k a) : onO o k := by rw [h]; exact q
/-- an item of known data -/
theorem item_d {L : Lo} {a : A} {ds : List D} {j : Nat} {d : D} (h : sqOf L a = some (ds.map .d)) (e : ds[j]? = some d) : itemA L a (.d (.int (j : Int))) = some (.d d) := by
  unfold itemA
  rw [h]
  exact atI_nat (by rw [List.getElem?_map, e]; rfl)
theorem item_int {L : Lo} {a : A} {ns : List Int} {j : Nat} {n : Int} (h : sqOf L a = some ((nts ns).map .d)) (e : ns[j]? = some n) : itemA L a (.d (.int (j : Int))) = some (.d (.int n)) :=
  item_d h (by rw [show nts ns = ns.map D.int from rfl, List.getElem?_map, e]; rfl)
/-- an item by an int that lies in the bounds -/
theorem item_int' {L : Lo} {a : A} {ns : List Int} {i : Int} (h : sqOf L a = some ((nts ns).map .d)) (h0 : 0 ≤ i) (h1 : i < ns.length) : itemA L a (.d (.int i)) = some (.d (.int (ns.getD i.toNat 0))) := by
  obtain ⟨j, rfl⟩ : ∃ j : Nat, i = j := ⟨i.toNat, by omega⟩
  have hj : j < ns.length := by omega
  exact item_int h (by simp [hj])
theorem idx_at {g : List Int} {m : Int} (h : m ∈ g) : g[g.idxOf m]? = some m ∧ ∀ k, k < g.idxOf m → g[k]? ≠ some m := by
  induction g with
  | nil => cases h
  | cons x g ih =>
    by_cases hx : x = m
    · subst hx
      have e : (x :: g).idxOf x = 0 := by simp [List.idxOf_cons]
      rw [e]
      exact ⟨rfl, fun k hk => absurd hk (Nat.not_lt_zero k)⟩
    · have e : (x :: g).idxOf m = g.idxOf m + 1 := by
        have hb : (x == m) = false := by simpa using hx
        simp [List.idxOf_cons, hb]
      obtain ⟨h1, h2⟩ := ih ((List.mem_cons.mp h).resolve_left (fun z => hx z.symm))
      rw [e]
      refine ⟨by simpa using h1, fun k hk => ?_⟩
      cases k with
      | zero => simpa using hx
      | succ k => simpa using h2 k (by omega)
/-- a comprehension whose elements are reckoned, one by one -/
theorem lcMap {α : Type} {items : List A} {cond : Lo → Prop} {b0 : Nat} {t : GTG} {ge : GTE} {vs : List Nat} {s : Sl} {L : Lo} {R : KA} (xs : List α) (it : α → A) (F : α → D) (hit : items = xs.map it) (hc : cond L) (hL : b0 ≤ L.length) (hz : xs.length ≤ sizeLine)
    (turn : ∀ (i : Nat) (x : α), xs[i]? = some x → ∀ Q : KA, Q (.d (F x)) L → t (it x) (wipA s vs) L fun s2 L2 => ge s2 L2 Q) (done : R (.d (.list (xs.map F))) L) : lcG items cond b0 t gYes ge vs s L R := by
  refine ⟨fun i acc L' => acc = (xs.take i).map F ∧ L' = L, ⟨by simp, rfl⟩, ?_⟩
  rintro i acc L' ⟨rfl, rfl⟩ hi
  subst hit
  rw [List.length_map] at hi
  refine ⟨hc, hL, fun a ea => ?_, fun e => ?_⟩
  · rw [List.getElem?_map] at ea
    cases q : xs[i]? with
    | none => rw [q] at ea; cases ea
    | some x =>
      rw [q] at ea
      cases ea
      have hi2 : i < xs.length := (List.getElem?_eq_some_iff.mp q).1
      have hh := turn i x q (fun y L4 => ∃ z, y = .d z ∧ ((xs.take i).map F).length < sizeLine ∧ b0 ≤ L4.length ∧ (xs.take i).map F ++ [z] = (xs.take (i + 1)).map F ∧ L4 = L') ⟨_, rfl, by rw [List.length_map, List.length_take]; omega, hL, by rw [List.take_add_one, q, List.map_append]; rfl, rfl⟩
      have e2 : ∀ (Y N : Prop), br true Y N = Y := fun Y N => propext ⟨fun h => h.1 rfl, fun h => ⟨fun _ => h, fun z => by cases z⟩⟩
      simp only [gYes, e2]
      exact hh
  · have e' : i = xs.length := by rw [e]; simp
    subst e'
    rw [List.take_length]
    exact done
/-- .. with a test -/
theorem lcFilt {α : Type} {items : List A} {cond : Lo → Prop} {b0 : Nat} {t : GTG} {tt : GTT} {ge : GTE} {vs : List Nat} {s : Sl} {L : Lo} {R : KA} (xs : List α) (it : α → A) (keep : α → Bool) (F : α → D) (hit : items = xs.map it) (hc : cond L) (hL : b0 ≤ L.length) (hz : xs.length ≤ sizeLine)
    (turn : ∀ (i : Nat) (x : α), xs[i]? = some x → ∀ (Qy : KA) (Qn : Lo → Prop), (keep x = true → Qy (.d (F x)) L) → (keep x = false → Qn L) → t (it x) (wipA s vs) L fun s2 L2 => tt s2 L2 fun k L3 => br k (ge s2 L3 Qy) (Qn L3))
    (done : R (.d (.list ((xs.filter keep).map F))) L) : lcG items cond b0 t tt ge vs s L R := by
  refine ⟨fun i acc L' => acc = ((xs.take i).filter keep).map F ∧ L' = L, ⟨by simp, rfl⟩, ?_⟩
  rintro i acc L' ⟨rfl, rfl⟩ hi
  subst hit
  rw [List.length_map] at hi
  refine ⟨hc, hL, fun a ea => ?_, fun e => ?_⟩
  · rw [List.getElem?_map] at ea
    cases q : xs[i]? with
    | none => rw [q] at ea; cases ea
    | some x =>
      rw [q] at ea
      cases ea
      have hi2 : i < xs.length := (List.getElem?_eq_some_iff.mp q).1
      have hle : (((xs.take i).filter keep).map F).length < sizeLine := by
        have := List.length_filter_le keep (xs.take i)
        rw [List.length_take] at this
        rw [List.length_map]; omega
      refine turn i x q _ _ (fun hk => ⟨_, rfl, hle, hL, ?_, rfl⟩) (fun hk => ⟨hL, ?_, rfl⟩)
      · rw [List.take_add_one, q, List.filter_append, List.map_append]
        simp [hk]
      · rw [List.take_add_one, q, List.filter_append, List.map_append]
        simp [hk]
  · have e' : i = xs.length := by rw [e]; simp
    subst e'
    rw [List.take_length]
    exact done
end GL
namespace GL
open PySem PySem.Spec L2
section
variable {X : Cx} {e : Expr} {es : List Expr} {pos : Pos} {gs : GTA} {ga : GTE}
/-- a tuple display, strong -/
theorem pe_tupS {t : TA} {x1} (h : PA X es t) : PE X (.Tuple es x1 pos) (fun σ H Q => t σ H fun xs H1 => xs.length ≤ sizeLine ∧ ∀ p o, H1 p = none → o.dict = none → Q (.ref p) (upd H1 p (.frz o (.tup xs)))) := by
  refine ⟨fun pins s σ H Q I hq => ?_⟩
  refine wpAny_Tuple_spliced (thn (h.run pos pins s σ H _ I hq) fun us s1 ⟨xs, H1, I1, r, z, q⟩ => ⟨by rw [← r.length]; exact z, ?_⟩)
  have hf : H1 s1.heap.objs.size = none := I1.hok.fresh (Nat.le_refl _)
  refine ⟨.ref s1.heap.objs.size, upd H1 s1.heap.objs.size (.frz { cls := .type "tuple", data := .seq us.toArray } (.tup xs)), I1.laid (t' := s1.toks) (fun b u e => Heap.get?_push_of_some _ e) (Nat.le_refl _) ?_, rfl, q _ _ hf rfl⟩
  exact ⟨Heap.get?_push_size _ rfl, z, us, r, ⟨_, Heap.get?_push_size _ rfl, rfl, _, rfl⟩⟩
def gTupSd (g : GTA) : GTE := fun s L R => g s L fun as L1 => as.length ≤ sizeLine ∧ ∃ ds, allD as = some ds ∧ R (.d (.grp ds)) L1
theorem g_tupS {x1} (h : GA X es gs) : GE X (.Tuple es x1 pos) (gTupSd gs) :=
  ⟨pe_imp (pe_tupS h.pa) fun σ H Q h => by
    obtain ⟨W, s, R, e, ok, ats, h, fin⟩ := h
    exact ⟨W, s, _, e, ok, ats, h, fun as W1 vs q g1 ok1 at1 => by
      obtain ⟨z, ds, ed, q⟩ := q
      rw [allD_eq ed] at at1 z
      exact ⟨by rw [← AtL.length at1]; exact z, fun p o hp ho => fin _ (W1.frz p (.frz o (.tup vs))) _ q (g1.trans (Wd.frz_grow ok1 hp _)) (Wd.frz_ok ok1 hp _) (.d (.grp upd_same ho (DXL.mono (Wd.frz_grow ok1 hp _).base _ _ at1.ds)))⟩⟩⟩
/-- -a -/
def gNeg (ga : GTE) : GTE := fun s L R => ga s L fun a L1 => onI a fun i => R (.d (.int (-i))) L1
theorem g_neg (h : GE X e ga) : GE X (.UnaryOp .USub e pos) (gNeg ga) :=
  ⟨pe_imp (pe_un un_neg h.pe) fun σ H Q h => by
    obtain ⟨W, s, R, e, ok, ats, h, fin⟩ := h
    refine ⟨W, s, _, e, ok, ats, h, fun a W1 v q g1 ok1 at1 => ?_⟩
    obtain ⟨i, ei, q⟩ := onI_el q
    subst ei
    exact ⟨i, at1.int, fin _ W1 _ q g1 ok1 (.d (.int _))⟩⟩
end
/-! ### data and equality -/
theorem pyL_nts (ns : List Int) : D.pyL (nts ns) = ns.map PyData.int := by
  induction ns with
  | nil => rfl
  | cons n ns ih => show PyData.int n :: D.pyL (nts ns) = _; rw [ih]; rfl
theorem eqvAll_ints : ∀ a b : List Int, PyData.eqvAll (a.map PyData.int) (b.map PyData.int) = decide (a = b)
  | [], [] => by simp [PyData.eqvAll]
  | [], _ :: _ => by simp [PyData.eqvAll]
  | _ :: _, [] => by simp [PyData.eqvAll]
  | x :: a, y :: b => by
    show PyData.eqvAll (PyData.int x :: a.map PyData.int) (PyData.int y :: b.map PyData.int) = _
    simp only [PyData.eqvAll, PyData.eqv, eqvAll_ints a b]
    by_cases h : x = y
    · subst h; simp
    · simp [h]
theorem eqv_ntsT (a b : List Int) : PyData.eqv (.tuple (D.pyL (nts a))) (.tuple (D.pyL (nts b))) = decide (a = b) := by
  rw [pyL_nts, pyL_nts]
  simp only [PyData.eqv]
  exact eqvAll_ints a b
theorem eqv_ntsL (a b : List Int) : PyData.eqv (.list (D.pyL (nts a))) (.list (D.pyL (nts b))) = decide (a = b) := by
  rw [pyL_nts, pyL_nts]
  simp only [PyData.eqv]
  exact eqvAll_ints a b
theorem lay_ints : ∀ ns : List Int, PyData.canLayAll0 (ns.map PyData.int) = true
  | [] => by simp [PyData.canLayAll0]
  | n :: ns => by simp [PyData.canLayAll0, PyData.canLay0, lay_ints ns]
theorem depth_ints : ∀ ns : List Int, PyData.depthAll (ns.map PyData.int) = 0
  | [] => by simp [PyData.depthAll]
  | n :: ns => by simp [PyData.depthAll, PyData.depth, depth_ints ns]
theorem shp_ntsT (ns : List Int) : SeqAt.shaped (.tuple (D.pyL (nts ns))) = true := by
  rw [pyL_nts]
  show ((PyData.tuple (ns.map PyData.int)).canLay0 && decide ((PyData.tuple (ns.map PyData.int)).depth ≤ 64)) = true
  simp only [PyData.canLay0, PyData.depth, lay_ints, depth_ints]
  rfl
theorem shp_ntsL (ns : List Int) : SeqAt.shaped (.list (D.pyL (nts ns))) = true := by
  rw [pyL_nts]
  show ((PyData.list (ns.map PyData.int)).canLay0 && decide ((PyData.list (ns.map PyData.int)).depth ≤ 64)) = true
  simp only [PyData.canLay0, PyData.depth, lay_ints, depth_ints]
  rfl
/-- a tuple of numbers, plain or strong, in a comparison -/
theorem py_of_td {a : A} {ns : List Int} (h : tdOf a = some (nts ns)) : ∃ x : D, a = .d x ∧ x.py = .tuple (D.pyL (nts ns)) := by
  rcases td_cases h with rfl | rfl
  · exact ⟨_, rfl, rfl⟩
  · exact ⟨_, rfl, rfl⟩
theorem eqT {a b : A} {xs ys : List Int} {L : Lo} {R : KA} (h1 : tdOf a = some (nts xs)) (h2 : tdOf b = some (nts ys)) (h : R (.d (.bool (decide (xs = ys)))) L) : gEqD a b L R := by
  obtain ⟨x, rfl, e1⟩ := py_of_td h1
  obtain ⟨y, rfl, e2⟩ := py_of_td h2
  exact ⟨x, y, .d, .d, by rw [e1]; exact shp_ntsT _, by rw [e2]; exact shp_ntsT _, by rw [e1, e2, eqv_ntsT]; exact h⟩
theorem neT {a b : A} {xs ys : List Int} {L : Lo} {R : KA} (h1 : tdOf a = some (nts xs)) (h2 : tdOf b = some (nts ys)) (h : R (.d (.bool (!decide (xs = ys)))) L) : gNeD a b L R := by
  obtain ⟨x, rfl, e1⟩ := py_of_td h1
  obtain ⟨y, rfl, e2⟩ := py_of_td h2
  exact ⟨x, y, .d, .d, by rw [e1]; exact shp_ntsT _, by rw [e2]; exact shp_ntsT _, by rw [e1, e2, eqv_ntsT]; exact h⟩
def rgI (n : Nat) : List Int := (List.range n).map fun i : Nat => (i : Int)
theorem ints0_eq (n : Nat) : ints0 n = nts (rgI n) := by simp [ints0, rgI, nts]
theorem rgI_mem {n : Nat} {x : Int} : x ∈ rgI n ↔ 0 ≤ x ∧ x < n := by
  unfold rgI
  constructor
  · intro h
    obtain ⟨i, hi, rfl⟩ := List.mem_map.mp h
    have := List.mem_range.mp hi
    omega
  · intro h
    exact List.mem_map.mpr ⟨x.toNat, List.mem_range.mpr (by omega), by omega⟩
theorem rgI_nodup (n : Nat) : (rgI n).Nodup := by
  unfold rgI
  refine List.Pairwise.map _ (fun a b h => ?_) List.nodup_range
  omega
/-! ### the state passed on -/
theorem pass_st {ns : List Int} {c cell : Int} {r : Lo} : PassOk [0] (stA ns c cell :: r) [stA ns c cell] := ⟨rfl, by decide, fun j o e => by
  cases j with
  | zero => simp at e; subst e; exact ⟨(by intro z; cases z), 0, rfl, rfl⟩
  | succ j => simp at e⟩
/-- a draw, taken -/
theorem gdraw {ns : List Int} {c cell size : Int} {r : Lo} {Q : KA} (h1 : 0 < size) (h2 : size < 1073741824) (q : ∀ x c' cell', 0 ≤ x → x < size → Q (.d (.int x)) (stA ns c' cell' :: r)) :
    ∃ asc Lc, [A.own 0, A.d (.int size)] = A.renL (ren [0] (stA ns c cell :: r).length) asc ∧ PassOk [0] (stA ns c cell :: r) Lc ∧ sp_law_take asc Lc (fun a L' => Q (a.ren (ren [0] (stA ns c cell :: r).length)) (mrg [0] (stA ns c cell :: r) L')) (fun _ _ _ => False) := by
  refine ⟨[.own 0, .d (.int size)], [stA ns c cell], rfl, pass_st, ns, c, cell, size, rfl, rfl, h1, h2, fun x c' cell' h3 h4 => ?_⟩
  have e : mrg [0] (stA ns c cell :: r) [stA ns c' cell'] = stA ns c' cell' :: r := by
    show (stA ns c' cell' :: r) ++ [] = _
    rw [List.append_nil]
  show Q (.d (.int x)) (mrg [0] (stA ns c cell :: r) [stA ns c' cell'])
  rw [e]
  exact q x c' cell' h3 h4
/-! ### the law's own start -/
theorem law_start {K : PySem.W.Frag} {asp : ASp} {n : Nat} (h : ∀ (ns : List Int) (R : KA) (Ex : KX), ns.length ≤ n → R (.d (.bool true)) [] → asp [.scr ns] [] R Ex) (H : Hp) (a : Addr) (ns : List Int) (hl : ns.length ≤ n) (hS : SqL K H a (ns.map V.int)) : liftSp K asp [.ref a] H (fun v _ => v = .bl true) fun _ _ _ => False :=
  ⟨⟨fun _ => 0, H, [], H⟩, [.scr ns], fun a _ => a = .d (.bool true), fun _ _ _ => False, rfl, ⟨fun _ _ h => h, fun n o e => by simp at e, fun n m o o' e => by simp at e, fun n h => by simp at h⟩, .cons (.scr hS) .nil, h ns _ _ hl rfl, fun a W' v e _ _ h => by subst e; exact h.bl, fun _ _ _ _ z => z.elim⟩
end GL
namespace GL
theorem brd {p : Prop} [Decidable p] {A B : Prop} (h1 : p → A) (h2 : ¬ p → B) : br (decide p) A B := ⟨fun h => h1 (of_decide_eq_true h), fun h => h2 (of_decide_eq_false h)⟩
theorem brT {A B : Prop} (h : A) : br true A B := ⟨fun _ => h, fun z => by cases z⟩
theorem brF {A B : Prop} (h : B) : br false A B := ⟨fun z => (by cases z), fun _ => h⟩
end GL
namespace GL
open PySem PySem.Spec L2
theorem le_line {n : Nat} (h : n ≤ 1000) : n ≤ sizeLine := Nat.le_trans h (by decide)
theorem ll {n : Nat} (h : Nat.ble n 1000 = true) : n ≤ sizeLine := le_line (Nat.le_of_ble_eq_true h)
end GL
namespace GL
open PySem PySem.Spec L2
theorem eqT_t {a b : List Int} (h : PyData.eqv (.tuple (D.pyL (nts a))) (.tuple (D.pyL (nts b))) = true) : a = b := by rw [eqv_ntsT] at h; exact of_decide_eq_true h
theorem eqT_f {a b : List Int} (h : PyData.eqv (.tuple (D.pyL (nts a))) (.tuple (D.pyL (nts b))) = false) : a ≠ b := by rw [eqv_ntsT] at h; exact of_decide_eq_false h
theorem neT_t {a b : List Int} (h : (!PyData.eqv (.tuple (D.pyL (nts a))) (.tuple (D.pyL (nts b)))) = true) : a ≠ b := by rw [eqv_ntsT] at h; simpa using h
theorem neT_f {a b : List Int} (h : (!PyData.eqv (.tuple (D.pyL (nts a))) (.tuple (D.pyL (nts b)))) = false) : a = b := by rw [eqv_ntsT] at h; simpa using h
theorem eqL_t {a b : List Int} (h : PyData.eqv (.list (D.pyL (nts a))) (.list (D.pyL (nts b))) = true) : a = b := by rw [eqv_ntsL] at h; exact of_decide_eq_true h
theorem eqL_f {a b : List Int} (h : PyData.eqv (.list (D.pyL (nts a))) (.list (D.pyL (nts b))) = false) : a ≠ b := by rw [eqv_ntsL] at h; exact of_decide_eq_false h
theorem neL_t {a b : List Int} (h : (!PyData.eqv (.list (D.pyL (nts a))) (.list (D.pyL (nts b)))) = true) : a ≠ b := by rw [eqv_ntsL] at h; simpa using h
theorem neL_f {a b : List Int} (h : (!PyData.eqv (.list (D.pyL (nts a))) (.list (D.pyL (nts b)))) = false) : a = b := by rw [eqv_ntsL] at h; simpa using h
end GL

/-! walks over lists and tuples in any mix -/
namespace GL
open PySem PySem.Spec L2
def SqB (K : PySem.W.Frag) (H : Hp) (a : Addr) (xs : List V) : Bool → Prop
  | true => SqL K H a xs
  | false => SqT K H a xs
def ItB (h : Heap) (it a : Addr) (i : Nat) : Bool → Prop
  | true => h.IsListIter it a i
  | false => h.IsTupleIter it a i
def CoB (h : Heap) (a : Addr) (items : Array Value) : Bool → Prop
  | true => h.IsList a items
  | false => h.IsTuple a items
def itO (a : Addr) : Bool → Obj
  | true => { cls := .type "list_iterator", data := .fields #[.ref a, .int 0 0] }
  | false => { cls := .type "tuple_iterator", data := .fields #[.ref a, .int 0 0] }
theorem beginsB (a : Addr) (items : Array Value) : ∀ b, Begins (.ref a) (itO a b) fun h => CoB h a items b
  | true => begins_list a items
  | false => begins_tuple a items
theorem drawsB {prog : Program} {w : World} {A : Around} (hh : A.handled = none) (it a : Addr) (hne : a ≠ it) (items : Array Value) : ∀ b, Draws prog w A it [it, a] items.size (fun i v => items[i]? = some v) (fun i h => ItB h it a i b ∧ CoB h a items b)
  | true => Draws.list hh it a hne items
  | false => Draws.tuple hh it a hne items
theorem itB_new {h : Heap} {it a : Addr} : ∀ {b : Bool}, h.get? it = some (itO a b) → ItB h it a 0 b
  | true, e => ⟨_, e, rfl, rfl⟩
  | false, e => ⟨_, e, rfl, rfl⟩
theorem ItB.at' {h h' : Heap} {it a : Addr} {i : Nat} : ∀ {b : Bool}, ItB h it a i b → (∀ o, h.get? it = some o → h'.get? it = some o) → ItB h' it a i b
  | true, ⟨o, e, c, d⟩, k => ⟨o, k o e, c, d⟩
  | false, ⟨o, e, c, d⟩, k => ⟨o, k o e, c, d⟩
theorem ItB.ob {h : Heap} {it a : Addr} {i : Nat} : ∀ {b : Bool}, ItB h it a i b → ∃ o, h.get? it = some o ∧ ∀ v, o.data ≠ .cell v
  | true, ⟨o, e, c, d⟩ => ⟨o, e, fun v q => by rw [d] at q; cases q⟩
  | false, ⟨o, e, c, d⟩ => ⟨o, e, fun v q => by rw [d] at q; cases q⟩
section
variable {X : Cx} {pins : List (Addr × Obj)} {σ : L2.St} {H : Hp} {s : Shared}
theorem seqB (I : Inv X pins σ H s) {a : Addr} {xs : List V} : ∀ {b : Bool}, SqB X.K H a xs b → ∃ its : List Value, Vals xs its ∧ CoB s.heap a its.toArray b ∧ a < s.heap.objs.size
  | true, q => by
    obtain ⟨its, r, p, _⟩ := I.list q
    exact ⟨its, r, p.isList, p.lt⟩
  | false, q => by
    obtain ⟨its, r, p, _⟩ := I.tuple q
    obtain ⟨o, e, _⟩ := id p
    exact ⟨its, r, p, Heap.lt_size e⟩
theorem seqB_inj (I : Inv X pins σ H s) {a : Addr} {xs ys : List V} : ∀ {b : Bool}, SqB X.K H a xs b → SqB X.K H a ys b → xs = ys
  | true, q, q' => I.list_inj q q'
  | false, q, q' => I.tuple_inj q q'
end
/-! ### zip of two -/
def Iz2 (K : PySem.W.Frag) (a b : Addr) (k1 k2 : Bool) : It :=
  ⟨fun i H => ∃ (xs ys : List V) (x y : V), SqB K H a xs k1 ∧ SqB K H b ys k2 ∧ xs[i]? = some x ∧ ys[i]? = some y,
    fun i H v H' => ∃ T x y, v = .ref T ∧ H T = none ∧ H' = upd H T (.tup [x, y]) ∧ (∀ xs, SqB K H a xs k1 → xs[i]? = some x) ∧ ∀ ys, SqB K H b ys k2 → ys[i]? = some y,
    fun i H => ∃ xs ys : List V, SqB K H a xs k1 ∧ SqB K H b ys k2 ∧ i ≤ xs.length ∧ i ≤ ys.length ∧ (i = xs.length ∨ i = ys.length)⟩
theorem turn_z2 {P : Program} {w : World} {K : PySem.W.Frag} {elts : List Expr} {kk : Nat} {tpos : Pos} {a b z TI TO i1 i2 : Addr} (S : ZipSep2 z TI TO i1 i2 [i1, a] [i2, b]) (n1 : a ≠ i1) (n2 : b ≠ i2) (k1 k2 : Bool) :
    Turn P w K (.Tuple elts kk tpos) (Iz2 K a b k1 k2) [z, TI, TO, i1, i2] z (fun i h => IsZip h z TI TO .none ∧ IsTupOf2 h TI (.ref i1) (.ref i2) ∧ (∃ x y, IsTupOf2 h TO x y) ∧ ItB h i1 a i k1 ∧ ItB h i2 b i k2) where
  mem := by simp
  obj := fun i h st c hc => by
    obtain ⟨hz, hTI, ⟨x, y, hTO⟩, h1, h2⟩ := st
    have e' : c = z ∨ c = TI ∨ c = TO ∨ c = i1 ∨ c = i2 := by simpa using hc
    rcases e' with q | q | q | q | q
    · rw [q]; exact ⟨_, hz, fun v q => nomatch q⟩
    · rw [q]; exact ⟨_, hTI, fun v q => nomatch q⟩
    · rw [q]; exact ⟨_, hTO, fun v q => nomatch q⟩
    · rw [q]; exact h1.ob
    · rw [q]; exact h2.ob
  keep := fun i h h' st k => by
    obtain ⟨hz, hTI, ⟨x, y, hTO⟩, h1, h2⟩ := st
    exact ⟨k z (by simp) _ hz, k TI (by simp) _ hTI, ⟨x, y, k TO (by simp) _ hTO⟩, h1.at' fun o q => k i1 (by simp) o q, h2.at' fun o q => k i2 (by simp) o q⟩
  item := by
    intro X hP hw hK hc i pins s σ H E I hf st hg
    subst hP hw hK
    obtain ⟨hz, hTI, ⟨x0, y0, hTO⟩, h1, h2⟩ := st
    obtain ⟨xs, ys, x, y, hqx, hqy, hx, hy⟩ := hg
    obtain ⟨its, rv, p, la⟩ := seqB I hqx
    obtain ⟨its2, rv2, p2, lb⟩ := seqB I hqy
    obtain ⟨u, hu, ru⟩ := rv.get hx
    obtain ⟨u2, hu2, ru2⟩ := rv2.get hy
    have hzl : z < s.heap.objs.size := Heap.lt_size hz
    have hd : X.A.in1.handled = none := I.ok.hd hc
    have e1 := (List.getElem?_eq_some_iff.mp hu).1
    have e2 := (List.getElem?_eq_some_iff.mp hu2).1
    refine wpAny_pyNext_zipD2_item S (drawsB hd i1 a n1 its.toArray k1) (drawsB hd i2 b n2 its2.toArray k2) hz hTI hTO ⟨h1, p⟩ ⟨h2, p2⟩ (by simpa using e1) (by simpa using e2) fun v1 v2 h' tk q1 q2 z' TO' s1' s2' hT hsz hk => ?_
    have q1' : its[i]? = some v1 := by simpa using q1
    have q2' : its2[i]? = some v2 := by simpa using q2
    rw [hu] at q1'; cases q1'
    rw [hu2] at q2'; cases q2'
    refine ⟨_, rfl, wpAny_letOwnedTupleGo_zip (s := { s with heap := h', toks := tk }) z' fun h'' z'' sb => ?_⟩
    have hT2 : h''.get? s.heap.objs.size = some { cls := .type "tuple", data := .seq #[u, u2] } := (sb.2 _ (Nat.ne_of_gt hzl)).trans hT
    have new : ObjOk X.prog X.w (upd H s.heap.objs.size (.tup [x, y])) h'' s.heap.objs.size (.tup [x, y]) :=
      ⟨by show 2 ≤ sizeLine; decide, [u, u2], .cons ru (.cons ru2 .nil), ⟨_, hT2, rfl, _, rfl⟩⟩
    have I1 : Inv X pins σ (upd H s.heap.objs.size (.tup [x, y])) { s with heap := h'', toks := tk } :=
      I.turnedNew (t' := tk) (ch := [z, TI, TO, i1, i2]) (fun c o hb q => (sb.2 c (fun q' => hb (by simp [q']))).trans (hk c o (fun q' => hb (by simp [q'])) (fun q' => hb (by simp [q'])) (fun q' => hb (by simp [q'])) (fun q' => hb (by simp [q'])) q)) hf (Nat.le_refl _) new
    have i1z : i1 ≠ z := fun q => S.zf1 (by simp [q])
    have i2z : i2 ≠ z := fun q => S.zf2 (by simp [q])
    refine ⟨.ref s.heap.objs.size, _, I1, rfl, ⟨_, x, y, rfl, I.hok.fresh (Nat.le_refl _), rfl, fun l hl => by rw [seqB_inj I hl hqx]; exact hx, fun l hl => by rw [seqB_inj I hl hqy]; exact hy⟩, ⟨z'', ?_, ⟨u, u2, ?_⟩, ?_, ?_⟩, fun c hcm => ?_⟩
    · exact (sb.2 _ S.TIz).trans (hk _ _ S.TIz S.TITO S.TIi1 S.TIi2 hTI)
    · exact (sb.2 _ S.TOz).trans TO'
    · exact s1'.1.at' fun o q => (sb.2 _ i1z).trans q
    · exact s2'.1.at' fun o q => (sb.2 _ i2z).trans q
    · have hlt : c < s.heap.objs.size := by
        have e' : c = z ∨ c = TI ∨ c = TO ∨ c = i1 ∨ c = i2 := by simpa using hcm
        rcases e' with q | q | q | q | q
        · rw [q]; exact hzl
        · rw [q]; exact Heap.lt_size hTI
        · rw [q]; exact Heap.lt_size hTO
        · rw [q]; obtain ⟨_, e1, _⟩ := h1.ob; exact Heap.lt_size e1
        · rw [q]; obtain ⟨_, e2, _⟩ := h2.ob; exact Heap.lt_size e2
      rw [upd_ne (Nat.ne_of_lt hlt)]
      exact (hf c hcm).1
  done := by
    intro X hP hw hK hc i pins s σ H E I hf st hg
    subst hP hw hK
    obtain ⟨hz, hTI, ⟨x0, y0, hTO⟩, h1, h2⟩ := st
    obtain ⟨xs, ys, hqx, hqy, l1, l2, hend⟩ := hg
    obtain ⟨its, rv, p, _⟩ := seqB I hqx
    obtain ⟨its2, rv2, p2, _⟩ := seqB I hqy
    have m1 := rv.length
    have m2 := rv2.length
    have hd : X.A.in1.handled = none := I.ok.hd hc
    refine wpAny_pyNext_zipD2_end S (drawsB hd i1 a n1 its.toArray k1) (drawsB hd i2 b n2 its2.toArray k2) hz hTI hTO ⟨h1, p⟩ ⟨h2, p2⟩ (by simp; omega) (by simp; omega) (by simp; omega) fun h' tk hk => ⟨rfl, I.turnedL (t' := tk) (ch := [z, TI, TO, i1, i2]) (fun c o hb q =>
      hk c o (fun q' => hb (by simp [q'])) (fun q' => hb (by simp [q'])) (fun q' => hb (by simp [q'])) (fun q' => hb (by simp [q'])) q) hf⟩
  self := fun A i s Q E st h => wpAny_pyIter_zip st.1 h
/-! ### zip of three -/
def Iz3 (K : PySem.W.Frag) (a b c : Addr) (k1 k2 k3 : Bool) : It :=
  ⟨fun i H => ∃ (xs ys us : List V) (x y u : V), SqB K H a xs k1 ∧ SqB K H b ys k2 ∧ SqB K H c us k3 ∧ xs[i]? = some x ∧ ys[i]? = some y ∧ us[i]? = some u,
    fun i H v H' => ∃ T x y u, v = .ref T ∧ H T = none ∧ H' = upd H T (.tup [x, y, u]) ∧ (∀ xs, SqB K H a xs k1 → xs[i]? = some x) ∧ (∀ ys, SqB K H b ys k2 → ys[i]? = some y) ∧ ∀ us, SqB K H c us k3 → us[i]? = some u,
    fun i H => ∃ xs ys us : List V, SqB K H a xs k1 ∧ SqB K H b ys k2 ∧ SqB K H c us k3 ∧ i ≤ xs.length ∧ i ≤ ys.length ∧ i ≤ us.length ∧ (i = xs.length ∨ i = ys.length ∨ i = us.length)⟩
theorem turn_z3 {P : Program} {w : World} {K : PySem.W.Frag} {elts : List Expr} {kk : Nat} {tpos : Pos} {a b c z TI TO i1 i2 i3 : Addr} (S : ZipSep3 z TI TO i1 i2 i3 [i1, a] [i2, b] [i3, c]) (n1 : a ≠ i1) (n2 : b ≠ i2) (n3 : c ≠ i3) (k1 k2 k3 : Bool) :
    Turn P w K (.Tuple elts kk tpos) (Iz3 K a b c k1 k2 k3) [z, TI, TO, i1, i2, i3] z (fun i h => IsZip h z TI TO .none ∧ IsTupOf3 h TI (.ref i1) (.ref i2) (.ref i3) ∧ (∃ x y u, IsTupOf3 h TO x y u) ∧ ItB h i1 a i k1 ∧ ItB h i2 b i k2 ∧ ItB h i3 c i k3) where
  mem := by simp
  obj := fun i h st d hc => by
    obtain ⟨hz, hTI, ⟨x, y, u, hTO⟩, h1, h2, h3⟩ := st
    have e' : d = z ∨ d = TI ∨ d = TO ∨ d = i1 ∨ d = i2 ∨ d = i3 := by simpa using hc
    rcases e' with q | q | q | q | q | q
    · rw [q]; exact ⟨_, hz, fun v q => nomatch q⟩
    · rw [q]; exact ⟨_, hTI, fun v q => nomatch q⟩
    · rw [q]; exact ⟨_, hTO, fun v q => nomatch q⟩
    · rw [q]; exact h1.ob
    · rw [q]; exact h2.ob
    · rw [q]; exact h3.ob
  keep := fun i h h' st k => by
    obtain ⟨hz, hTI, ⟨x, y, u, hTO⟩, h1, h2, h3⟩ := st
    exact ⟨k z (by simp) _ hz, k TI (by simp) _ hTI, ⟨x, y, u, k TO (by simp) _ hTO⟩, h1.at' fun o q => k i1 (by simp) o q, h2.at' fun o q => k i2 (by simp) o q, h3.at' fun o q => k i3 (by simp) o q⟩
  item := by
    intro X hP hw hK hc i pins s σ H E I hf st hg
    subst hP hw hK
    obtain ⟨hz, hTI, ⟨x0, y0, u0, hTO⟩, h1, h2, h3⟩ := st
    obtain ⟨xs, ys, us, x, y, u, hqx, hqy, hqu, hx, hy, hu'⟩ := hg
    obtain ⟨its, rv, p, la⟩ := seqB I hqx
    obtain ⟨its2, rv2, p2, lb⟩ := seqB I hqy
    obtain ⟨its3, rv3, p3, lc⟩ := seqB I hqu
    obtain ⟨w1, hw1, rw1⟩ := rv.get hx
    obtain ⟨w2, hw2, rw2⟩ := rv2.get hy
    obtain ⟨w3, hw3, rw3⟩ := rv3.get hu'
    have hzl : z < s.heap.objs.size := Heap.lt_size hz
    have hd : X.A.in1.handled = none := I.ok.hd hc
    have e1 := (List.getElem?_eq_some_iff.mp hw1).1
    have e2 := (List.getElem?_eq_some_iff.mp hw2).1
    have e3 := (List.getElem?_eq_some_iff.mp hw3).1
    refine wpAny_pyNext_zipD3_item S (drawsB hd i1 a n1 its.toArray k1) (drawsB hd i2 b n2 its2.toArray k2) (drawsB hd i3 c n3 its3.toArray k3) hz hTI hTO ⟨h1, p⟩ ⟨h2, p2⟩ ⟨h3, p3⟩ (by simpa using e1) (by simpa using e2) (by simpa using e3) fun v1 v2 v3 h' tk q1 q2 q3 z' TO' s1' s2' s3' hT hsz hk => ?_
    have q1' : its[i]? = some v1 := by simpa using q1
    have q2' : its2[i]? = some v2 := by simpa using q2
    have q3' : its3[i]? = some v3 := by simpa using q3
    rw [hw1] at q1'; cases q1'
    rw [hw2] at q2'; cases q2'
    rw [hw3] at q3'; cases q3'
    refine ⟨_, rfl, wpAny_letOwnedTupleGo_zip (s := { s with heap := h', toks := tk }) z' fun h'' z'' sb => ?_⟩
    have hT2 : h''.get? s.heap.objs.size = some { cls := .type "tuple", data := .seq #[w1, w2, w3] } := (sb.2 _ (Nat.ne_of_gt hzl)).trans hT
    have new : ObjOk X.prog X.w (upd H s.heap.objs.size (.tup [x, y, u])) h'' s.heap.objs.size (.tup [x, y, u]) :=
      ⟨by show 3 ≤ sizeLine; decide, [w1, w2, w3], .cons rw1 (.cons rw2 (.cons rw3 .nil)), ⟨_, hT2, rfl, _, rfl⟩⟩
    have I1 : Inv X pins σ (upd H s.heap.objs.size (.tup [x, y, u])) { s with heap := h'', toks := tk } :=
      I.turnedNew (t' := tk) (ch := [z, TI, TO, i1, i2, i3]) (fun c o hb q => (sb.2 c (fun q' => hb (by simp [q']))).trans (hk c o (fun q' => hb (by simp [q'])) (fun q' => hb (by simp [q'])) (fun q' => hb (by simp [q'])) (fun q' => hb (by simp [q'])) (fun q' => hb (by simp [q'])) q)) hf (Nat.le_refl _) new
    have i1z : i1 ≠ z := fun q => S.zf1 (by simp [q])
    have i2z : i2 ≠ z := fun q => S.zf2 (by simp [q])
    have i3z : i3 ≠ z := fun q => S.zf3 (by simp [q])
    refine ⟨.ref s.heap.objs.size, _, I1, rfl, ⟨_, x, y, u, rfl, I.hok.fresh (Nat.le_refl _), rfl, fun l hl => by rw [seqB_inj I hl hqx]; exact hx, fun l hl => by rw [seqB_inj I hl hqy]; exact hy, fun l hl => by rw [seqB_inj I hl hqu]; exact hu'⟩, ⟨z'', ?_, ⟨w1, w2, w3, ?_⟩, ?_, ?_, ?_⟩, fun c hcm => ?_⟩
    · exact (sb.2 _ S.TIz).trans (hk _ _ S.TIz S.TITO S.TIi1 S.TIi2 S.TIi3 hTI)
    · exact (sb.2 _ S.TOz).trans TO'
    · exact s1'.1.at' fun o q => (sb.2 _ i1z).trans q
    · exact s2'.1.at' fun o q => (sb.2 _ i2z).trans q
    · exact s3'.1.at' fun o q => (sb.2 _ i3z).trans q
    · have hlt : c < s.heap.objs.size := by
        have e' : c = z ∨ c = TI ∨ c = TO ∨ c = i1 ∨ c = i2 ∨ c = i3 := by simpa using hcm
        rcases e' with q | q | q | q | q | q
        · rw [q]; exact hzl
        · rw [q]; exact Heap.lt_size hTI
        · rw [q]; exact Heap.lt_size hTO
        · rw [q]; obtain ⟨_, e1, _⟩ := h1.ob; exact Heap.lt_size e1
        · rw [q]; obtain ⟨_, e2, _⟩ := h2.ob; exact Heap.lt_size e2
        · rw [q]; obtain ⟨_, e3, _⟩ := h3.ob; exact Heap.lt_size e3
      rw [upd_ne (Nat.ne_of_lt hlt)]
      exact (hf c hcm).1
  done := by
    intro X hP hw hK hc i pins s σ H E I hf st hg
    subst hP hw hK
    obtain ⟨hz, hTI, ⟨x0, y0, u0, hTO⟩, h1, h2, h3⟩ := st
    obtain ⟨xs, ys, us, hqx, hqy, hqu, l1, l2, l3, hend⟩ := hg
    obtain ⟨its, rv, p, _⟩ := seqB I hqx
    obtain ⟨its2, rv2, p2, _⟩ := seqB I hqy
    obtain ⟨its3, rv3, p3, _⟩ := seqB I hqu
    have m1 := rv.length
    have m2 := rv2.length
    have m3 := rv3.length
    have hd : X.A.in1.handled = none := I.ok.hd hc
    refine wpAny_pyNext_zipD3_end S (drawsB hd i1 a n1 its.toArray k1) (drawsB hd i2 b n2 its2.toArray k2) (drawsB hd i3 c n3 its3.toArray k3) hz hTI hTO ⟨h1, p⟩ ⟨h2, p2⟩ ⟨h3, p3⟩ (by simp; omega) (by simp; omega) (by simp; omega) (by simp; omega) fun h' tk hk => ⟨rfl, I.turnedL (t' := tk) (ch := [z, TI, TO, i1, i2, i3]) (fun c o hb q =>
      hk c o (fun q' => hb (by simp [q'])) (fun q' => hb (by simp [q'])) (fun q' => hb (by simp [q'])) (fun q' => hb (by simp [q'])) (fun q' => hb (by simp [q'])) q) hf⟩
  self := fun A i s Q E st h => wpAny_pyIter_zip st.1 h
section
variable {X : Cx} {elts : List Expr} {kk : Nat} {tpos p pos : Pos} {e1 e2 e3 : Expr} {ta : TA}
theorem pi_z2 (k1 k2 : Bool) (hg : Gl X "zip") (hm : X.mg "zip" = none) (ha : PA X [e1, e2] ta)
    (hs : starEach [e1, e2] X.env = (false, eval e1 X.env) :: starEach [e2] X.env := by rfl) (hpl : (backTo pos (starEach [e2] X.env)).any (·.1) = false := by rfl) :
    PI X (.Tuple elts kk tpos) (.Call (.Name "zip" p) [e1, e2] [] pos) (fun σ H R => ta σ H fun vs H1 => ∃ a b xs ys, vs = [.ref a, .ref b] ∧ SqB X.K H1 a xs k1 ∧ SqB X.K H1 b ys k2 ∧ R (Iz2 X.K a b k1 k2) H1) := by
  refine ⟨fun pins s σ H R I h => ?_⟩
  refine PyProof.Rows.Call_ (ld_blt I hg hm PyProof.Rows.boot_zip (PyProof.Rows.callWith_type1 (thn (ha.run pos pins s σ H _ I h) fun us s1 ⟨vs, H1, I1, r1, q1⟩ => ?_) hs hpl))
  obtain ⟨a, b, xs, ys, ex, hqx, hqy, q⟩ := q1
  subst ex
  cases r1 with
  | cons r rr =>
    cases rr with
    | cons r' rr =>
      cases rr
      cases r
      cases r'
      have fresh : ∀ c, c ∈ [s1.heap.objs.size + 4, s1.heap.objs.size + 2, s1.heap.objs.size + 3, s1.heap.objs.size, s1.heap.objs.size + 1] → FpOk X pins H1 c := fun c hcm => by
        have hle : s1.heap.objs.size ≤ c := by
          have e' : c = s1.heap.objs.size + 4 ∨ c = s1.heap.objs.size + 2 ∨ c = s1.heap.objs.size + 3 ∨ c = s1.heap.objs.size ∨ c = s1.heap.objs.size + 1 := by simpa using hcm
          rcases e' with z | z | z | z | z
          · rw [z]; exact Nat.le_add_right _ _
          · rw [z]; exact Nat.le_add_right _ _
          · rw [z]; exact Nat.le_add_right _ _
          · rw [z]; exact Nat.le_refl _
          · rw [z]; exact Nat.le_add_right _ _
        exact I1.fpOk hle (I1.hok.fresh hle)
      obtain ⟨its, rv, p1, la⟩ := seqB I1 hqx
      obtain ⟨its2, rv2, p2, lb⟩ := seqB I1 hqy
      refine zip_begins2 (beginsB a its.toArray k1) (beginsB b its2.toArray k2) p1 p2 fun h' hz hTI hTO h1 h2 hsz hk => wpAny_pyIter_zip hz ?_
      have I2 : Inv X pins σ H1 { s1 with heap := h' } := I1.kept (t' := s1.toks) hk
      have S := zip_sep2 (N := s1.heap.objs.size) (fp1 := [a]) (fp2 := [b]) (by simpa using la) (by simpa using lb)
      exact ⟨s1.heap.objs.size + 4, [s1.heap.objs.size + 4, s1.heap.objs.size + 2, s1.heap.objs.size + 3, s1.heap.objs.size, s1.heap.objs.size + 1], _, _, H1, rfl, I2, turn_z2 S (Nat.ne_of_lt la) (Nat.ne_of_lt (Nat.lt_succ_of_lt lb)) k1 k2, ⟨hz, hTI, ⟨_, _, hTO⟩, itB_new h1, itB_new h2⟩, fresh, q⟩
theorem pi_z3 (k1 k2 k3 : Bool) (hg : Gl X "zip") (hm : X.mg "zip" = none) (ha : PA X [e1, e2, e3] ta)
    (hs : starEach [e1, e2, e3] X.env = (false, eval e1 X.env) :: starEach [e2, e3] X.env := by rfl) (hpl : (backTo pos (starEach [e2, e3] X.env)).any (·.1) = false := by rfl) :
    PI X (.Tuple elts kk tpos) (.Call (.Name "zip" p) [e1, e2, e3] [] pos) (fun σ H R => ta σ H fun vs H1 => ∃ a b c xs ys us, vs = [.ref a, .ref b, .ref c] ∧ SqB X.K H1 a xs k1 ∧ SqB X.K H1 b ys k2 ∧ SqB X.K H1 c us k3 ∧ R (Iz3 X.K a b c k1 k2 k3) H1) := by
  refine ⟨fun pins s σ H R I h => ?_⟩
  refine PyProof.Rows.Call_ (ld_blt I hg hm PyProof.Rows.boot_zip (PyProof.Rows.callWith_type1 (thn (ha.run pos pins s σ H _ I h) fun us s1 ⟨vs, H1, I1, r1, q1⟩ => ?_) hs hpl))
  obtain ⟨a, b, c, xs, ys, ws, ex, hqx, hqy, hqu, q⟩ := q1
  subst ex
  cases r1 with
  | cons r rr =>
    cases rr with
    | cons r' rr =>
      cases rr with
      | cons r'' rr =>
        cases rr
        cases r
        cases r'
        cases r''
        have fresh : ∀ c, c ∈ [s1.heap.objs.size + 5, s1.heap.objs.size + 3, s1.heap.objs.size + 4, s1.heap.objs.size, s1.heap.objs.size + 1, s1.heap.objs.size + 2] → FpOk X pins H1 c := fun c hcm => by
          have hle : s1.heap.objs.size ≤ c := by
            have e' : c = s1.heap.objs.size + 5 ∨ c = s1.heap.objs.size + 3 ∨ c = s1.heap.objs.size + 4 ∨ c = s1.heap.objs.size ∨ c = s1.heap.objs.size + 1 ∨ c = s1.heap.objs.size + 2 := by simpa using hcm
            rcases e' with z | z | z | z | z | z
            · rw [z]; exact Nat.le_add_right _ _
            · rw [z]; exact Nat.le_add_right _ _
            · rw [z]; exact Nat.le_add_right _ _
            · rw [z]; exact Nat.le_refl _
            · rw [z]; exact Nat.le_add_right _ _
            · rw [z]; exact Nat.le_add_right _ _
          exact I1.fpOk hle (I1.hok.fresh hle)
        obtain ⟨its, rv, p1, la⟩ := seqB I1 hqx
        obtain ⟨its2, rv2, p2, lb⟩ := seqB I1 hqy
        obtain ⟨its3, rv3, p3, lc⟩ := seqB I1 hqu
        refine zip_begins3 (beginsB a its.toArray k1) (beginsB b its2.toArray k2) (beginsB c its3.toArray k3) p1 p2 p3 fun h' hz hTI hTO h1 h2 h3 hsz hk => wpAny_pyIter_zip hz ?_
        have I2 : Inv X pins σ H1 { s1 with heap := h' } := I1.kept (t' := s1.toks) hk
        have S := zip_sep3 (N := s1.heap.objs.size) (fp1 := [a]) (fp2 := [b]) (fp3 := [c]) (by simpa using la) (by simpa using lb) (by simpa using lc)
        exact ⟨s1.heap.objs.size + 5, [s1.heap.objs.size + 5, s1.heap.objs.size + 3, s1.heap.objs.size + 4, s1.heap.objs.size, s1.heap.objs.size + 1, s1.heap.objs.size + 2], _, _, H1, rfl, I2, turn_z3 S (Nat.ne_of_lt la) (Nat.ne_of_lt (Nat.lt_succ_of_lt lb)) (Nat.ne_of_lt (Nat.lt_succ_of_lt (Nat.lt_succ_of_lt lc))) k1 k2 k3, ⟨hz, hTI, ⟨_, _, _, hTO⟩, itB_new h1, itB_new h2, itB_new h3⟩, fresh, q⟩
end
end GL
namespace GL
open PySem PySem.Spec L2
/-! ### as walks over values -/
def sqK (L : Lo) (k : Bool) (a : A) : Option (List A) := match k with
  | true => lsOf L a
  | false => tpOf a
theorem sqB_mono {K : PySem.W.Frag} {B B' : Hp} {p : Addr} {vs : List V} (h : Sub B B') : ∀ {k : Bool}, SqB K B p vs k → SqB K B' p vs k
  | true, q => Same.seq h q
  | false, q => sqT_mono h q
theorem sk_at {K : PySem.W.Frag} {W : Wd} {a : A} {as : List A} {v : V} (h : At K W a v) (ok : W.Ok K) : ∀ {k : Bool}, sqK W.L k a = some as → ∃ p vs, v = .ref p ∧ SqB K W.H p vs k ∧ AtL K W as vs
  | true, e => ls_at h ok e
  | false, e => by
    obtain ⟨p, vs, e1, e2, e3⟩ := tp_at h e
    exact ⟨p, vs, e1, sqT_mono ok.base e2, e3⟩
theorem itok_z2 {K : PySem.W.Frag} {W : Wd} {x y : A} {u v : V} {as bs : List A} {p q : Addr} {k1 k2 : Bool} (hu : At K W x u) (hv : At K W y v) (ep : u = .ref p) (eq : v = .ref q) : ItOk K W (zipA as bs) (fun L => sqK L k1 x = some as ∧ sqK L k2 y = some bs) (Iz2 K p q k1 k2) where
  go := fun i W1 g1 ok1 hc hi => by
    rw [zipA_len] at hi
    obtain ⟨h1, h2⟩ := lt_min hi
    obtain ⟨p2, us, e1, hq1, hl1⟩ := sk_at (hu.mono g1) ok1 hc.1
    obtain ⟨q2, vs, e2, hq2, hl2⟩ := sk_at (hv.mono g1) ok1 hc.2
    rw [ep] at e1; cases e1
    rw [eq] at e2; cases e2
    obtain ⟨a, ea, _⟩ := hl1.get (List.getElem?_eq_getElem h1)
    obtain ⟨b, eb, _⟩ := hl2.get (List.getElem?_eq_getElem h2)
    exact ⟨us, vs, a, b, hq1, hq2, ea, eb⟩
  stop := fun W1 g1 ok1 hc => by
    obtain ⟨p2, us, e1, hq1, hl1⟩ := sk_at (hu.mono g1) ok1 hc.1
    obtain ⟨q2, vs, e2, hq2, hl2⟩ := sk_at (hv.mono g1) ok1 hc.2
    rw [ep] at e1; cases e1
    rw [eq] at e2; cases e2
    refine ⟨us, vs, hq1, hq2, ?_⟩
    rw [← hl1.length, ← hl2.length, zipA_len]; omega
  yld := fun i W1 z H' g1 ok1 hc hi hy => by
    rw [zipA_len] at hi
    obtain ⟨h1, h2⟩ := lt_min hi
    obtain ⟨p2, us, e1, hq1, hl1⟩ := sk_at (hu.mono g1) ok1 hc.1
    obtain ⟨q2, vs, e2, hq2, hl2⟩ := sk_at (hv.mono g1) ok1 hc.2
    rw [ep] at e1; cases e1
    rw [eq] at e2; cases e2
    obtain ⟨a, ea, aa⟩ := hl1.get (List.getElem?_eq_getElem h1)
    obtain ⟨b, eb, ab⟩ := hl2.get (List.getElem?_eq_getElem h2)
    obtain ⟨T, x1, y1, rfl, hT, rfl, f1, f2⟩ := hy
    have z1 := f1 us hq1
    have z2 := f2 vs hq2
    rw [ea] at z1; cases z1
    rw [eb] at z2; cases z2
    obtain ⟨W2, w1, w2, w3, w4, w5⟩ := pair_at ok1 hT aa ab
    exact ⟨W2, _, zipA_get (List.getElem?_eq_getElem h1) (List.getElem?_eq_getElem h2), w1, w2, w3, w4, w5⟩
def zip3A (as bs cs : List A) : List A := List.zipWith (fun a p => mkTup [a, p.1, p.2]) as (bs.zip cs)
theorem zip3A_len (as bs cs : List A) : (zip3A as bs cs).length = min as.length (min bs.length cs.length) := by simp [zip3A]
theorem zip3A_get {as bs cs : List A} {i : Nat} {a b c : A} (h1 : as[i]? = some a) (h2 : bs[i]? = some b) (h3 : cs[i]? = some c) : (zip3A as bs cs)[i]? = some (mkTup [a, b, c]) := by
  unfold zip3A
  have : (bs.zip cs)[i]? = some (b, c) := by rw [List.getElem?_zip_eq_some]; exact ⟨h2, h3⟩
  rw [List.getElem?_zipWith, h1, this]
theorem lt_min3 {n a b c : Nat} (h : n < min a (min b c)) : n < a ∧ n < b ∧ n < c := by omega
theorem itok_z3 {K : PySem.W.Frag} {W : Wd} {x y z : A} {u v w : V} {as bs cs : List A} {p q r : Addr} {k1 k2 k3 : Bool} (hu : At K W x u) (hv : At K W y v) (hw : At K W z w) (ep : u = .ref p) (eq : v = .ref q) (er : w = .ref r) :
    ItOk K W (zip3A as bs cs) (fun L => sqK L k1 x = some as ∧ sqK L k2 y = some bs ∧ sqK L k3 z = some cs) (Iz3 K p q r k1 k2 k3) where
  go := fun i W1 g1 ok1 hc hi => by
    rw [zip3A_len] at hi
    obtain ⟨h1, h2, h3⟩ := lt_min3 hi
    obtain ⟨p2, us, e1, hq1, hl1⟩ := sk_at (hu.mono g1) ok1 hc.1
    obtain ⟨q2, vs, e2, hq2, hl2⟩ := sk_at (hv.mono g1) ok1 hc.2.1
    obtain ⟨r2, ws, e3, hq3, hl3⟩ := sk_at (hw.mono g1) ok1 hc.2.2
    rw [ep] at e1; cases e1
    rw [eq] at e2; cases e2
    rw [er] at e3; cases e3
    obtain ⟨a, ea, _⟩ := hl1.get (List.getElem?_eq_getElem h1)
    obtain ⟨b, eb, _⟩ := hl2.get (List.getElem?_eq_getElem h2)
    obtain ⟨c, ec, _⟩ := hl3.get (List.getElem?_eq_getElem h3)
    exact ⟨us, vs, ws, a, b, c, hq1, hq2, hq3, ea, eb, ec⟩
  stop := fun W1 g1 ok1 hc => by
    obtain ⟨p2, us, e1, hq1, hl1⟩ := sk_at (hu.mono g1) ok1 hc.1
    obtain ⟨q2, vs, e2, hq2, hl2⟩ := sk_at (hv.mono g1) ok1 hc.2.1
    obtain ⟨r2, ws, e3, hq3, hl3⟩ := sk_at (hw.mono g1) ok1 hc.2.2
    rw [ep] at e1; cases e1
    rw [eq] at e2; cases e2
    rw [er] at e3; cases e3
    refine ⟨us, vs, ws, hq1, hq2, hq3, ?_⟩
    rw [← hl1.length, ← hl2.length, ← hl3.length, zip3A_len]; omega
  yld := fun i W1 t H' g1 ok1 hc hi hy => by
    rw [zip3A_len] at hi
    obtain ⟨h1, h2, h3⟩ := lt_min3 hi
    obtain ⟨p2, us, e1, hq1, hl1⟩ := sk_at (hu.mono g1) ok1 hc.1
    obtain ⟨q2, vs, e2, hq2, hl2⟩ := sk_at (hv.mono g1) ok1 hc.2.1
    obtain ⟨r2, ws, e3, hq3, hl3⟩ := sk_at (hw.mono g1) ok1 hc.2.2
    rw [ep] at e1; cases e1
    rw [eq] at e2; cases e2
    rw [er] at e3; cases e3
    obtain ⟨a, ea, aa⟩ := hl1.get (List.getElem?_eq_getElem h1)
    obtain ⟨b, eb, ab⟩ := hl2.get (List.getElem?_eq_getElem h2)
    obtain ⟨c, ec, ac⟩ := hl3.get (List.getElem?_eq_getElem h3)
    obtain ⟨T, x1, y1, u1, rfl, hT, rfl, f1, f2, f3⟩ := hy
    have z1 := f1 us hq1
    have z2 := f2 vs hq2
    have z3 := f3 ws hq3
    rw [ea] at z1; cases z1
    rw [eb] at z2; cases z2
    rw [ec] at z3; cases z3
    exact ⟨W1.frz T (.tup _), _, zip3A_get (List.getElem?_eq_getElem h1) (List.getElem?_eq_getElem h2) (List.getElem?_eq_getElem h3), rfl, rfl, Wd.frz_grow ok1 hT _, Wd.frz_ok ok1 hT _, tup_at (.cons aa (.cons ab (.cons ac .nil))) ok1 hT⟩
section
variable {X : Cx} {elts : List Expr} {kk : Nat} {tpos p pos : Pos} {e1 e2 e3 e tg : Expr} {gs : GTA} {ga : GTE}
def on3 (as : List A) (k : A → A → A → Prop) : Prop := match as with
  | [a, b, c] => k a b c
  | _ => False
theorem on3_el {as : List A} {k : A → A → A → Prop} (h : on3 as k) : ∃ a b c, as = [a, b, c] ∧ k a b c := by
  unfold on3 at h
  split at h
  · exact ⟨_, _, _, rfl, h⟩
  · exact h.elim
def gIZ2 (k1 k2 : Bool) (gs : GTA) : GTI := fun s L R => gs s L fun as L1 => on2 as fun x y => onO (sqK L1 k1 x) fun xs => onO (sqK L1 k2 y) fun ys => R (zipA xs ys) (fun L2 => sqK L2 k1 x = some xs ∧ sqK L2 k2 y = some ys) L1
theorem i_z2 (k1 k2 : Bool) (hg : Gl X "zip") (hm : X.mg "zip" = none) (ha : GA X [e1, e2] gs)
    (hs : starEach [e1, e2] X.env = (false, eval e1 X.env) :: starEach [e2] X.env := by rfl) (hpl : (backTo pos (starEach [e2] X.env)).any (·.1) = false := by rfl) :
    GI X (.Tuple elts kk tpos) (.Call (.Name "zip" p) [e1, e2] [] pos) (gIZ2 k1 k2 gs) := ⟨pi_imp (pi_z2 k1 k2 hg hm ha.pa hs hpl) fun σ H Q h => by
  obtain ⟨W, s, R, e, ok, ats, h, fin⟩ := h
  refine ⟨W, s, _, e, ok, ats, h, fun as W1 vs q g1 ok1 at1 => ?_⟩
  obtain ⟨x, y, ea, q1⟩ := on2_el q
  obtain ⟨xs, ex, q2⟩ := onO_el q1
  obtain ⟨ys, ey, q3⟩ := onO_el q2
  subst ea
  obtain ⟨u, v, rfl, hu, hv⟩ := at1.two
  obtain ⟨p1, us, e1, hq1, hl1⟩ := sk_at hu ok1 ex
  obtain ⟨p2, ws, e2, hq2, hl2⟩ := sk_at hv ok1 ey
  exact ⟨p1, p2, us, ws, by rw [e1, e2], hq1, hq2, fin _ _ W1 _ q3 g1 ok1 (itok_z2 hu hv e1 e2)⟩⟩
def gIZ3 (k1 k2 k3 : Bool) (gs : GTA) : GTI := fun s L R => gs s L fun as L1 => on3 as fun x y z => onO (sqK L1 k1 x) fun xs => onO (sqK L1 k2 y) fun ys => onO (sqK L1 k3 z) fun zs =>
  R (zip3A xs ys zs) (fun L2 => sqK L2 k1 x = some xs ∧ sqK L2 k2 y = some ys ∧ sqK L2 k3 z = some zs) L1
theorem i_z3 (k1 k2 k3 : Bool) (hg : Gl X "zip") (hm : X.mg "zip" = none) (ha : GA X [e1, e2, e3] gs)
    (hs : starEach [e1, e2, e3] X.env = (false, eval e1 X.env) :: starEach [e2, e3] X.env := by rfl) (hpl : (backTo pos (starEach [e2, e3] X.env)).any (·.1) = false := by rfl) :
    GI X (.Tuple elts kk tpos) (.Call (.Name "zip" p) [e1, e2, e3] [] pos) (gIZ3 k1 k2 k3 gs) := ⟨pi_imp (pi_z3 k1 k2 k3 hg hm ha.pa hs hpl) fun σ H Q h => by
  obtain ⟨W, s, R, e, ok, ats, h, fin⟩ := h
  refine ⟨W, s, _, e, ok, ats, h, fun as W1 vs q g1 ok1 at1 => ?_⟩
  obtain ⟨x, y, z, ea, q1⟩ := on3_el q
  obtain ⟨xs, ex, q2⟩ := onO_el q1
  obtain ⟨ys, ey, q3⟩ := onO_el q2
  obtain ⟨zs, ez, q4⟩ := onO_el q3
  subst ea
  cases at1 with
  | cons hu r =>
    cases r with
    | cons hv r =>
      cases r with
      | cons hw r =>
        cases r
        obtain ⟨p1, us, e1, hq1, hl1⟩ := sk_at hu ok1 ex
        obtain ⟨p2, ws, e2, hq2, hl2⟩ := sk_at hv ok1 ey
        obtain ⟨p3, ts, e3, hq3, hl3⟩ := sk_at hw ok1 ez
        exact ⟨p1, p2, p3, us, ws, ts, by rw [e1, e2, e3], hq1, hq2, hq3, fin _ _ W1 _ q4 g1 ok1 (itok_z3 hu hv hw e1 e2 e3)⟩⟩
/-! ### a list or a tuple walked -/
theorem pi_seq {l : Expr} {tl : TE} (hl : PE X l tl) : PI X tg l (fun σ H R => tl σ H fun x H1 => ∃ a, x = .ref a ∧ (((∃ xs, SqL X.K H1 a xs) ∧ R (Itl X.K a) H1) ∨ ((∃ xs, SqT X.K H1 a xs) ∧ R (Itt X.K a) H1))) := by
  refine ⟨fun pins s σ H R I h => ?_⟩
  refine thn (hl.run pins s σ H _ I h) fun v s1 ⟨x, H1, I1, r1, q1⟩ => ?_
  obtain ⟨a, e, q⟩ := q1
  subst e
  cases r1
  rcases q with ⟨⟨xs, hq⟩, q⟩ | ⟨⟨xs, hq⟩, q⟩
  · obtain ⟨its, rv, p, hz⟩ := I1.list hq
    refine wpAny_pyIter_list p.isList ?_
    refine ⟨s1.heap.objs.size, [s1.heap.objs.size], _, _, H1, rfl, I1.kept (t' := s1.toks) fun b o e => Heap.get?_push_of_some _ e, turn_list a _, ⟨_, Heap.get?_push_size _ rfl, rfl, rfl⟩, fun b hb => ?_, q⟩
    have e : b = s1.heap.objs.size := by simpa using hb
    subst e
    exact I1.fpOk (Nat.le_refl _) (I1.hok.fresh (Nat.le_refl _))
  · obtain ⟨its, rv, p, hz⟩ := I1.tuple hq
    refine wpAny_pyIter_tuple (show s1.heap.IsTuple a its.toArray from p) ?_
    refine ⟨s1.heap.objs.size, [s1.heap.objs.size], _, _, H1, rfl, I1.kept (t' := s1.toks) fun b o e => Heap.get?_push_of_some _ e, turn_tuple a _, ⟨_, Heap.get?_push_size _ rfl, rfl, rfl⟩, fun b hb => ?_, q⟩
    have e : b = s1.heap.objs.size := by simpa using hb
    subst e
    exact I1.fpOk (Nat.le_refl _) (I1.hok.fresh (Nat.le_refl _))
/-- frozen data alone -/
def sdOf : A → Option (List D)
  | .d (.list ds) => some ds
  | .d (.tuple ds) => some ds
  | .d (.grp ds) => some ds
  | _ => none
def gIS (ga : GTE) : GTI := fun s L R => ga s L fun x L1 => onO (sdOf x) fun ds => R (ds.map .d) (fun _ => True) L1
theorem i_seq (h : GE X e ga) : GI X tg e (gIS ga) := ⟨pi_imp (pi_seq h.pe) fun σ H Q h => by
  obtain ⟨W, s, R, e, ok, ats, h, fin⟩ := h
  refine ⟨W, s, _, e, ok, ats, h, fun x W1 v q g1 ok1 at1 => ?_⟩
  obtain ⟨ds, ed, q1⟩ := onO_el q
  unfold sdOf at ed
  split at ed
  · cases ed
    obtain ⟨p, vs, rfl, e1, l⟩ := at1.lst
    have hl : AtL X.K W1 (ds.map .d) vs := .of_ds l
    refine ⟨p, rfl, .inl ⟨⟨vs, SqL.of (ok1.base _ _ e1)⟩, fin _ _ W1 _ q1 g1 ok1 ⟨fun i W2 g2 ok2 hc hi => ?_, fun W2 g2 ok2 hc => ?_, fun i W2 y H' g2 ok2 hc hi hy => ?_⟩⟩⟩
    · obtain ⟨u, eu, _⟩ := hl.get (List.getElem?_eq_getElem hi)
      exact ⟨vs, u, SqL.of (ok2.base _ _ (g2.base _ _ e1)), eu⟩
    · exact ⟨vs, SqL.of (ok2.base _ _ (g2.base _ _ e1)), by rw [hl.length]; exact Nat.le_refl _⟩
    · obtain ⟨u, eu, au⟩ := (hl.mono g2).get (List.getElem?_eq_getElem hi)
      obtain ⟨rfl, hy⟩ := hy
      have := hy vs (SqL.of (ok2.base _ _ (g2.base _ _ e1)))
      rw [eu] at this; cases this
      exact ⟨W2, _, List.getElem?_eq_getElem hi, rfl, rfl, Grow.refl, ok2, au⟩
  case h_4 => cases ed
  all_goals (
    cases ed
    have ht : ∃ p vs, v = .ref p ∧ SqT X.K W1.B p vs ∧ DXL W1.B vs ds := td_at at1 rfl
    obtain ⟨p, vs, rfl, e1, l⟩ := ht
    have hl : AtL X.K W1 (ds.map .d) vs := .of_ds l
    refine ⟨p, rfl, .inr ⟨⟨vs, sqT_mono ok1.base e1⟩, fin _ _ W1 _ q1 g1 ok1 ⟨fun i W2 g2 ok2 hc hi => ?_, fun W2 g2 ok2 hc => ?_, fun i W2 y H' g2 ok2 hc hi hy => ?_⟩⟩⟩
    · obtain ⟨u, eu, _⟩ := hl.get (List.getElem?_eq_getElem hi)
      exact ⟨vs, u, sqT_mono ok2.base (sqT_mono g2.base e1), eu⟩
    · exact ⟨vs, sqT_mono ok2.base (sqT_mono g2.base e1), by rw [hl.length]; exact Nat.le_refl _⟩
    · obtain ⟨u, eu, au⟩ := (hl.mono g2).get (List.getElem?_eq_getElem hi)
      obtain ⟨rfl, hy⟩ := hy
      have := hy vs (sqT_mono ok2.base (sqT_mono g2.base e1))
      rw [eu] at this; cases this
      exact ⟨W2, _, List.getElem?_eq_getElem hi, rfl, rfl, Grow.refl, ok2, au⟩)⟩
end
end GL
namespace GL
open PySem PySem.Spec L2
section
variable {X : Cx} {o e : Expr} {go : GTE}
/-! ### methods without arguments of an own list -/
def gMl0 (go : GTE) (g : Nat → List A → Lo → KA → Prop) : GTE := fun s L R => go s L fun o L1 => onOwn o fun n => onO (cel L1 n) fun xs => g n xs L1 R
theorem g_ml0 {name : Str} {id : String} {apos cpos : Pos} {r : V → List V → Hp → VK → Prop} {g : Nat → List A → Lo → KA → Prop} (slot : Slot "list" name id) (hty : typeOf (.builtin id) = pure (.type "method_descriptor")) (hm : MtR X id r)
    (hg : ∀ (W : Wd) (n : Nat) (xs : List A) (us : List V) (R : KA) (Q : VK), W.Ok X.K → W.L[n]? = some (.lst xs) → W.H (W.ρ n) = some (.lst us) → AtL X.K W xs us → g n xs W.L R → (∀ a W' v, R a W'.L → Grow W W' → W'.Ok X.K → At X.K W' a v → Q v W'.H) → r (.ref (W.ρ n)) [] W.H Q)
    (ho : GE X o go) (hbase : attributeBase o name X.env (eval o X.env) = eval o X.env := by rfl) (hline : (apos.endLine == cpos.line) = true := by rfl) : GE X (.Call (.Attribute o name apos) [] [] cpos) (gMl0 go g) :=
  ⟨pe_imp (pe_bm0 PySem.F.plainAttrs_list slot hty hm ho.pe hbase hline) fun σ H Q h => by
    obtain ⟨W, s, R, e, ok, ats, h, fin⟩ := h
    refine ⟨W, s, _, e, ok, ats, h, fun o W1 v q g1 ok1 at1 => ?_⟩
    obtain ⟨n, rfl, q1⟩ := onOwn_el q
    obtain ⟨xs, ex, q2⟩ := onO_el q1
    obtain ⟨rfl, hn⟩ := at1.own_iff
    obtain ⟨u, e1, ⟨us, rfl, hl⟩, e2⟩ := ok1.own _ _ (cel_eq ex) (by intro z; cases z)
    exact ⟨.inl ⟨rfl, _, SqL.of e1⟩, hg W1 n xs us R Q ok1 (cel_eq ex) e1 hl q2 fun a W3 v q g3 ok3 at3 => fin a W3 v q (g1.trans g3) ok3 at3⟩⟩
def gPop : Nat → List A → Lo → KA → Prop := fun n xs L R => ∃ y, xs[xs.length - 1]? = some y ∧ R y (L.set n (.lst xs.dropLast))
theorem g_pop {apos cpos : Pos} (ho : GE X o go) (hbase : attributeBase o "pop" X.env (eval o X.env) = eval o X.env := by rfl) (hline : (apos.endLine == cpos.line) = true := by rfl) : GE X (.Call (.Attribute o "pop" apos) [] [] cpos) (gMl0 go gPop) :=
  g_ml0 PySem.F.slot_list_pop PySem.F.type_list_pop mt_pop (fun W n xs us R Q ok hn hH hl h fin => by
    obtain ⟨y, ey, h⟩ := h
    obtain ⟨v, ev, av⟩ := hl.get ey
    have g := Wd.put_grow ok hn (by intro z; cases z) (.lst xs.dropLast) (.lst us.dropLast)
    exact ⟨_, us, v, rfl, rfl, hH, by rw [← hl.length]; exact ev, fin _ (W.put n (.lst xs.dropLast) (.lst us.dropLast)) _ h g (Wd.put_ok ok hn (by intro z; cases z) ⟨_, rfl, hl.dropLast⟩) (av.mono g)⟩) ho hbase hline
def gClr : Nat → List A → Lo → KA → Prop := fun n _ L R => R (.d .none) (L.set n (.lst []))
theorem g_clr {apos cpos : Pos} (ho : GE X o go) (hbase : attributeBase o "clear" X.env (eval o X.env) = eval o X.env := by rfl) (hline : (apos.endLine == cpos.line) = true := by rfl) : GE X (.Call (.Attribute o "clear" apos) [] [] cpos) (gMl0 go gClr) :=
  g_ml0 PySem.F.slot_list_clear PySem.F.type_list_clear mt_clear (fun W n xs us R Q ok hn hH hl h fin => by
    exact ⟨_, us, rfl, rfl, hH, fin _ (W.put n (.lst []) (.lst [])) _ h (Wd.put_grow ok hn (by intro z; cases z) _ _) (Wd.put_ok ok hn (by intro z; cases z) ⟨_, rfl, .nil⟩) (.d .non)⟩) ho hbase hline
/-- < of two tuples of whole numbers -/
def gLtT : G2 := fun a b L R => ∃ xs ys : List Int, tdOf a = some (nts xs) ∧ tdOf b = some (nts ys) ∧ R (.d (.bool (HT.lexLt xs ys))) L
theorem c_ltT (hu : X.A.units < cLine) : OpG X (compareOp .Lt) gLtT := opr_imp (op_ltT hu) fun x y H Q h => by
    obtain ⟨W, a, b, R, e, ok, a1, a2, ⟨xs, ys, ex, ey, h⟩, fin⟩ := h
    subst e
    obtain ⟨p, us, rfl, hp, hl⟩ := td_at a1 ex
    obtain ⟨q, vs, rfl, hq, hl2⟩ := td_at a2 ey
    rw [hl.ints] at hp
    rw [hl2.ints] at hq
    exact ⟨p, q, xs, ys, rfl, rfl, sqT_mono ok.base hp, sqT_mono ok.base hq, fin _ W _ h Grow.refl ok (.d (.bl _))⟩
end
theorem renL_ds (r : Nat → Nat) : ∀ ds : List D, A.renL r (ds.map .d) = ds.map .d
  | [] => rfl
  | d :: ds => by show A.d d :: A.renL r (ds.map .d) = _; rw [renL_ds r ds]; rfl
/-- rows of numbers -/
abbrev rws (rs : List (List Int)) : List D := rs.map fun r => .tuple (nts r)
theorem rws_get {rs : List (List Int)} {i : Nat} {a : A} (h : ((rws rs).map A.d)[i]? = some a) : ∃ r, rs[i]? = some r ∧ a = .d (.tuple (nts r)) := by
  obtain ⟨d, h1, rfl⟩ := mapd_get h
  rw [show rws rs = rs.map fun r => D.tuple (nts r) from rfl, List.getElem?_map] at h1
  cases q : rs[i]? with
  | none => rw [q] at h1; cases h1
  | some n => rw [q] at h1; cases h1; exact ⟨n, rfl, rfl⟩
theorem rws_len (rs : List (List Int)) : (rws rs).length = rs.length := by simp [rws]
theorem pyL_rws (rs : List (List Int)) : D.pyL (rws rs) = rs.map fun r => .tuple (r.map PyData.int) := by
  induction rs with
  | nil => rfl
  | cons r rs ih => show PyData.tuple (D.pyL (nts r)) :: D.pyL (rws rs) = _; rw [ih, pyL_nts]; rfl
theorem eqvAll_rows : ∀ a b : List (List Int), PyData.eqvAll (a.map fun r => .tuple (r.map PyData.int)) (b.map fun r => .tuple (r.map PyData.int)) = decide (a = b)
  | [], [] => by simp [PyData.eqvAll]
  | [], _ :: _ => by simp [PyData.eqvAll]
  | _ :: _, [] => by simp [PyData.eqvAll]
  | x :: a, y :: b => by
    show PyData.eqvAll (PyData.tuple (x.map PyData.int) :: a.map _) (PyData.tuple (y.map PyData.int) :: b.map _) = _
    simp only [PyData.eqvAll, PyData.eqv, eqvAll_rows a b, eqvAll_ints]
    by_cases h : x = y
    · subst h; simp
    · simp [h]
theorem eqv_rwsL (a b : List (List Int)) : PyData.eqv (.list (D.pyL (rws a))) (.list (D.pyL (rws b))) = decide (a = b) := by
  rw [pyL_rws, pyL_rws]
  simp only [PyData.eqv]
  exact eqvAll_rows a b
theorem lay_rows : ∀ rs : List (List Int), PyData.canLayAll0 (rs.map fun r => .tuple (r.map PyData.int)) = true
  | [] => by simp [PyData.canLayAll0]
  | n :: ns => by simp [PyData.canLayAll0, PyData.canLay0, lay_rows ns, lay_ints]
theorem depth_rows : ∀ rs : List (List Int), PyData.depthAll (rs.map fun r => .tuple (r.map PyData.int)) ≤ 1
  | [] => by simp [PyData.depthAll]
  | n :: ns => by
    have := depth_rows ns
    simp only [List.map_cons, PyData.depthAll, PyData.depth, depth_ints]
    omega
theorem shp_rwsL (rs : List (List Int)) : SeqAt.shaped (.list (D.pyL (rws rs))) = true := by
  rw [pyL_rws]
  have h1 := depth_rows rs
  show ((PyData.list (rs.map _)).canLay0 && decide ((PyData.list (rs.map _)).depth ≤ 64)) = true
  rw [Bool.and_eq_true]
  refine ⟨by simp only [PyData.canLay0]; exact lay_rows rs, decide_eq_true ?_⟩
  simp only [PyData.depth]; omega
end GL

namespace GL
open PySem PySem.Spec L2
/-! ### calls that hand on, or give, one own list of known data -/
theorem mrgN {L : Lo} : mrg [] L [] = L := by
  show putAll [] _ L ++ [] = L
  rw [List.append_nil]; rfl
theorem mrg0 {L : Lo} {ds : List D} : mrg [] L [.lst (ds.map .d)] = L ++ [.lst (ds.map .d)] := by
  show putAll [] _ L ++ [AO.lst (A.renL _ (ds.map .d))] = _
  rw [renL_ds]; rfl
theorem mrg1 {L : Lo} {n : Nat} {ds : List D} : mrg [n] L [.lst (ds.map .d)] = L.set n (.lst (ds.map .d)) := by
  show (L.set n (AO.lst (A.renL _ (ds.map .d)))) ++ [] = _
  rw [renL_ds, List.append_nil]
theorem set_same {L : Lo} {n : Nat} {o : AO} (h : L[n]? = some o) : L.set n o = L := by
  apply List.ext_getElem?
  intro i
  by_cases hi : n = i
  · subst hi
    rw [List.getElem?_set_self (List.getElem?_eq_some_iff.mp h).1, h]
  · rw [List.getElem?_set_ne hi]
theorem mrg1s {L : Lo} {n : Nat} {ds : List D} (h : L[n]? = some (.lst (ds.map .d))) : mrg [n] L [.lst (ds.map .d)] = L := by
  rw [mrg1, set_same h]
theorem pass1 {L : Lo} {n : Nat} {ds : List D} (h : L[n]? = some (.lst (ds.map .d))) : PassOk [n] L [.lst (ds.map .d)] := ⟨rfl, by simp, fun j o e => by
  cases j with
  | zero =>
    simp at e; subst e
    refine ⟨(by intro z; cases z), n, rfl, ?_⟩
    rw [h]
    show _ = some (AO.lst (A.renL _ (ds.map .d)))
    rw [renL_ds]
  | succ j => simp at e⟩
theorem ren0 {b : Nat} : ren [] b 0 = b := rfl
theorem ren1 {b n : Nat} : ren [n] b 0 = n := rfl
/-- a list that is no script: what is read of it -/
theorem pl_sq {L : Lo} {a : A} {as : List A} (h : plOf L a = some as) : sqOf L a = some as := by
  unfold plOf at h
  split at h
  · cases h; rfl
  · exact (show sqOf L (.own _) = some as by
      dsimp only [sqOf]
      rw [cel_eq h])
  · cases h
theorem pl_ty {L : Lo} {a : A} {as : List A} (h : plOf L a = some as) : tyA L a = some "list" := by
  unfold plOf at h
  split at h
  · cases h; rfl
  · dsimp only [tyA]
    rw [cel_eq h]
  · cases h
theorem pl_ls {L : Lo} {a : A} {as : List A} (h : plOf L a = some as) : lsOf L a = some as := by
  unfold plOf at h
  split at h
  · cases h; rfl
  · dsimp only [lsOf]
    rw [cel_eq h]
  · cases h
theorem pl_own {L : Lo} {n : Nat} {as : List A} (h : L[n]? = some (.lst as)) : plOf L (.own n) = some as := by
  show cel L n = some as
  unfold cel; rw [h]
theorem ls_own {L : Lo} {n : Nat} {as : List A} (h : L[n]? = some (.lst as)) : lsOf L (.own n) = some as := pl_ls (pl_own h)
theorem sq_own {L : Lo} {n : Nat} {as : List A} (h : L[n]? = some (.lst as)) : sqOf L (.own n) = some as := pl_sq (pl_own h)
theorem cel_own {L : Lo} {n : Nat} {as : List A} (h : L[n]? = some (.lst as)) : cel L n = some as := by unfold cel; rw [h]
/-- an item, by its place -/
theorem item_a {L : Lo} {a : A} {as : List A} {j : Nat} {x : A} (h : sqOf L a = some as) (e : as[j]? = some x) : itemA L a (.d (.int (j : Int))) = some x := by
  unfold itemA
  rw [h]
  exact atI_nat e
theorem nts_it (g : List Int) : (nts g).map A.d = g.map fun m => .d (.int m) := by simp [nts, List.map_map]
theorem zipA_el {as bs : List A} {i : Nat} {c : A} (h : (zipA as bs)[i]? = some c) : ∃ a b, as[i]? = some a ∧ bs[i]? = some b ∧ c = mkTup [a, b] := by
  unfold zipA at h
  rw [List.getElem?_zipWith] at h
  cases q1 : as[i]? with
  | none => rw [q1] at h; cases h
  | some a =>
    cases q2 : bs[i]? with
    | none => rw [q1, q2] at h; cases h
    | some b => rw [q1, q2] at h; cases h; exact ⟨a, b, rfl, rfl, rfl⟩
theorem zip_nts {xs ys : List Int} {i : Nat} {c : A} (h : (zipA ((nts xs).map .d) ((nts ys).map .d))[i]? = some c) : ∃ x y, xs[i]? = some x ∧ ys[i]? = some y ∧ c = .d (.tuple [.int x, .int y]) := by
  obtain ⟨a, b, h1, h2, rfl⟩ := zipA_el h
  obtain ⟨x, h3, rfl⟩ := nts_get h1
  obtain ⟨y, h4, rfl⟩ := nts_get h2
  exact ⟨x, y, h3, h4, rfl⟩
theorem last_at {L : Lo} {o : AO} : (L ++ [o])[L.length]? = some o := by
  rw [List.getElem?_append_right (Nat.le_refl _), Nat.sub_self]; rfl
theorem last_set {L : Lo} {o o' : AO} : (L ++ [o]).set L.length o' = L ++ [o'] := by
  rw [List.set_append_right _ _ (Nat.le_refl _), Nat.sub_self]; rfl
theorem bel_ds {k : Nat} : ∀ ds : List D, belL k (ds.map .d) = true
  | [] => rfl
  | d :: ds => by
    show (bel k (.d d) && belL k (ds.map .d)) = true
    rw [bel_ds ds]; rfl
/-- the last of the own lists is given alone -/
theorem Wk.last {J : Lo} {ds : List D} : Wk 0 [some (.own J.length)] (J ++ [.lst (ds.map .d)]) [some (.own 0)] [.lst (ds.map .d)] :=
  Wk.sel [J.length] ⟨by simp, rfl, fun j h => absurd h (Nat.not_lt_zero _), fun j n e => by
    cases j with
    | zero =>
      simp at e; subst e
      exact ⟨_, last_at, rfl, bel_ds ds⟩
    | succ j => simp at e⟩ rfl fun i a e => by
    cases i with
    | zero => simp at e; subst e; exact ⟨rfl, Nat.one_pos⟩
    | succ i => simp at e
end GL

namespace GL
open PySem PySem.Spec L2
section
variable {X : Cx} {Wx : WX} {a b c e o : Expr} {es : List Expr} {pos p2 : Pos} {ga gb gc go : GTE} {gs : GTA}
/-! ### slices -/
abbrev GTO := Sl → Lo → (Option Int → Lo → Prop) → Prop
def liftO (K : PySem.W.Frag) (g : GTO) : TO := fun σ H Q => ∃ (W : Wd) (s : Sl) (R : Option Int → Lo → Prop), W.H = H ∧ W.Ok K ∧ AtS K W s σ ∧ g s W.L R ∧ ∀ b W', R b W'.L → Grow W W' → W'.Ok K → Q b W'.H
structure GO (X : Cx) (e : Option Expr) (g : GTO) : Prop where
  po : PO X e (liftO X.K g)
theorem po_imp {e : Option Expr} {t t' : TO} (h : PO X e t) (q : ∀ σ H Q, t' σ H Q → t σ H Q) : PO X e t' := ⟨fun pins s σ H Q I x => h.run pins s σ H Q I (q _ _ _ x)⟩
def gNoP : GTO := fun _ L R => R none L
def gPart (ga : GTE) : GTO := fun s L R => ga s L fun x L1 => onI x fun i => R (some i) L1
theorem go_none : GO X none gNoP := ⟨po_imp po_none fun σ H Q h => by
  obtain ⟨W, s, R, e, ok, ats, h, fin⟩ := h
  exact e ▸ fin _ W h Grow.refl ok⟩
theorem go_some (h : GE X e ga) : GO X (some e) (gPart ga) := ⟨po_imp (po_some h.pe) fun σ H Q h => by
  obtain ⟨W, s, R, e, ok, ats, h, fin⟩ := h
  refine ⟨W, s, _, e, ok, ats, h, fun a W1 v q g1 ok1 at1 => ?_⟩
  obtain ⟨i, ei, q⟩ := onI_el q
  subst ei
  exact ⟨i, at1.int, fin _ W1 q g1 ok1⟩⟩
def cutL {α : Type} (xs : List α) (lo hi : Option Int) : List α := (xs.drop (HT.sIx xs.length 0 lo)).take (HT.sIx xs.length xs.length hi - HT.sIx xs.length 0 lo)
theorem AtL.take' {K : PySem.W.Frag} {W : Wd} : ∀ {as : List A} {vs : List V} (n : Nat), AtL K W as vs → AtL K W (as.take n) (vs.take n)
  | _, _, 0, _ => by simpa using AtL.nil
  | _, _, n + 1, .nil => by simpa using AtL.nil
  | _, _, n + 1, .cons h t => by simpa using AtL.cons h (AtL.take' n t)
theorem AtL.drop' {K : PySem.W.Frag} {W : Wd} : ∀ {as : List A} {vs : List V} (n : Nat), AtL K W as vs → AtL K W (as.drop n) (vs.drop n)
  | _, _, 0, h => by simpa using h
  | _, _, n + 1, .nil => by simpa using AtL.nil
  | _, _, n + 1, .cons h t => by simpa using AtL.drop' n t
theorem cut_at {K : PySem.W.Frag} {W : Wd} {as : List A} {vs : List V} (h : AtL K W as vs) (lo hi : Option Int) : AtL K W (cutL as lo hi) (cutV vs lo hi) := by
  unfold cutL cutV
  rw [h.length]
  exact AtL.take' _ (AtL.drop' _ h)
theorem cut_map {α β : Type} (f : α → β) (xs : List α) (lo hi : Option Int) : cutL (xs.map f) lo hi = (cutL xs lo hi).map f := by
  unfold cutL
  rw [List.length_map, List.map_take, List.map_drop]
/-- xs[lo:hi], a new list: own; frozen -/
def gSlO (ga : GTE) (gl gh : GTO) : GTE := fun s L R => ga s L fun x L1 => gl s L1 fun lo L2 => gh s L2 fun hi L3 => onO (plOf L3 x) fun as => R (.own L3.length) (L3 ++ [.lst (cutL as lo hi)])
def gSlF (ga : GTE) (gl gh : GTO) : GTE := fun s L R => ga s L fun x L1 => gl s L1 fun lo L2 => gh s L2 fun hi L3 => onO (plOf L3 x) fun as => ∃ ds : List D, as = ds.map .d ∧ R (.d (.list (cutL ds lo hi))) L3
theorem g_slLO {lo hi : Option Expr} {gl gh : GTO} (ha : GE X a ga) (hl : GO X lo gl) (hh : GO X hi gh) : GE X (.Subscript a (.Slice lo hi none p2) pos) (gSlO ga gl gh) :=
  ⟨pe_imp (pe_slice sl_list ha.pe hl.po hh.po) fun σ H Q h => by
    obtain ⟨W, s, R, e, ok, ats, h, fin⟩ := h
    refine ⟨W, s, _, e, ok, ats, h, fun x W1 v q g1 ok1 at1 => ⟨W1, s, _, rfl, ok1, ats.mono g1, q, fun lo W2 q2 g2 ok2 => ⟨W2, s, _, rfl, ok2, ats.mono (g1.trans g2), q2, fun hi W3 q3 g3 ok3 => ?_⟩⟩⟩
    obtain ⟨as, ea, q4⟩ := onO_el q3
    obtain ⟨p, us, rfl, hp, hl⟩ := pl_at (at1.mono (g2.trans g3)) ok3 ea
    refine ⟨p, us, rfl, SqL.of hp, fun l hl' => ?_⟩
    exact fin _ (W3.new l (.lst (cutL as lo hi)) (.lst (cutV us lo hi))) _ q4 (g1.trans (g2.trans (g3.trans (Wd.new_grow ok3 hl' _ _)))) (Wd.new_ok ok3 hl' ⟨_, rfl, cut_at hl lo hi⟩) (Wd.new_own _ _)⟩
theorem g_slL {lo hi : Option Expr} {gl gh : GTO} (ha : GE X a ga) (hl : GO X lo gl) (hh : GO X hi gh) : GE X (.Subscript a (.Slice lo hi none p2) pos) (gSlF ga gl gh) :=
  ⟨pe_imp (pe_slice sl_list ha.pe hl.po hh.po) fun σ H Q h => by
    obtain ⟨W, s, R, e, ok, ats, h, fin⟩ := h
    refine ⟨W, s, _, e, ok, ats, h, fun x W1 v q g1 ok1 at1 => ⟨W1, s, _, rfl, ok1, ats.mono g1, q, fun lo W2 q2 g2 ok2 => ⟨W2, s, _, rfl, ok2, ats.mono (g1.trans g2), q2, fun hi W3 q3 g3 ok3 => ?_⟩⟩⟩
    obtain ⟨as, ea, ds, ed, q4⟩ := onO_el q3
    subst ed
    obtain ⟨p, us, rfl, hp, hl⟩ := pl_at (at1.mono (g2.trans g3)) ok3 ea
    refine ⟨p, us, rfl, SqL.of hp, fun l hl' => ?_⟩
    have hc := cut_at hl lo hi
    rw [cut_map] at hc
    exact fin _ (W3.frz l (.lst (cutV us lo hi))) _ q4 (g1.trans (g2.trans (g3.trans (Wd.frz_grow ok3 hl' _)))) (Wd.frz_ok ok3 hl' _) (lst_at hc.ds ok3 hl')⟩
/-- t[lo:hi] of a tuple; the whole of it is itself -/
def gSlTp (ga : GTE) (gl gh : GTO) : GTE := fun s L R => ga s L fun x L1 => gl s L1 fun lo L2 => gh s L2 fun hi L3 => onO (tdOf x) fun ds =>
  (HT.sIx ds.length 0 lo = 0 ∧ HT.sIx ds.length ds.length hi = ds.length → R x L3) ∧ (¬ (HT.sIx ds.length 0 lo = 0 ∧ HT.sIx ds.length ds.length hi = ds.length) → R (.d (.tuple (cutL ds lo hi))) L3)
theorem g_slT {lo hi : Option Expr} {gl gh : GTO} (ha : GE X a ga) (hl : GO X lo gl) (hh : GO X hi gh) : GE X (.Subscript a (.Slice lo hi none p2) pos) (gSlTp ga gl gh) :=
  ⟨pe_imp (pe_slice sl_tupA ha.pe hl.po hh.po) fun σ H Q h => by
    obtain ⟨W, s, R, e, ok, ats, h, fin⟩ := h
    refine ⟨W, s, _, e, ok, ats, h, fun x W1 v q g1 ok1 at1 => ⟨W1, s, _, rfl, ok1, ats.mono g1, q, fun lo W2 q2 g2 ok2 => ⟨W2, s, _, rfl, ok2, ats.mono (g1.trans g2), q2, fun hi W3 q3 g3 ok3 => ?_⟩⟩⟩
    obtain ⟨ds, ed, q4, q5⟩ := onO_el q3
    have at3 := at1.mono (g2.trans g3)
    obtain ⟨p, us, rfl, hp, hl⟩ := td_at at3 ed
    have hlen := hl.length
    refine ⟨p, us, rfl, sqT_mono ok3.base hp, fun hw => ?_, fun hw l hl' => ?_⟩
    · rw [hlen] at hw
      exact fin _ W3 _ (q4 hw) (g1.trans (g2.trans g3)) ok3 at3
    · rw [hlen] at hw
      have hc : DXL W3.B (cutV us lo hi) (cutL ds lo hi) := by
        unfold cutL cutV
        rw [hlen]
        exact (hl.drop _).take _
      exact fin _ (W3.frz l (.tup (cutV us lo hi))) _ (q5 hw) (g1.trans (g2.trans (g3.trans (Wd.frz_grow ok3 hl' _)))) (Wd.frz_ok ok3 hl' _) (.d (.tup upd_same (DXL.mono (Wd.frz_grow ok3 hl' _).base _ _ hc)))⟩
theorem cut_to {α : Type} {xs : List α} {n : Nat} (h : n ≤ xs.length) : cutL xs none (some (n : Int)) = xs.take n := by
  unfold cutL
  have e1 : HT.sIx xs.length 0 none = 0 := by simp [HT.sIx]
  have e2 : HT.sIx xs.length xs.length (some (n : Int)) = n := by
    simp only [HT.sIx]
    rw [if_neg (by omega)]
    omega
  rw [e1, e2]; simp
theorem cut_from {α : Type} {xs : List α} {n : Nat} (h : n ≤ xs.length) : cutL xs (some (n : Int)) none = xs.drop n := by
  unfold cutL
  have e2 : HT.sIx xs.length xs.length none = xs.length := by simp [HT.sIx]
  have e1 : HT.sIx xs.length 0 (some (n : Int)) = n := by
    simp only [HT.sIx]
    rw [if_neg (by omega)]
    omega
  rw [e1, e2, List.take_of_length_le (by rw [List.length_drop]; exact Nat.le_refl _)]
theorem cut_all {α : Type} {xs : List α} : cutL xs none none = xs := by
  unfold cutL
  have e1 : HT.sIx xs.length 0 none = 0 := by simp [HT.sIx]
  have e2 : HT.sIx xs.length xs.length none = xs.length := by simp [HT.sIx]
  rw [e1, e2]; simp
theorem cut_mid {α : Type} {xs : List α} {m n : Nat} (h : m ≤ n) (h2 : n ≤ xs.length) : cutL xs (some (m : Int)) (some (n : Int)) = (xs.drop m).take (n - m) := by
  unfold cutL
  have e1 : HT.sIx xs.length 0 (some (m : Int)) = m := by
    simp only [HT.sIx]
    rw [if_neg (by omega)]
    omega
  have e2 : HT.sIx xs.length xs.length (some (n : Int)) = n := by
    simp only [HT.sIx]
    rw [if_neg (by omega)]
    omega
  rw [e1, e2]
/-! ### a number in a list or tuple of numbers -/
def gInS (neg : Bool) : G2 := fun a b L R => onI a fun x => ∃ ns : List Int, sqOf L b = some ((nts ns).map .d) ∧ R (.d (.bool (if neg then !decide (x ∈ ns) else decide (x ∈ ns)))) L
theorem inV_ints (x : Int) : ∀ ns : List Int, inV (.int x) (ns.map V.int) = decide (x ∈ ns)
  | [] => by simp [inV]
  | n :: ns => by
    have ih := inV_ints x ns
    unfold inV at ih ⊢
    rw [List.map_cons, List.any_cons, ih]
    show ((n == x) || _) = _
    by_cases h : n = x
    · subst h; simp
    · have h2 : ¬ x = n := fun z => h z.symm
      simp [h, h2]
theorem flat_ints (ns : List Int) : (ns.map V.int).all flatV = true := by
  rw [List.all_map]
  exact List.all_eq_true.mpr fun _ _ => rfl
theorem AtL.ints' {K : PySem.W.Frag} {W : Wd} {ns : List Int} {vs : List V} (h : AtL K W ((nts ns).map .d) vs) : vs = ns.map V.int := (AtL.ds h).ints
theorem c_inS : OpG X (compareOp .In) (gInS false) := opr_imp op_in_seq fun x y H Q h => by
    obtain ⟨W, a, b, R, e, ok, a1, a2, h, fin⟩ := h
    obtain ⟨z, ez, ns, hs, h2⟩ := onI_el h
    subst e ez
    obtain ⟨p, vs, rfl, hq, hl⟩ := sq_at a2 ok hs
    rw [hl.ints'] at hq
    refine ⟨p, ns.map V.int, rfl, hq, by rw [a1.int]; rfl, flat_ints ns, ?_⟩
    rw [a1.int, inV_ints]
    exact fin _ W _ h2 Grow.refl ok (.d (.bl _))
theorem c_notInS : OpG X (compareOp .NotIn) (gInS true) := opr_imp op_notIn_seq fun x y H Q h => by
    obtain ⟨W, a, b, R, e, ok, a1, a2, h, fin⟩ := h
    obtain ⟨z, ez, ns, hs, h2⟩ := onI_el h
    subst e ez
    obtain ⟨p, vs, rfl, hq, hl⟩ := sq_at a2 ok hs
    rw [hl.ints'] at hq
    refine ⟨p, ns.map V.int, rfl, hq, by rw [a1.int]; rfl, flat_ints ns, ?_⟩
    rw [a1.int, inV_ints]
    exact fin _ W _ h2 Grow.refl ok (.d (.bl _))
theorem o_or : OpG X (binaryOp .BitOr) (gI fun i j => .int (Builtin.bitOr i j)) := og_I0 op_or fun _ _ _ => .int _
/-! ### an own list of two joined -/
def gCatO : G2 := fun a b L R => onO (plOf L a) fun xs => onO (plOf L b) fun ys => xs.length + ys.length ≤ sizeLine ∧ R (.own L.length) (L ++ [.lst (xs ++ ys)])
theorem o_catLO : OpG X (binaryOp .Add) gCatO := opr_imp op_cat fun x y H Q h => by
    obtain ⟨W, a, b, R, e, ok, a1, a2, h, fin⟩ := h
    obtain ⟨xs, ex, h1⟩ := onO_el h
    obtain ⟨ys, ey, hz, h2⟩ := onO_el h1
    subst e
    obtain ⟨p, us, rfl, hp, hl⟩ := pl_at a1 ok ex
    obtain ⟨q, vs, rfl, hq, hl2⟩ := pl_at a2 ok ey
    exact ⟨p, q, us, vs, rfl, rfl, hp, hq, by rw [← hl.length, ← hl2.length]; exact hz, fun l hl' => fin _ (W.new l (.lst (xs ++ ys)) (.lst (us ++ vs))) _ h2 (Wd.new_grow ok hl' _ _) (Wd.new_ok ok hl' ⟨_, rfl, hl.append hl2⟩) (Wd.new_own _ _)⟩
/-- tuples joined, of any values: new, of frozen data -/
def gCatTT : G2 := fun a b L R => onO (tdOf a) fun xs => onO (tdOf b) fun ys => xs.length + ys.length ≤ sizeLine ∧ (xs = [] → R b L) ∧ (xs ≠ [] → ys = [] → R a L) ∧ (xs ≠ [] → ys ≠ [] → R (.d (.tuple (xs ++ ys))) L)
theorem o_catTT : OpG X (binaryOp .Add) gCatTT := opr_imp op_catA fun x y H Q h => by
    obtain ⟨W, a, b, R, e, ok, a1, a2, h, fin⟩ := h
    obtain ⟨xs, ex, h1⟩ := onO_el h
    obtain ⟨ys, ey, hz, q1, q2, q3⟩ := onO_el h1
    subst e
    obtain ⟨p, us, rfl, hp, hl⟩ := td_at a1 ex
    obtain ⟨q, vs, rfl, hq, hl2⟩ := td_at a2 ey
    have n1 : ∀ {us : List V} {xs : List D}, DXL W.B us xs → (us = [] ↔ xs = []) := fun {us xs} h => by
      cases h <;> simp
    refine ⟨p, q, us, vs, rfl, rfl, sqT_mono ok.base hp, sqT_mono ok.base hq, by rw [hl.length, hl2.length]; exact hz, fun z => fin _ W _ (q1 ((n1 hl).mp z)) Grow.refl ok a2, fun z1 z2 => fin _ W _ (q2 (fun z => z1 ((n1 hl).mpr z)) ((n1 hl2).mp z2)) Grow.refl ok a1, fun z1 z2 l hl' => ?_⟩
    exact fin _ (W.frz l (.tup (us ++ vs))) _ (q3 (fun z => z1 ((n1 hl).mpr z)) (fun z => z2 ((n1 hl2).mpr z))) (Wd.frz_grow ok hl' _) (Wd.frz_ok ok hl' _) (.d (.tup upd_same (DXL.mono (Wd.frz_grow ok hl' _).base _ _ (hl.append hl2))))
end
/-! ### enumerate -/
def enA (as : List A) : List A := as.zipIdx.map fun p => mkTup [.d (.int (p.2 : Nat)), p.1]
theorem enA_len (as : List A) : (enA as).length = as.length := by simp [enA]
theorem enA_get {as : List A} {i : Nat} {a : A} (h : as[i]? = some a) : (enA as)[i]? = some (mkTup [.d (.int (i : Nat)), a]) := by
  unfold enA
  rw [List.getElem?_map, List.getElem?_zipIdx, h]
  simp
theorem enA_el {as : List A} {i : Nat} {c : A} (h : (enA as)[i]? = some c) : ∃ a, as[i]? = some a ∧ c = mkTup [.d (.int (i : Nat)), a] := by
  have hi : i < as.length := by rw [← enA_len as]; exact (List.getElem?_eq_some_iff.mp h).1
  have e := List.getElem?_eq_getElem hi
  rw [enA_get e] at h
  exact ⟨_, e, (Option.some.inj h).symm⟩
theorem itok_enum {K : PySem.W.Frag} {W : Wd} {x : A} {u : V} {as : List A} {p : Addr} (hu : At K W x u) (ep : u = .ref p) : ItOk K W (enA as) (fun L => lsOf L x = some as) (Ite K p) where
  go := fun i W1 g1 ok1 hc hi => by
    rw [enA_len] at hi
    obtain ⟨p2, us, e1, hq1, hl1⟩ := ls_at (hu.mono g1) ok1 hc
    rw [ep] at e1; cases e1
    obtain ⟨a, ea, _⟩ := hl1.get (List.getElem?_eq_getElem hi)
    exact ⟨us, a, hq1, ea⟩
  stop := fun W1 g1 ok1 hc => by
    obtain ⟨p2, us, e1, hq1, hl1⟩ := ls_at (hu.mono g1) ok1 hc
    rw [ep] at e1; cases e1
    exact ⟨us, hq1, by rw [← hl1.length, enA_len]; exact Nat.le_refl _⟩
  yld := fun i W1 z H' g1 ok1 hc hi hy => by
    rw [enA_len] at hi
    obtain ⟨p2, us, e1, hq1, hl1⟩ := ls_at (hu.mono g1) ok1 hc
    rw [ep] at e1; cases e1
    obtain ⟨a, ea, aa⟩ := hl1.get (List.getElem?_eq_getElem hi)
    obtain ⟨T, x1, rfl, hT, rfl, f1⟩ := hy
    have z1 := f1 us hq1
    rw [ea] at z1; cases z1
    obtain ⟨W2, w1, w2, w3, w4, w5⟩ := pair_at ok1 hT (.d (.int _)) aa
    exact ⟨W2, _, enA_get (List.getElem?_eq_getElem hi), w1, w2, w3, w4, w5⟩
section
variable {X : Cx} {Wx : WX} {a b c e o : Expr} {es : List Expr} {pos p2 : Pos} {ga gb gc go : GTE} {gs : GTA}
def gIEn (gs : GTA) : GTI := fun s L R => gs s L fun as L1 => on1 as fun x => onO (lsOf L1 x) fun xs => R (enA xs) (fun L2 => lsOf L2 x = some xs) L1
theorem i_enum {p tpos : Pos} {elts : List Expr} {kk : Nat} (hg : Gl X "enumerate") (hm : X.mg "enumerate" = none) (ha : GA X [a] gs) (hs : starEach [a] X.env = [(false, eval a X.env)] := by rfl) :
    GI X (.Tuple elts kk tpos) (.Call (.Name "enumerate" p) [a] [] pos) (gIEn gs) := ⟨pi_imp (pi_enum hg hm ha.pa hs) fun σ H Q h => by
  obtain ⟨W, s, R, e, ok, ats, h, fin⟩ := h
  refine ⟨W, s, _, e, ok, ats, h, fun as W1 vs q g1 ok1 at1 => ?_⟩
  obtain ⟨x, ea, q1⟩ := on1_el q
  obtain ⟨xs, ex, q2⟩ := onO_el q1
  subst ea
  obtain ⟨u, rfl, hu⟩ := at1.one
  obtain ⟨p1, us, e1, hq1, hl1⟩ := ls_at hu ok1 ex
  exact ⟨p1, us, by rw [e1], hq1, fin _ _ W1 _ q2 g1 ok1 (itok_enum hu e1)⟩⟩
/-! ### more methods of an own list -/
def gPopAt : Nat → List A → GC := fun n xs as L R => on1 as fun a => onI a fun i => ∃ (k : Nat) (y : A), (-(2 ^ 63) ≤ i ∧ i < 2 ^ 63) ∧ seqIndex? i xs.length = some k ∧ xs[k]? = some y ∧ R y (L.set n (.lst (xs.eraseIdx k)))
theorem g_popAt {apos cpos : Pos} (ho : GE X o go) (ha : GA X (e :: es) gs) (hbase : attributeBase o "pop" X.env (eval o X.env) = eval o X.env := by rfl)
    (hfew : ((backTo cpos (starEach (e :: es) X.env)).all (fun x => !x.1) && (backToKw cpos (keywordEach [] X.env)).all (fun x => x.1.isSome)
      && decide ((e :: es).length + ([] : List Keyword).length + (if ([] : List Keyword).isEmpty then 0 else 1) < 30)) = true := by rfl)
    (hline : (apos.endLine == cpos.line) = true := by rfl) (hs : starEach (e :: es) X.env = (false, eval e X.env) :: starEach es X.env := by rfl) (hplain : (backTo cpos (starEach es X.env)).any (·.1) = false := by rfl) :
    GE X (.Call (.Attribute o "pop" apos) (e :: es) [] cpos) (gMl go gs gPopAt) :=
  g_ml PySem.F.slot_list_pop PySem.F.type_list_pop mt_popAt (fun W n xs as us vs R Q ok hn hH hl ha h fin => by
    obtain ⟨a, ea, h1⟩ := on1_el h
    obtain ⟨i, ei, k, y, ⟨b1, b2⟩, hk, hy, h2⟩ := onI_el h1
    subst ea ei
    obtain ⟨v, rfl, at1⟩ := ha.one
    obtain ⟨w, hw, aw⟩ := hl.get hy
    have g := Wd.put_grow ok hn (by intro z; cases z) (.lst (xs.eraseIdx k)) (.lst (us.eraseIdx k))
    exact ⟨_, us, i, k, w, rfl, by rw [at1.int], hH, b1, b2, by rw [← hl.length]; exact hk, hw, fin _ (W.put n (.lst (xs.eraseIdx k)) (.lst (us.eraseIdx k))) _ h2 g (Wd.put_ok ok hn (by intro z; cases z) ⟨_, rfl, hl.eraseIdx k⟩) (aw.mono g)⟩) ho ha hbase hfew hline hs hplain
def gRem : Nat → List A → GC := fun n xs as L R => on1 as fun a => onI a fun k => ∃ (ns : List Int) (j : Nat), xs = (nts ns).map .d ∧ ns[j]? = some k ∧ (∀ m : Nat, m < j → ns[m]? ≠ some k) ∧ R (.d .none) (L.set n (.lst ((nts (ns.eraseIdx j)).map .d)))
theorem nts_at {K : PySem.W.Frag} {W : Wd} : ∀ ns : List Int, AtL K W ((nts ns).map .d) (ns.map V.int)
  | [] => .nil
  | n :: ns => .cons (.d (.int n)) (nts_at ns)
theorem g_rem {apos cpos : Pos} (ho : GE X o go) (ha : GA X (e :: es) gs) (hbase : attributeBase o "remove" X.env (eval o X.env) = eval o X.env := by rfl)
    (hfew : ((backTo cpos (starEach (e :: es) X.env)).all (fun x => !x.1) && (backToKw cpos (keywordEach [] X.env)).all (fun x => x.1.isSome)
      && decide ((e :: es).length + ([] : List Keyword).length + (if ([] : List Keyword).isEmpty then 0 else 1) < 30)) = true := by rfl)
    (hline : (apos.endLine == cpos.line) = true := by rfl) (hs : starEach (e :: es) X.env = (false, eval e X.env) :: starEach es X.env := by rfl) (hplain : (backTo cpos (starEach es X.env)).any (·.1) = false := by rfl) :
    GE X (.Call (.Attribute o "remove" apos) (e :: es) [] cpos) (gMl go gs gRem) :=
  g_ml PySem.F.slot_list_remove PySem.F.type_list_remove mt_remove (fun W n xs as us vs R Q ok hn hH hl ha h fin => by
    obtain ⟨a, ea, h1⟩ := on1_el h
    obtain ⟨k, ek, ns, j, rfl, hj, hno, h2⟩ := onI_el h1
    subst ea ek
    obtain ⟨v, rfl, at1⟩ := ha.one
    have eu := hl.ints'
    subst eu
    exact ⟨_, ns, k, j, rfl, by rw [at1.int], hH, hj, hno, fin _ (W.put n (.lst ((nts (ns.eraseIdx j)).map .d)) (.lst ((ns.eraseIdx j).map V.int))) _ h2 (Wd.put_grow ok hn (by intro z; cases z) _ _) (Wd.put_ok ok hn (by intro z; cases z) ⟨_, rfl, nts_at _⟩) (.d .non)⟩) ho ha hbase hfew hline hs hplain
def gRev : Nat → List A → Lo → KA → Prop := fun n xs L R => R (.d .none) (L.set n (.lst xs.reverse))
theorem g_rev {apos cpos : Pos} (ho : GE X o go) (hbase : attributeBase o "reverse" X.env (eval o X.env) = eval o X.env := by rfl) (hline : (apos.endLine == cpos.line) = true := by rfl) : GE X (.Call (.Attribute o "reverse" apos) [] [] cpos) (gMl0 go gRev) :=
  g_ml0 PySem.F.slot_list_reverse PySem.F.type_list_reverse mt_reverse (fun W n xs us R Q ok hn hH hl h fin => by
    exact ⟨_, us, rfl, rfl, hH, fin _ (W.put n (.lst xs.reverse) (.lst us.reverse)) _ h (Wd.put_grow ok hn (by intro z; cases z) _ _) (Wd.put_ok ok hn (by intro z; cases z) ⟨_, rfl, hl.reverse⟩) (.d .non)⟩) ho hbase hline
/-- sorted(numbers), a new list, frozen -/
def gSortI : GC := fun as L R => on1 as fun a => ∃ ns : List Int, lsOf L a = some ((nts ns).map .d) ∧ ∀ ns' : List Int, ns'.Perm ns → ns'.Pairwise (· ≤ ·) → R (.d (.list (nts ns'))) L
theorem nts_dx {B : Hp} : ∀ ns : List Int, DXL B (ns.map V.int) (nts ns)
  | [] => .nil
  | n :: ns => .cons (.int n) (nts_dx ns)
theorem k_sorted : CallG X (.builtin "sorted") gSortI := callr_imp cr_sortedI fun vs H Q h => by
  obtain ⟨W, as, R, e, ok, ats, h0, fin⟩ := h
  obtain ⟨a, ea, ns, hs, h⟩ := on1_el h0
  subst e ea
  obtain ⟨v, rfl, at1⟩ := ats.one
  obtain ⟨p, us, rfl, hq, hl⟩ := ls_at at1 ok hs
  have eu := hl.ints'
  subst eu
  exact ⟨p, ns, rfl, hq, fun ns' l h1 h2 hl' => fin _ (W.frz l (.lst (ns'.map V.int))) _ (h ns' h1 h2) (Wd.frz_grow ok hl' _) (Wd.frz_ok ok hl' _) (lst_at (nts_dx ns') ok hl')⟩
/-! ### dicts by tuples of numbers -/
abbrev kI (r : List Int) : List Key := r.map Sum.inl
theorem kI_inj {r t : List Int} (h : kI r = kI t) : r = t := by
  have : Function.Injective (Sum.inl : Int → Int ⊕ Str) := fun a b h => Sum.inl.inj h
  induction r generalizing t with
  | nil => cases t with
    | nil => rfl
    | cons _ _ => simp [kI] at h
  | cons x r ih => cases t with
    | nil => simp [kI] at h
    | cons y t =>
      simp only [kI, List.map_cons, List.cons.injEq] at h
      rw [this h.1, ih h.2]
def valA {κ : Type} [DecidableEq κ] (kvs : List (κ × A)) (k : κ) : Option A := (kvs.find? fun kv => decide (kv.1 = k)).map (·.2)
def putA {κ : Type} [DecidableEq κ] (kvs : List (κ × A)) (k : κ) (v : A) : List (κ × A) :=
  if (kvs.any fun kv => decide (kv.1 = k)) = true then kvs.map (fun kv => if kv.1 = k then (kv.1, v) else kv) else kvs ++ [(k, v)]
section
variable {κ : Type} [DecidableEq κ]
theorem valA_nil {k : κ} : valA ([] : List (κ × A)) k = none := rfl
theorem valA_cons (p : κ × A) (r : List (κ × A)) (k : κ) : valA (p :: r) k = if p.1 = k then some p.2 else valA r k := by
  unfold valA
  rw [List.find?_cons]
  by_cases h : p.1 = k
  · simp [h]
  · simp [h]
theorem valA_any (k : κ) : ∀ kvs : List (κ × A), (kvs.any fun kv => decide (kv.1 = k)) = (valA kvs k).isSome
  | [] => rfl
  | p :: r => by
    rw [List.any_cons, valA_any k r, valA_cons]
    by_cases h : p.1 = k
    · simp [h]
    · simp [h]
theorem valA_put (kvs : List (κ × A)) (k j : κ) (y : A) : valA (putA kvs k y) j = if j = k then some y else valA kvs j := by
  unfold putA
  by_cases ha : (kvs.any fun kv => decide (kv.1 = k)) = true
  · rw [if_pos ha]
    induction kvs with
    | nil => simp at ha
    | cons p r ih =>
      rw [List.map_cons, valA_cons, valA_cons]
      by_cases hp : p.1 = k
      · by_cases hj : j = k
        · subst hj; simp [hp]
        · have hj2 : ¬ k = j := fun z => hj z.symm
          simp only [hp, if_true, hj2, if_false, hj]
          by_cases hr : (r.any fun kv => decide (kv.1 = k)) = true
          · have := ih hr
            rw [if_neg hj] at this
            exact this
          · have e : r.map (fun kv => if kv.1 = k then (kv.1, y) else kv) = r := by
              have hr' : ∀ x ∈ r, ¬ x.1 = k := fun x hx z => hr (List.any_eq_true.mpr ⟨x, hx, decide_eq_true z⟩)
              conv => rhs; rw [← List.map_id r]
              exact List.map_congr_left fun x hx => by rw [if_neg (hr' x hx)]; rfl
            rw [e]
      · have ha' : (r.any fun kv => decide (kv.1 = k)) = true := by
          rw [List.any_cons] at ha
          simpa [hp] using ha
        rw [if_neg hp, ih ha']
        by_cases hj : j = k
        · subst hj
          rw [if_neg hp]; simp
        · simp [hj]
  · rw [if_neg ha]
    rw [valA_any] at ha
    have hn : valA kvs k = none := by
      cases q : valA kvs k with
      | none => rfl
      | some x => rw [q] at ha; simp at ha
    have snoc : ∀ l : List (κ × A), valA (l ++ [(k, y)]) j = (valA l j).or (if k = j then some y else none) := fun l => by
      induction l with
      | nil => rw [List.nil_append, valA_cons, valA_nil]; rfl
      | cons p r ih =>
        rw [List.cons_append, valA_cons, valA_cons, ih]
        by_cases h : p.1 = j
        · simp [h]
        · simp [h]
    rw [snoc]
    by_cases hj : j = k
    · subst hj; rw [hn]; simp
    · have hj2 : ¬ k = j := fun z => hj z.symm
      rw [if_neg hj, if_neg hj2]; cases valA kvs j <;> rfl
theorem putA_len (c : List (κ × A)) (k : κ) (x : A) : (putA c k x).length ≤ c.length + 1 := by
  unfold putA
  split
  · rw [List.length_map]; omega
  · rw [List.length_append]; exact Nat.le_refl _
theorem putA_old {c : List (κ × A)} {k : κ} {x : A} (h : (valA c k).isSome = true) : (putA c k x).length = c.length := by
  unfold putA
  rw [if_pos (by rw [valA_any]; exact h), List.length_map]
end
theorem val_pair {κ : Type} [DecidableEq κ] {K : PySem.W.Frag} {W : Wd} {k : κ} : ∀ {kvs : List (κ × A)} {ks : List (κ × V)}, Paired (fun p q => p.1 = q.1 ∧ At K W p.2 q.2) kvs ks → ∀ {x : A}, valA kvs k = some x → ∃ v, valV ks k = some v ∧ At K W x v
  | _, _, .nil, _, h => by cases h
  | p :: r, q :: t, .cons ⟨e1, e2⟩ h, x, hx => by
    rw [valA_cons] at hx
    by_cases hk : p.1 = k
    · rw [if_pos hk] at hx; cases hx
      exact ⟨q.2, valV_pos (e1.symm.trans hk), e2⟩
    · rw [if_neg hk] at hx
      obtain ⟨v, h1, h2⟩ := val_pair h hx
      exact ⟨v, by rw [valV_neg (fun z => hk (e1.trans z))]; exact h1, h2⟩
theorem put_pair {κ : Type} [DecidableEq κ] {K : PySem.W.Frag} {W : Wd} {k : κ} {x : A} {v : V} (hx : At K W x v) {kvs : List (κ × A)} {ks : List (κ × V)} (h : Paired (fun p q => p.1 = q.1 ∧ At K W p.2 q.2) kvs ks) : Paired (fun p q => p.1 = q.1 ∧ At K W p.2 q.2) (putA kvs k x) (putK ks k v) := by
  have ha : (kvs.any fun kv => decide (kv.1 = k)) = (ks.any fun kv => decide (kv.1 = k)) := by
    clear hx
    induction h with
    | nil => rfl
    | cons r t ih => rw [List.any_cons, List.any_cons, ih, r.1]
  unfold putA putK
  rw [ha]
  by_cases hh : (ks.any fun kv => decide (kv.1 = k)) = true
  · rw [if_pos hh, if_pos hh]
    clear ha hh
    induction h with
    | nil => exact .nil
    | @cons p q l m r t ih =>
      refine .cons ?_ ih
      by_cases hk : p.1 = k
      · have hq : q.1 = k := r.1.symm.trans hk
        simp only [hk, hq, if_true]
        exact ⟨trivial, hx⟩
      · have hq : ¬ q.1 = k := fun z => hk (r.1.trans z)
        simp only [hk, hq, if_false]
        exact r
  · rw [if_neg hh, if_neg hh]
    clear ha hh
    induction h with
    | nil => exact .cons ⟨rfl, hx⟩ .nil
    | cons r t ih => exact .cons r ih
theorem kI_dx {B : Hp} {r : List Int} {vs : List V} (h : DXL B vs (nts r)) : vs = (kI r).map kV := by
  rw [h.ints]
  simp [kI, List.map_map, kV, Function.comp_def]
/-- d[t], t a plain tuple of numbers -/
def gDg (go gi : GTE) : GTE := fun s L R => go s L fun o L1 => gi s L1 fun t L2 => onOwn o fun n => ∃ kvs r x, L2[n]? = some (.dT kvs) ∧ t = .d (.tuple (nts r)) ∧ valA kvs (kI r) = some x ∧ R x L2
theorem g_dgT {i : Expr} {gi : GTE} (hu : X.A.units + 1 < cLine) (ho : GE X o go) (hi : GE X i gi) (hs : NoSl i := by exact fun _ _ => rfl) : GE X (.Subscript o i pos) (gDg go gi) :=
  ⟨pe_imp (pe_dget hu ho.pe hi.pe hs) fun σ H Q h => by
    obtain ⟨W, s, R, e, ok, ats, h, fin⟩ := h
    refine ⟨W, s, _, e, ok, ats, h, fun o W1 v q g1 ok1 at1 => ⟨W1, s, _, rfl, ok1, ats.mono g1, q, fun t W2 u q2 g2 ok2 at2 => ?_⟩⟩
    obtain ⟨n, rfl, kvs, r, x, hn, rfl, hv, q3⟩ := onOwn_el q2
    obtain ⟨rfl, hlt⟩ := at1.own_iff
    obtain ⟨h', e1, ⟨ks, rfl, hp⟩, e2⟩ := ok2.own n _ hn (by intro z; cases z)
    obtain ⟨w, hw, aw⟩ := val_pair hp hv
    obtain ⟨p, us, rfl, hB, hl⟩ := at2.tpl
    rw [kI_dx hl] at hB
    refine ⟨_, w, rfl, ?_, fin _ W2 _ q3 (g1.trans g2) ok2 aw⟩
    rw [← g2.rho n hlt, ← hw]
    exact DGet.t e1 (ok2.base _ _ hB)⟩
def gDp (ga go gi : GTE) : GTS := fun D s L => ga s L fun v L1 => go s L1 fun o L2 => gi s L2 fun t L3 => onOwn o fun n => ∃ kvs r, L3[n]? = some (.dT kvs) ∧ t = .d (.tuple (nts r)) ∧ kvs.length < sizeLine ∧ D.nx s (L3.set n (.dT (putA kvs (kI r) v)))
theorem s_dpT {i : Expr} {gi : GTE} {p' : Pos} (hu : X.A.units + 1 < cLine) (ho : GE X o go) (hi : GE X i gi) (he : GE X e ga) (hs : swapsWith e (some (.Subscript o i p')) pos.line X.env = pure false) :
    GS X Wx (.Assign [.Subscript o i p'] e pos) (gDp ga go gi) := ⟨fun W0 => ps_imp (ps_dput hu ho.pe hi.pe he.pe hs) fun D σ H h => by
  obtain ⟨W, s, E, e, ok, ats, gr, h, fin⟩ := h
  refine ⟨W, s, _, e, ok, ats, h, fun a W1 v q g1 ok1 at1 => ⟨W1, s, _, rfl, ok1, ats.mono g1, q, fun o W2 u q2 g2 ok2 at2 => ⟨W2, s, _, rfl, ok2, ats.mono (g1.trans g2), q2, fun t W3 w q3 g3 ok3 at3 => ?_⟩⟩⟩
  obtain ⟨n, rfl, kvs, r, hn, rfl, hz, q4⟩ := onOwn_el q3
  obtain ⟨rfl, hlt⟩ := at2.own_iff
  obtain ⟨h', e1, ⟨ks, rfl, hp⟩, e2⟩ := ok3.own n _ hn (by intro z; cases z)
  obtain ⟨p, us, rfl, hB, hl⟩ := at3.tpl
  rw [kI_dx hl] at hB
  have hav := at1.mono (g2.trans g3)
  refine ⟨_, _, rfl, ?_, fin.nx s (W3.put n (.dT (putA kvs (kI r) a)) (.dT (putK ks (kI r) v))) σ q4 (gr.trans (g1.trans (g2.trans (g3.trans (Wd.put_grow ok3 hn (by intro z; cases z) _ _))))) (Wd.put_ok ok3 hn (by intro z; cases z) ⟨_, rfl, put_pair hav hp⟩) ((ats.mono (g1.trans (g2.trans g3))).mono (Wd.put_grow ok3 hn (by intro z; cases z) _ _))⟩
  rw [← g3.rho n hlt]
  exact DPut.t e1 (ok3.base _ _ hB) (by rw [← Paired.length hp]; exact hz)⟩
end
end GL

namespace GL
open PySem PySem.Spec L2
section
variable {X : Cx} {Wx : WX} {a b c e tg : Expr} {es : List Expr} {pos : Pos} {ga gb gc : GTE} {gt gu : GTT} {gs : GTA} {st : Stmt} {rest body orelse : List Stmt} {g k : GTS}
/-- [elt for tg in iter if ..], an own list of any values -/
def lcGO (items : List A) (cond : Lo → Prop) (b0 : Nat) (t : GTG) (tt : GTT) (ge : GTE) (vs : List Nat) (s : Sl) (L : Lo) (R : KA) : Prop :=
  ∃ I : Nat → List A → Lo → Prop, I 0 [] L ∧ ∀ i acc L', I i acc L' → i ≤ items.length → cond L' ∧ b0 ≤ L'.length ∧
    (∀ a, items[i]? = some a → t a (wipA s vs) L' fun s2 L2 => tt s2 L2 fun k L3 => br k (ge s2 L3 fun x L4 => acc.length < sizeLine ∧ b0 ≤ L4.length ∧ I (i + 1) (acc ++ [x]) L4) (b0 ≤ L3.length ∧ I (i + 1) acc L3)) ∧
    (i = items.length → R (.own L'.length) (L' ++ [.lst acc]))
structure LcHO (items : List A) (cond : Lo → Prop) (b0 : Nat) (t : GTG) (tt : GTT) (ge : GTE) (vs : List Nat) (s : Sl) (L : Lo) (R : KA) : Prop where
  h : lcGO items cond b0 t tt ge vs s L R
def gLcO (gi : GTI) (t : GTG) (tt : GTT) (ge : GTE) (vs : List Nat) : GTE := fun s L R => gi s L fun items cond L1 => LcHO items cond L1.length t tt ge vs s L1 R
theorem lcrO {K : PySem.W.Frag} {gi : GTI} {t : GTG} {tt : GTT} {ge : GTE} {vs : List Nat} {σ : L2.St} {H : Hp} {Q : VK} (h : liftE K (gLcO gi t tt ge vs) σ H Q) : tLc (liftI K gi) (liftG K vs t) (liftT K tt) (liftE K ge) vs σ H Q := by
  obtain ⟨W, s, R, e, ok, ats, h, fin⟩ := h
  refine ⟨W, s, _, e, ok, ats, h, fun items cond Wi J q g1 ok1 io => ?_⟩
  obtain ⟨I, h0, step⟩ := q.h
  intro Dd hD
  have outH : ∀ {W2 : Wd} (u : HO), Grow Wi W2 → Grow Wi ⟨W2.ρ, W2.B, W2.L, upd W2.H Dd u⟩ := fun {W2} u g2 =>
    ⟨g2.base, g2.len, g2.rho, fun a o h hn => by
      show upd W2.H Dd u a = some o
      rw [upd_ne (ne_of_none h hD)]; exact g2.keep a o h hn, fun a h => g2.there a (by
      have h' : upd W2.H Dd u a = none := h
      by_cases z : a = Dd
      · subst z; rw [upd_same] at h'; cases h'
      · rw [upd_ne z] at h'; exact h'), g2.newB, g2.newL⟩
  have outO : ∀ {W2 : Wd} (u : HO), W2.Ok K → W2.B Dd = none → (∀ n, n < W2.L.length → W2.ρ n ≠ Dd) → (⟨W2.ρ, W2.B, W2.L, upd W2.H Dd u⟩ : Wd).Ok K := fun {W2} u ok2 hB hr =>
    ⟨fun a o h => by
      show upd W2.H Dd u a = some o
      rw [upd_ne (ne_of_none h hB)]; exact ok2.base a o h, fun n o e h => by
      obtain ⟨h', e1, e2, e3⟩ := ok2.own n o e h
      refine ⟨h', ?_, OAt.mono (W := W2) (fun _ _ h => h) (Nat.le_refl _) (fun _ _ => rfl) e2, e3⟩
      show upd W2.H Dd u (W2.ρ n) = some h'
      rw [upd_ne (hr n (List.getElem?_eq_some_iff.mp e).1)]; exact e1, ok2.inj, fun n h z => by
      have z' : upd W2.H Dd u (W2.ρ n) = none := z
      rw [upd_ne (hr n h)] at z'
      exact ok2.there n h z'⟩
  have hr0 : ∀ n, n < Wi.L.length → Wi.ρ n ≠ Dd := fun n h z => ok1.there n h (by rw [z]; exact hD)
  refine ⟨fun i m H' => m = items.length - i ∧ i ≤ items.length ∧ ∃ (W2 : Wd) (acc : List A) (us : List V), Grow Wi W2 ∧ W2.Ok K ∧ W2.H = H' ∧ W2.B Dd = none ∧ (∀ n, n < W2.L.length → W2.ρ n ≠ Dd) ∧ W2.H Dd = some (.lst us) ∧ AtL K W2 acc us ∧ I i acc W2.L,
    ⟨items.length, by simp, Nat.zero_le _, ⟨Wi.ρ, Wi.B, Wi.L, upd Wi.H Dd (.lst [])⟩, [], [], outH _ Grow.refl, outO _ ok1 (ok1.free hD) hr0, rfl, ok1.free hD, hr0, upd_same, .nil, h0⟩, ?_⟩
  rintro i m H' ⟨rfl, hi, W2, acc, us, g2, ok2, rfl, hB, hr, hL, hx, hI⟩
  obtain ⟨hc, hl, turn, done⟩ := step i acc W2.L hI hi
  by_cases hlt : i < items.length
  · refine .inr ⟨io.go i W2 g2 ok2 hc hlt, fun H3 => ∃ (W2 : Wd) (acc : List A) (us : List V), Grow Wi W2 ∧ W2.Ok K ∧ W2.H = H3 ∧ W2.B Dd = none ∧ (∀ n, n < W2.L.length → W2.ρ n ≠ Dd) ∧ W2.H Dd = some (.lst us) ∧ AtL K W2 acc us ∧ I (i + 1) acc W2.L,
      fun H3 z => ⟨items.length - (i + 1), by omega, rfl, hlt, z⟩, fun x H3 hy => ?_⟩
    obtain ⟨W3, a, ea, eH, eL, g3, ok3, at3⟩ := io.yld i W2 x H3 g2 ok2 hc hlt hy
    have hb' := turn a ea
    rw [← eL] at hb'
    -- what is apart stays apart
    have apart : ∀ {W4 : Wd}, Grow W2 W4 → W4.B Dd = none ∧ (∀ n, n < W4.L.length → W4.ρ n ≠ Dd) ∧ W4.H Dd = some (.lst us) := fun {W4} g => by
      refine ⟨?_, fun n h z => ?_, g.keep _ _ hL fun n h z => hr n h z.symm⟩
      · cases q : W4.B Dd with
        | none => rfl
        | some o =>
          rcases g.newB Dd (by rw [q]; intro z; cases z) hB with z | ⟨n, h, z⟩
          · rw [hL] at z; cases z
          · exact (hr n h z.symm).elim
      · by_cases hn : n < W2.L.length
        · rw [g.rho n hn] at z; exact hr n hn z
        · have := g.newL n (by omega) h
          rw [z, hL] at this; cases this
    refine ⟨W3, wipA s vs, a, _, eH, ok3, (wip_at (ats.mono g1) vs).mono (g2.trans g3), at3, hb', fun s4 W4 σ4 q4 g4 ok4 at4 off => ⟨wipe_off off, ?_⟩⟩
    refine ⟨W4, s4, _, rfl, ok4, at4, q4, fun k W5 q5 g5 ok5 => ?_⟩
    have g25 := g3.trans (g4.trans g5)
    cases k with
    | false =>
      obtain ⟨b1, b2, b3⟩ := apart g25
      exact ⟨W5, acc, us, g2.trans g25, ok5, rfl, b1, b2, b3, hx.mono g25, (q5.2 rfl).2⟩
    | true =>
      refine ⟨W5, s4, _, rfl, ok5, at4.mono g5, q5.1 rfl, fun x W6 v q6 g6 ok6 at6 => ?_⟩
      obtain ⟨hz, hl6, q6⟩ := q6
      obtain ⟨b1, b2, b3⟩ := apart (g25.trans g6)
      refine ⟨us, b3, by rw [← hx.length]; exact hz, ⟨W6.ρ, W6.B, W6.L, upd W6.H Dd (.lst (us ++ [v]))⟩, acc ++ [x], us ++ [v], outH _ (g2.trans (g25.trans g6)), outO _ ok6 b1 b2, rfl, b1, b2, upd_same, AtL.mono' (W := W6) (W' := ⟨W6.ρ, W6.B, W6.L, upd W6.H Dd (.lst (us ++ [v]))⟩) (fun _ _ h => h) (Nat.le_refl _) (fun _ _ => rfl) _ _ ((hx.mono (g25.trans g6)).append (.cons at6 .nil)), q6⟩
  · have ei : i = items.length := by omega
    subst ei
    refine .inl ⟨io.stop W2 g2 ok2 hc, ?_⟩
    have hlt' : ∀ n, n < W2.L.length → (if n = W2.L.length then Dd else W2.ρ n) = W2.ρ n := fun n h => if_neg (by omega)
    have hlast : ∀ {n : Nat} {o : AO}, (W2.L ++ [AO.lst acc])[n]? = some o → (n < W2.L.length ∧ W2.L[n]? = some o) ∨ (n = W2.L.length ∧ o = .lst acc) := fun {n o} e => by
      by_cases hn : n < W2.L.length
      · rw [List.getElem?_append_left hn] at e; exact .inl ⟨hn, e⟩
      · have h1 := (List.getElem?_eq_some_iff.mp e).1
        rw [List.length_append, List.length_singleton] at h1
        have hn2 : n = W2.L.length := by omega
        subst hn2
        rw [List.getElem?_append_right (Nat.le_refl _), Nat.sub_self] at e
        exact .inr ⟨rfl, by simpa using e.symm⟩
    let W9 : Wd := ⟨fun n => if n = W2.L.length then Dd else W2.ρ n, W2.B, W2.L ++ [.lst acc], W2.H⟩
    have len9 : W9.L.length = W2.L.length + 1 := by show (W2.L ++ [AO.lst acc]).length = _; simp
    have at9 : ∀ {o : AO} {u : HO}, OAt K W2 o u → OAt K W9 o u := fun q => OAt.mono (W := W2) (W' := W9) (fun _ _ h => h) (by rw [len9]; omega) hlt' q
    refine fin (.own W2.L.length) W9 _ (done rfl) (g1.trans ⟨g2.base, by rw [len9]; exact Nat.le_succ_of_le g2.len, fun n h => (hlt' n (Nat.lt_of_lt_of_le h g2.len)).trans (g2.rho n h), g2.keep, g2.there, g2.newB, fun n h1 h2 => ?_⟩) ⟨ok2.base, fun n o e h => ?_, fun n m o o' e h e' h' z => ?_, fun n h => ?_⟩ ?_
    · show Wi.H (if n = W2.L.length then Dd else W2.ρ n) = none
      by_cases hn : n = W2.L.length
      · rw [if_pos hn]; exact hD
      · rw [if_neg hn]; exact g2.newL n h1 (by rw [len9] at h2; omega)
    · show ∃ h', W2.H (if n = W2.L.length then Dd else W2.ρ n) = some h' ∧ OAt K W9 o h' ∧ W2.B (if n = W2.L.length then Dd else W2.ρ n) = none
      rcases hlast e with ⟨hn, e'⟩ | ⟨hn, rfl⟩
      · rw [hlt' n hn]
        obtain ⟨h', e1, e2, e3⟩ := ok2.own n o e' h
        exact ⟨h', e1, at9 e2, e3⟩
      · rw [if_pos hn]
        exact ⟨_, hL, at9 ⟨us, rfl, hx⟩, hB⟩
    · have z' : (if n = W2.L.length then Dd else W2.ρ n) = (if m = W2.L.length then Dd else W2.ρ m) := z
      rcases hlast e with ⟨hn, e1⟩ | ⟨hn, rfl⟩
      · rcases hlast e' with ⟨hm, e2⟩ | ⟨hm, rfl⟩
        · rw [hlt' n hn, hlt' m hm] at z'
          exact ok2.inj n m o o' e1 h e2 h' z'
        · rw [hlt' n hn, if_pos hm] at z'
          exact (hr n hn z').elim
      · rcases hlast e' with ⟨hm, e2⟩ | ⟨hm, rfl⟩
        · rw [hlt' m hm, if_pos hn] at z'
          exact (hr m hm z'.symm).elim
        · rw [hn, hm]
    · show W2.H (if n = W2.L.length then Dd else W2.ρ n) ≠ none
      by_cases hn : n = W2.L.length
      · rw [if_pos hn, hL]; intro z; cases z
      · rw [if_neg hn]; exact ok2.there n (by rw [len9] at h; omega)
    · have e9 : W9.ρ W2.L.length = Dd := if_pos rfl
      rw [← e9]
      exact At.own (W := W9) (by rw [len9]; exact Nat.lt_succ_self _)
theorem g_lcO {elt iter : Expr} {ifs : List Expr} {scope : Scope} {own : List (Str × Nat)} {gi : GTI} {t : GTG} {tt : GTT} {ge : GTE} (hc : X.calm = true) (hN : X.N.Nodup) (hi : GI X tg iter gi) (ok : BlkOk X.N X.env.scope scope own)
    (hg : ∀ (s : Shared) (H : Hp) (C : Addr) (cl : List (Str × Addr)) (fp : List Addr), GP (X.blk s H scope (PySem.compEnvC scope cl C X.env) fp) tg (own.map (·.2)) t) (ht : ∀ (s : Shared) (H : Hp) (C : Addr) (cl : List (Str × Addr)) (fp : List Addr), GTests (X.blk s H scope (PySem.compEnvC scope cl C X.env) fp) ifs tt)
    (he : ∀ (s : Shared) (H : Hp) (C : Addr) (cl : List (Str × Addr)) (fp : List Addr), GE (X.blk s H scope (PySem.compEnvC scope cl C X.env) fp) elt ge) (hs : ∀ x, foldedSetIterable iter X.env x = pure x := by intro _; rfl) :
    GE X (.ListComp elt [⟨tg, iter, ifs, 0⟩] scope pos) (gLcO gi t tt ge (own.map (·.2))) :=
  ⟨pe_imp (pe_lc hc hN hi.pi ok (fun s H C cl fp => (hg s H C cl fp).pg) (fun s H C cl fp => (ht s H C cl fp).pts) (fun s H C cl fp => (he s H C cl fp).pe) hs) fun σ H Q h => lcrO h⟩
theorem s_setLcO {i : Nat} {y : Str} {py : Pos} {elt iter : Expr} {ifs : List Expr} {scope : Scope} {own : List (Str × Nat)} {spos : Pos} {gi : GTI} {t : GTG} {tt : GTT} {ge : GTE} (hc : X.calm = true) (hN : X.N.Nodup) (hy : X.N[i]? = some y) (hyl : X.env.scope.names.lookup y = some .local)
    (hsw : swapsWith (.ListComp elt [⟨tg, iter, ifs, 0⟩] scope pos) (some (.Name y py)) spos.line X.env = pure true) (hi : GI X tg iter gi) (ok : BlkOk X.N X.env.scope scope own)
    (hg : ∀ (s : Shared) (H : Hp) (C : Addr) (cl : List (Str × Addr)) (fp : List Addr), GP (X.blk s H scope (PySem.compEnvC scope cl C X.env) fp) tg (own.map (·.2)) t) (ht : ∀ (s : Shared) (H : Hp) (C : Addr) (cl : List (Str × Addr)) (fp : List Addr), GTests (X.blk s H scope (PySem.compEnvC scope cl C X.env) fp) ifs tt)
    (he : ∀ (s : Shared) (H : Hp) (C : Addr) (cl : List (Str × Addr)) (fp : List Addr), GE (X.blk s H scope (PySem.compEnvC scope cl C X.env) fp) elt ge) (hs : ∀ x, foldedSetIterable iter X.env x = pure x := by intro _; rfl) :
    GS X Wx (.Assign [.Name y py] (.ListComp elt [⟨tg, iter, ifs, 0⟩] scope pos) spos) (gSet (gLcO gi t tt ge (own.map (·.2))) (gNm i)) :=
  ⟨fun W0 => ps_imp (ps_setLc hc hN hy hyl hsw hi.pi ok (fun s H C cl fp => (hg s H C cl fp).pg) (fun s H C cl fp => (ht s H C cl fp).pts) (fun s H C cl fp => (he s H C cl fp).pe) hs) fun D σ H h => by
    obtain ⟨W, s, E, e, okw, ats, gr, h, fin⟩ := h
    exact lcrO ⟨W, s, _, e, okw, ats, h, fun a W1 v q g1 ok1 at1 => fin.nx _ W1 _ q (gr.trans g1) ok1 ((ats.mono g1).set i at1)⟩⟩
end
end GL

namespace GL
open PySem PySem.Spec PySem.Calls L2
open PyProof.V
open PyProof.Rows hiding St
theorem sq_kind {L : Lo} {x : A} {as : List A} (h : sqOf L x = some as) : (lsOf L x = some as ∧ ∀ L2 bs, sqOf L2 x = some bs → lsOf L2 x = some bs) ∨ tpOf x = some as := by
  cases x with
  | d y => cases y with
    | list ds => exact .inl ⟨h, fun _ _ h => h⟩
    | tuple ds => exact .inr h
    | grp ds => exact .inr h
    | none => cases h
    | bool _ => cases h
    | int _ => cases h
    | str _ => cases h
  | own n => exact .inl ⟨h, fun _ _ h => h⟩
  | tup as => exact .inr h
  | scr ns => exact .inl ⟨h, fun _ _ h => h⟩
  | raw v => cases h
section
variable {X : Cx} {a b c e tg : Expr} {es : List Expr} {pos : Pos} {ga gb gc : GTE} {gs : GTA}
/-! ### any sequence walked -/
def gISq (ga : GTE) : GTI := fun s L R => ga s L fun x L1 => onO (sqOf L1 x) fun as => R as (fun L2 => sqOf L2 x = some as) L1
theorem i_sq (h : GE X e ga) : GI X tg e (gISq ga) := ⟨pi_imp (pi_seq h.pe) fun σ H Q h => by
  obtain ⟨W, s, R, e, ok, ats, h, fin⟩ := h
  refine ⟨W, s, _, e, ok, ats, h, fun x W1 v q g1 ok1 at1 => ?_⟩
  obtain ⟨as, ea, q⟩ := onO_el q
  rcases sq_kind ea with ⟨ls, back⟩ | ts
  · obtain ⟨p, vs, rfl, hq, hl⟩ := ls_at at1 ok1 ls
    refine ⟨p, rfl, .inl ⟨⟨vs, hq⟩, fin as _ W1 _ q g1 ok1 ⟨fun i W2 g2 ok2 hc hi => ?_, fun W2 g2 ok2 hc => ?_, fun i W2 y H' g2 ok2 hc hi hy => ?_⟩⟩⟩
    · obtain ⟨p2, us, ep, hq2, hl2⟩ := ls_at (at1.mono g2) ok2 (back _ _ hc)
      cases ep
      obtain ⟨u, eu, _⟩ := hl2.get (List.getElem?_eq_getElem hi)
      exact ⟨us, u, hq2, eu⟩
    · obtain ⟨p2, us, ep, hq2, hl2⟩ := ls_at (at1.mono g2) ok2 (back _ _ hc)
      cases ep
      exact ⟨us, hq2, by rw [hl2.length]; exact Nat.le_refl _⟩
    · obtain ⟨p2, us, ep, hq2, hl2⟩ := ls_at (at1.mono g2) ok2 (back _ _ hc)
      cases ep
      obtain ⟨u, eu, au⟩ := hl2.get (List.getElem?_eq_getElem hi)
      obtain ⟨rfl, hy⟩ := hy
      have := hy us hq2
      rw [eu] at this; cases this
      exact ⟨W2, _, List.getElem?_eq_getElem hi, rfl, rfl, Grow.refl, ok2, au⟩
  · obtain ⟨p, vs, rfl, hq, hl⟩ := tp_at at1 ts
    refine ⟨p, rfl, .inr ⟨⟨vs, sqT_mono ok1.base hq⟩, fin as _ W1 _ q g1 ok1 ⟨fun i W2 g2 ok2 hc hi => ?_, fun W2 g2 ok2 hc => ?_, fun i W2 y H' g2 ok2 hc hi hy => ?_⟩⟩⟩
    · obtain ⟨u, eu, _⟩ := hl.get (List.getElem?_eq_getElem hi)
      exact ⟨vs, u, sqT_mono ok2.base (sqT_mono g2.base hq), eu⟩
    · exact ⟨vs, sqT_mono ok2.base (sqT_mono g2.base hq), by rw [hl.length]; exact Nat.le_refl _⟩
    · obtain ⟨u, eu, au⟩ := (hl.mono g2).get (List.getElem?_eq_getElem hi)
      obtain ⟨rfl, hy⟩ := hy
      have := hy vs (sqT_mono ok2.base (sqT_mono g2.base hq))
      rw [eu] at this; cases this
      exact ⟨W2, _, List.getElem?_eq_getElem hi, rfl, rfl, Grow.refl, ok2, au⟩⟩
/-! ### tuple(x): of a list a new plain one, of a plain one itself -/
def gTupG : GC := fun as L R => on1 as fun a => ∃ ds : List D, (plOf L a = some (ds.map .d) ∨ a = .d (.grp ds)) ∧ R (.d (.grp ds)) L
theorem k_tupG : CallG X (.type "tuple") gTupG := callr_imp (r := fun xs H Q => (∃ p ys, xs = [.ref p] ∧ SqL X.K H p ys ∧ ∀ l o, H l = none → o.dict = none → Q (.ref l) (upd H l (.frz o (.tup ys)))) ∨ (∃ p ys, xs = [.ref p] ∧ SqT X.K H p ys ∧ Q (.ref p) H))
  (fun pins s σ H xs us Q I r q => by
    rcases q with q | ⟨p, ys, e, hT, q⟩
    · exact call_tupleS pins s σ H xs us Q I r q
    · exact call_tupleT pins s σ H xs us Q I r (by first | exact ⟨p, ys, e, hT, q⟩ | exact ⟨p, e, ⟨ys, hT⟩, q⟩)) fun vs H Q h => by
  obtain ⟨W, as, R, e, ok, ats, h0, fin⟩ := h
  obtain ⟨a, ea, ds, hx, h⟩ := on1_el h0
  subst e ea
  obtain ⟨v, rfl, at1⟩ := ats.one
  rcases hx with hx | rfl
  · obtain ⟨p, us, rfl, hq, hl⟩ := pl_at at1 ok hx
    exact .inl ⟨p, us, rfl, SqL.of hq, fun l o hl' ho => fin _ (W.frz l (.frz o (.tup us))) _ h (Wd.frz_grow ok hl' _) (Wd.frz_ok ok hl' _) (.d (.grp upd_same ho (DXL.mono (Wd.frz_grow ok hl' _).base _ _ hl.ds)))⟩
  · have at2 := at1
    cases at2 with
    | d q => cases q with
      | grp e1 z l => exact .inr ⟨_, _, rfl, .inl (.inr ⟨_, ok.base _ _ e1⟩), fin _ W _ h Grow.refl ok at1⟩
/-! ### sum of any sequence of numbers -/
theorem cr_sumT (hc : X.calm = true) : CallR X (.builtin "sum") (fun vs H Q => ∃ (a : Addr) (ns : List Int), vs = [V.ref a] ∧ SqT X.K H a (ns.map V.int) ∧ Q (.int ns.sum) H) := by
  intro pins s σ H vs us Q I r h
  obtain ⟨a, ns, rfl, hs, q⟩ := h
  obtain ⟨its, rv, hl, _⟩ := I.tuple hs
  rw [Vals.ref1 r]
  have hi := rv.ints
  obtain ⟨xs, e⟩ := hi.allInts.items
  have hn : numsOf (intItems xs).toList = ns := by rw [← e]; exact hi.numsOf
  rw [nums_intItems] at hn
  have hl2 : s.heap.IsTuple a (intItems xs) := by rw [← e]; exact hl
  refine PySem.W.ktm_sumG (I.ok.hd hc) hl2 fun h' tk t' hk => ?_
  rw [preSum_eq, List.take_of_length_le (by simp), hn]
  exact ⟨.int _, H, I.kept hk, ⟨_, rfl⟩, q⟩
def gSumS : GC := fun as L R => on1 as fun a => ∃ ns : List Int, sqOf L a = some ((nts ns).map .d) ∧ R (.d (.int ns.sum)) L
theorem k_sumS (hc : X.calm = true) : CallG X (.builtin "sum") gSumS := callr_imp (r := fun vs H Q => rSum X.K vs H Q ∨ ∃ (a : Addr) (ns : List Int), vs = [V.ref a] ∧ SqT X.K H a (ns.map V.int) ∧ Q (.int ns.sum) H)
  (fun pins s σ H xs us Q I r q => by
    rcases q with q | q
    · exact cr_sum hc pins s σ H xs us Q I r q
    · exact cr_sumT hc pins s σ H xs us Q I r q) fun vs H Q h => by
  obtain ⟨W, as, R, e, ok, ats, h0, fin⟩ := h
  obtain ⟨a, ea, ns, hx, h⟩ := on1_el h0
  subst e ea
  obtain ⟨v, rfl, at1⟩ := ats.one
  obtain ⟨p, us, rfl, hq, hl⟩ := sq_at at1 ok hx
  have eu := hl.ints'
  subst eu
  have fin' := fin _ W _ h Grow.refl ok (.d (.int _))
  rcases hq with hq | hq
  · exact .inl ⟨p, ns, rfl, hq, fin'⟩
  · exact .inr ⟨p, ns, rfl, hq, fin'⟩
end
/-! ### a call that is handed the whole store -/
section
variable {X : Cx} {CX : CXT} {j k : Nat} {fa : Addr} {fd : FuncData} {ps : List Str} {asp : ASp} {x : Str} {p pos : Pos} {e : Expr} {es : List Expr} {gs : GTA}
def gCallA (asp : ASp) (gs : GTA) : GTE := fun s L R => gs s L fun as L1 => asp as L1 R (fun _ _ _ => False)
theorem g_clA (C : Cl X.prog X.w X.K X.mg X.base j x ps asp) (hr : Room k X.A) (hg : Gl X x) (ha : GA X (e :: es) gs) (hjk : j ≤ k := by decide) (hdb : (x == ("__debug__" : Str)) = false := by decide)
    (he : starEach (e :: es) X.env = (false, eval e X.env) :: starEach es X.env := by rfl) (hpl : (backTo pos (starEach es X.env)).any (·.1) = false := by rfl) : GE X (.Call (.Name x p) (e :: es) [] pos) (gCallA asp gs) := by
  obtain ⟨fa, fd, F, hm, hk, hb⟩ := C
  exact ⟨pe_imp (pe_call F (hr.mono hjk) hg hm hk hb .nil pass0 ha.pa hdb he hpl) fun σ H Q h => by
    obtain ⟨W, s, R, e, ok, ats, h, fin⟩ := h
    refine ⟨W, s, _, e, ok, ats, h, fun as W1 vs q g1 ok1 at1 => ?_⟩
    show liftSp X.K asp (vs ++ []) W1.H Q E0
    rw [List.append_nil]
    exact ⟨W1, as, _, _, rfl, ok1, at1, q, fun a Wc v q2 g2 okc atc => fin _ Wc v q2 (g1.trans g2) okc atc, fun _ _ _ _ z => z.elim⟩⟩
end
/-! ### ranges made -/
section
variable {X : Cx} {a : Expr} {pos : Pos} {ga : GTE}
theorem pe_tupRgG {e : Expr} {te : L2.St → Hp → (Int → Int → Hp → Prop) → Prop} {p : Pos} (hc : X.calm = true) (hg : Gl X "tuple") (hm : X.mg "tuple" = none) (he : PRg X e te) (na : starEach [e] X.env = (false, eval e X.env) :: starEach [] X.env := by rfl) : PE X (.Call (.Name "tuple" p) [e] [] pos) (fun σ H Q => te σ H fun a b H1 => RgOk a b ∧ ∀ q o, H1 q = none → o.dict = none → Q (.ref q) (upd H1 q (.frz o (.tup (rgV a b))))) := by
  refine ⟨fun pins s σ H Q I h => ?_⟩
  refine Call_ (ld_blt I hg hm PyProof.Rows.boot_tuple (PyProof.Rows.callWith_type1 (PyProof.Rows.args_cons (thn (he pins s σ H _ I h) fun x s1 ⟨r, a, b, t, u, v, H1, ex, hr, I1, ok, q⟩ => PyProof.Rows.args_nil ?_) na) na))
  subst ex
  obtain ⟨b1, b2, b3, b4, b5⟩ := ok
  refine call_tuple_range (n := (b - a).toNat) (I1.ok.hd hc) hr (small_one b1 b2 b3 b4) (rangeSize_nat a b) b5 fun h' tk acc hk hi => ?_
  have I2 : Inv X pins σ H1 { s1 with heap := h', toks := tk } := I1.kept hk
  refine ⟨.ref h'.objs.size, upd H1 h'.objs.size (.frz { cls := .type "tuple", data := .seq acc } (.tup (rgV a b))), I2.laid (t' := tk) (fun c o e => Heap.get?_push_of_some _ e) (Nat.le_refl _) (show ObjOk X.prog X.w _ _ _ (.frz _ (.tup (rgV a b))) from ⟨Heap.get?_push_size _ rfl, ?_, acc.toList, vals_rg hi, ?_⟩), rfl, q _ _ (I2.hok.fresh (Nat.le_refl _)) rfl⟩
  · rw [rgV_length, sizeLine_eq]; omega
  · rw [Array.toArray_toList]; exact PyProof.Rows.IsTup.new _ _
def gTupRgG (ga : GTE) : GTE := fun s L R => ga s L fun a L1 => onI a fun n => n ≤ 1000000 ∧ -1000000 ≤ n ∧ R (.d (.grp (nts (rgI n.toNat)))) L1
theorem g_tupRgS {p p2 pos2 : Pos} (hc : X.calm = true) (hg : Gl X "tuple") (hm : X.mg "tuple" = none) (hg2 : Gl X "range") (hm2 : X.mg "range" = none) (ha : GE X a ga)
    (he : ∀ {ta : TE}, PE X a ta → PRg X (.Call (.Name "range" p2) [a] [] pos2) (tRg1 ta)) (na : starEach [.Call (.Name "range" p2) [a] [] pos2] X.env = (false, eval (.Call (.Name "range" p2) [a] [] pos2) X.env) :: starEach [] X.env := by rfl) :
    GE X (.Call (.Name "tuple" p) [.Call (.Name "range" p2) [a] [] pos2] [] pos) (gTupRgG ga) :=
  ⟨pe_imp (pe_tupRgG hc hg hm (he ha.pe) na) fun σ H Q h => by
    obtain ⟨W, s, R, e, ok, ats, h, fin⟩ := h
    refine ⟨W, s, _, e, ok, ats, h, fun a W1 v q g1 ok1 at1 => ?_⟩
    obtain ⟨n, en, h1, h2, q1⟩ := onI_el q
    subst en
    refine ⟨n, at1.int, ⟨by omega, by omega, by omega, by omega, by omega⟩, fun l o hl ho => ?_⟩
    rw [← ints0_eq] at q1
    exact fin _ (W1.frz l (.frz o (.tup (rgV 0 n)))) _ q1 (g1.trans (Wd.frz_grow ok1 hl _)) (Wd.frz_ok ok1 hl _) (.d (.grp upd_same ho (rg_dxl n)))⟩
def gLstRgO (ga : GTE) : GTE := fun s L R => ga s L fun a L1 => onI a fun n => n ≤ 1000000 ∧ -1000000 ≤ n ∧ R (.own L1.length) (L1 ++ [.lst ((nts (rgI n.toNat)).map .d)])
theorem g_lstRgO {p p2 pos2 : Pos} (hc : X.calm = true) (hg : Gl X "list") (hm : X.mg "list" = none) (hg2 : Gl X "range") (hm2 : X.mg "range" = none) (ha : GE X a ga)
    (he : ∀ {ta : TE}, PE X a ta → PRg X (.Call (.Name "range" p2) [a] [] pos2) (tRg1 ta)) (na : starEach [.Call (.Name "range" p2) [a] [] pos2] X.env = (false, eval (.Call (.Name "range" p2) [a] [] pos2) X.env) :: starEach [] X.env := by rfl) :
    GE X (.Call (.Name "list" p) [.Call (.Name "range" p2) [a] [] pos2] [] pos) (gLstRgO ga) :=
  ⟨pe_imp (pe_listRg hc hg hm (he ha.pe) na) fun σ H Q h => by
    obtain ⟨W, s, R, e, ok, ats, h, fin⟩ := h
    refine ⟨W, s, _, e, ok, ats, h, fun a W1 v q g1 ok1 at1 => ?_⟩
    obtain ⟨n, en, h1, h2, q1⟩ := onI_el q
    subst en
    refine ⟨n, at1.int, ⟨by omega, by omega, by omega, by omega, by omega⟩, fun l hl => ?_⟩
    rw [← ints0_eq] at q1
    exact fin _ (W1.new l (.lst ((ints0 n.toNat).map .d)) (.lst (rgV 0 n))) _ q1 (g1.trans (Wd.new_grow ok1 hl _ _)) (Wd.new_ok ok1 hl ⟨_, rfl, .of_ds (rg_dxl n)⟩) (Wd.new_own _ _)⟩
def gLstRgF (ga : GTE) : GTE := fun s L R => ga s L fun a L1 => onI a fun n => n ≤ 1000000 ∧ -1000000 ≤ n ∧ R (.d (.list (nts (rgI n.toNat)))) L1
theorem g_lstRg {p p2 pos2 : Pos} (hc : X.calm = true) (hg : Gl X "list") (hm : X.mg "list" = none) (hg2 : Gl X "range") (hm2 : X.mg "range" = none) (ha : GE X a ga)
    (he : ∀ {ta : TE}, PE X a ta → PRg X (.Call (.Name "range" p2) [a] [] pos2) (tRg1 ta)) (na : starEach [.Call (.Name "range" p2) [a] [] pos2] X.env = (false, eval (.Call (.Name "range" p2) [a] [] pos2) X.env) :: starEach [] X.env := by rfl) :
    GE X (.Call (.Name "list" p) [.Call (.Name "range" p2) [a] [] pos2] [] pos) (gLstRgF ga) :=
  ⟨pe_imp (pe_listRg hc hg hm (he ha.pe) na) fun σ H Q h => by
    obtain ⟨W, s, R, e, ok, ats, h, fin⟩ := h
    refine ⟨W, s, _, e, ok, ats, h, fun a W1 v q g1 ok1 at1 => ?_⟩
    obtain ⟨n, en, h1, h2, q1⟩ := onI_el q
    subst en
    refine ⟨n, at1.int, ⟨by omega, by omega, by omega, by omega, by omega⟩, fun l hl => ?_⟩
    rw [← ints0_eq] at q1
    exact fin _ (W1.frz l (.lst (rgV 0 n))) _ q1 (g1.trans (Wd.frz_grow ok1 hl _)) (Wd.frz_ok ok1 hl _) (lst_at (rg_dxl n) ok1 hl)⟩
end
end GL

namespace GL
open PySem PySem.Spec PySem.Calls L2
open PyProof.Rows hiding St
theorem nd_t {p : Prop} [Decidable p] (h : p) (z : (!decide p) = true) : False := by simp [h] at z
theorem nd_f {p : Prop} [Decidable p] (h : ¬ p) (z : (!decide p) = false) : False := by simp [h] at z
theorem d_f {p : Prop} [Decidable p] (h : p) (z : decide p = false) : False := of_decide_eq_false z h
theorem d_t {p : Prop} [Decidable p] (h : ¬ p) (z : decide p = true) : False := h (of_decide_eq_true z)
/-! ### what stands in a store lies below its length -/
mutual
theorem at_bel {K : PySem.W.Frag} {W : Wd} : ∀ (a : A) (v : V), At K W a v → bel W.L.length a = true
  | .d _, _, _ => rfl
  | .own n, _, h => by
    cases h with
    | own q => exact decide_eq_true q
  | .tup as, _, h => by
    cases h with
    | tup e q => exact atL_bel as _ q
  | .scr _, _, _ => rfl
  | .raw _, _, _ => rfl
theorem atL_bel {K : PySem.W.Frag} {W : Wd} : ∀ (as : List A) (vs : List V), AtL K W as vs → belL W.L.length as = true
  | [], _, _ => rfl
  | a :: as, _, h => by
    cases h with
    | cons h1 h2 =>
      show (bel _ a && belL _ as) = true
      rw [at_bel a _ h1, atL_bel as _ h2]; rfl
end
theorem pair_bel {K : PySem.W.Frag} {W : Wd} {κ : Type} : ∀ {kvs : List (κ × A)} {ks : List (κ × V)}, Paired (fun p q => p.1 = q.1 ∧ At K W p.2 q.2) kvs ks → belL W.L.length (kvs.map (·.2)) = true
  | _, _, .nil => rfl
  | p :: r, q :: t, .cons ⟨_, h1⟩ h2 => by
    show (bel _ p.2 && belL _ (r.map (·.2))) = true
    rw [at_bel _ _ h1, pair_bel h2]; rfl
theorem belLo_all {k : Nat} : ∀ {L : Lo}, (∀ (n : Nat) (o : AO), L[n]? = some o → belO k o = true) → belLo k L = true
  | [], _ => rfl
  | o :: L, h => by
    show (belO k o && belLo k L) = true
    rw [h 0 o rfl, belLo_all fun n p e => h (n + 1) p (by simpa using e)]; rfl
theorem Wd.Ok.bel {K : PySem.W.Frag} {W : Wd} (ok : W.Ok K) : belLo W.L.length W.L = true := belLo_all fun n o e => by
  by_cases hd : o = .dead
  · subst hd; rfl
  · obtain ⟨u, _, q, _⟩ := ok.own n o e hd
    cases o with
    | lst as => obtain ⟨vs, _, q⟩ := q; exact atL_bel as vs q
    | dT kvs => obtain ⟨vs, _, q⟩ := q; exact pair_bel q
    | dK kvs => obtain ⟨vs, _, q⟩ := q; exact pair_bel q
    | dX f n => rfl
    | obj C fs => obtain ⟨dx, vs, _, q⟩ := q; exact pair_bel q
    | dead => rfl
theorem Df.clB {P : Program} {w : World} {K : PySem.W.Frag} {mg : Str → Option Value} {base : Heap} {x : Str} {st : Stmt} {N ps : List Str} {k : Nat} {asp : ASp} (d : Df K mg x ps st) (S : FnScope N ps (defScope st)) (len : ∀ as L R Ex, asp as L R Ex → as.length = ps.length)
    (body : ∀ (f : Addr) (cdv : Value) (A : Around) (outer : List Env) (s : Shared) (H : Hp) (E : XK), Room k (A.deeper (PyProof.Rows.envOfC x (defScope st) s.heap.objs.size f cdv)) →
      ∃ g, GSs (cxOf CX0 P w K mg base N x (defScope st) f cdv A outer s H E).nox WX0 (defBody st) g ∧ ∀ as L R Ex, asp as L R Ex → belLo L.length L = true → g (fnEnds L.length R) (startA N.length as) L) :
    Cl P w K mg base (k + 1) x ps asp := by
  obtain ⟨f, fd, F, hm, b⟩ := d
  refine ⟨f, fd, ?_, hm, F.kp, b⟩
  refine F.ok S (fun vs H Q E h => ?_) (fun cdv A outer s H vs Q E hr h => ?_)
  · obtain ⟨W, as, R, Ex, e, ok, at1, h, _⟩ := h
    rw [← at1.length]
    exact len as _ _ _ h
  · obtain ⟨W, as, R, Ex, e, ok, at1, h, hR, hX⟩ := h
    obtain ⟨g, hg, hb⟩ := body f cdv A outer s H E hr
    refine ⟨_, hg.pss W, W, startA N.length as, fnEnds W.L.length R, e, ok, start_at at1, Grow.refl, hb as W.L R Ex h ok.bel, ⟨fun s' W' σ' q gr ok' at' => nx_fin hR q gr ok' at', fun a W' v q gr ok' at' => rt_fin hR q gr ok' at', fun _ _ _ q => q.elim, fun _ _ _ q => q.elim, fun _ _ _ _ _ _ q => q.elim, rfl⟩⟩
mutual
theorem bel_mono {j k : Nat} (h : j ≤ k) : ∀ a : A, bel j a = true → bel k a = true
  | .d _, _ => rfl
  | .own n, e => decide_eq_true (Nat.lt_of_lt_of_le (of_decide_eq_true e) h)
  | .tup as, e => belL_mono h as e
  | .scr _, _ => rfl
  | .raw _, _ => rfl
theorem belL_mono {j k : Nat} (h : j ≤ k) : ∀ as : List A, belL j as = true → belL k as = true
  | [], _ => rfl
  | a :: as, e => by
    have e' : (bel j a && belL j as) = true := e
    rw [Bool.and_eq_true] at e'
    show (bel k a && belL k as) = true
    rw [bel_mono h a e'.1, belL_mono h as e'.2]; rfl
end
theorem belO_mono {j k : Nat} (h : j ≤ k) : ∀ o : AO, belO j o = true → belO k o = true
  | .lst as, e => belL_mono h as e
  | .dT kvs, e => belL_mono h _ e
  | .dK kvs, e => belL_mono h _ e
  | .dX _ _, _ => rfl
  | .obj _ fs, e => belL_mono h _ e
  | .dead, _ => rfl
theorem belLo_app {k : Nat} : ∀ {L J : Lo}, belLo k L = true → belLo k J = true → belLo k (L ++ J) = true
  | [], _, _, h => h
  | o :: L, J, h1, h2 => by
    have h' : (belO k o && belLo k L) = true := h1
    rw [Bool.and_eq_true] at h'
    show (belO k o && belLo k (L ++ J)) = true
    rw [h'.1, belLo_app h'.2 h2]; rfl
theorem belLo_mono {j k : Nat} (h : j ≤ k) : ∀ {L : Lo}, belLo j L = true → belLo k L = true
  | [], _ => rfl
  | o :: L, e => by
    have e' : (belO j o && belLo j L) = true := e
    rw [Bool.and_eq_true] at e'
    show (belO k o && belLo k L) = true
    rw [belO_mono h o e'.1, belLo_mono h e'.2]; rfl
/-- the last list is frozen, the others behind L given up -/
theorem Wk.frzEnd {L J : Lo} {ds : List D} (h1 : belLo L.length L = true) (h2 : belLo 0 J = true) : Wk L.length [some (.own (L ++ J).length)] ((L ++ J) ++ [.lst (ds.map .d)]) [some (.d (.list ds))] L := by
  have h3 : belLo (L ++ J).length (L ++ J) = true := belLo_app (belLo_mono (by simp) h1) (belLo_mono (Nat.zero_le _) h2)
  have k1 := Wk.frz (b := L.length) (s := [some (.own (L ++ J).length)]) (ds := ds) h3
  have e : frzS (L ++ J).length ds [some (.own (L ++ J).length)] = [some (.d (.list ds))] := by
    show [some (A.frz (L ++ J).length ds (.own (L ++ J).length))] = _
    unfold A.frz
    rw [if_pos rfl]
  rw [e] at k1
  exact Wk.trans k1 (Wk.pop (L1 := L) (J := J) (by rfl) h1) (by simp)
theorem Wk.frzEnd0 {L : Lo} {ds : List D} (h1 : belLo L.length L = true) : Wk L.length [some (.own L.length)] (L ++ [.lst (ds.map .d)]) [some (.d (.list ds))] L := by
  have := Wk.frzEnd (L := L) (J := []) (ds := ds) h1 rfl
  simpa using this
/-- L, and behind it lists of known data -/
def Pre (L P : Lo) : Prop := ∃ J, P = L ++ J ∧ belLo 0 J = true
theorem Pre.refl {L : Lo} : Pre L L := ⟨[], by simp, rfl⟩
theorem Pre.snoc {L P : Lo} {ds : List D} (h : Pre L P) : Pre L (P ++ [.lst (ds.map .d)]) := by
  obtain ⟨J, rfl, hJ⟩ := h
  refine ⟨J ++ [.lst (ds.map .d)], by simp, belLo_app hJ ?_⟩
  show (belL 0 (ds.map .d) && true) = true
  rw [bel_ds ds]; rfl
theorem Pre.len {L P : Lo} (h : Pre L P) : L.length ≤ P.length := by
  obtain ⟨J, rfl, hJ⟩ := h
  simp
theorem Pre.frz {L P : Lo} {ds : List D} (h : Pre L P) (hb : belLo L.length L = true) : Wk L.length [some (.own P.length)] (P ++ [.lst (ds.map .d)]) [some (.d (.list ds))] L := by
  obtain ⟨J, rfl, hJ⟩ := h
  exact Wk.frzEnd hb hJ
theorem Pre.pop {L P : Lo} {b : Nat} {s : Sl} (h : Pre L P) (hb : belLo L.length L = true) (hs : belS L.length s = true) : Wk b s P s L := by
  obtain ⟨J, rfl, hJ⟩ := h
  exact Wk.pop hs hb
theorem Pre.get {L P : Lo} {n : Nat} {o : AO} (h : Pre L P) (e : L[n]? = some o) : P[n]? = some o := by
  obtain ⟨J, rfl, hJ⟩ := h
  rw [List.getElem?_append_left (List.getElem?_eq_some_iff.mp e).1]; exact e
/-! ### extend by a tuple -/
theorem list_extend_tupG (l : Addr) (items : Array Value) (n : Nat) (b : Addr) (items2 : Array Value) (n2 : Nat) (dd : Option Addr) (sl : Array (Option Value)) (hs0 : ¬(!items.isEmpty && Builtin.List.listTooLong (items.size + items2.size)) = true) (hs1 : items.size ≤ sizeLine) (hs2 : items.size + items2.size ≤ sizeLine + 1) :
    Meets (Builtin.«list.extend» ⟨[.ref l, .ref b], []⟩) (fun _ R s => s.heap.get? l = some { cls := .type "list", dict := none, data := .seq items n, slots := #[] } ∧ s.heap.get? b = some { cls := .type "tuple", dict := dd, data := .seq items2 n2, slots := sl } ∧ R (.ok (.ret Value.none)) { s with heap := s.heap.update l (Obj.mapSeq fun x => x ++ items2), toks := s.toks }) :=
  .of_wp fun prog w A R s h => by
    obtain ⟨hp, g, d, tk, os⟩ := s; obtain ⟨hl, hb, h⟩ := h; have f1 := AutoSeq1.idx_int; have f2 := AutoSeq1.sub_tuple_tuple; have f3 := AutoSeq1.sub_list_list; have f4 := AutoSeq1.sub_tuple_list; have f5 := AutoSeq1.sub_list_tuple;
    have hz' : (items ++ items2).size ≤ sizeLine + 1 := by rw [Array.size_append]; exact hs2
    wp_walk using (wpAny_updateSeq hl rfl (hz := hs1) (_hz' := hz')), wpAny_loadPart' hl, wpAny_loadPart' hb; exact ⟨_, rfl, h⟩
section
variable {X : Cx} {Wx : WX} {a b c e o : Expr} {es : List Expr} {pos p2 : Pos} {ga gb gc go : GTE} {gs : GTA}
def rExtendT (K : PySem.W.Frag) : V → List V → Hp → VK → Prop := fun x vs H Q => ∃ l b xs zs, x = .ref l ∧ vs = [.ref b] ∧ H l = some (.lst xs) ∧ SqT K H b zs ∧ xs.length + zs.length ≤ sizeLine ∧ Q .non (upd H l (.lst (xs ++ zs)))
theorem mt_extendT : MtM X "list.extend" (rExtendT X.K) := by
  intro pins s σ H x vs v us Q I rx rv h
  obtain ⟨l, b, xs, zs, rfl, rfl, hH, hB, hz, q⟩ := h
  cases rx
  obtain ⟨u, rfl, ru⟩ := rv.one
  cases ru
  obtain ⟨z, its, n, r, hl, e⟩ := I.lstM hH
  obtain ⟨its2, r2, ⟨⟨cls, dd, data, sl⟩, ho, hc, n2, hd⟩, hs⟩ := I.tuple hB
  simp only at hc hd
  subst hc hd
  have hl2 := r2.length
  have hl1 := r.length
  have hsz : its.toArray.size + its2.toArray.size ≤ sizeLine := by rw [List.size_toArray, List.size_toArray]; omega
  have hlong : ¬ (!its.toArray.isEmpty && Builtin.List.listTooLong (its.toArray.size + its2.toArray.size)) = true := by
    rw [notLongL hsz, Bool.and_false]
    exact Bool.false_ne_true
  refine call_meets F.slot_list_extend ⟨_, e, rfl⟩ F.entry_list_extend (F.args_list_extend_2 _ _)
    (list_extend_tupG l its.toArray n b its2.toArray n2 dd sl hlong (by rw [List.size_toArray]; omega) (by omega)) ⟨e, ho, ?_⟩
  refine ⟨.non, _, I.lset (its' := its ++ its2) hH e (by simp) (r.append r2) ?_, rfl, q⟩
  rw [List.length_append]
  omega
def gExtT : Nat → List A → GC := fun n xs as L R => on1 as fun a => onO (tdOf a) fun ys => xs.length + ys.length ≤ sizeLine ∧ R (.d .none) (L.set n (.lst (xs ++ ys.map .d)))
theorem g_extT {apos cpos : Pos} (ho : GE X o go) (ha : GA X (e :: es) gs) (hbase : attributeBase o "extend" X.env (eval o X.env) = eval o X.env := by rfl)
    (hfew : ((backTo cpos (starEach (e :: es) X.env)).all (fun x => !x.1) && (backToKw cpos (keywordEach [] X.env)).all (fun x => x.1.isSome)
      && decide ((e :: es).length + ([] : List Keyword).length + (if ([] : List Keyword).isEmpty then 0 else 1) < 30)) = true := by rfl)
    (hline : (apos.endLine == cpos.line) = true := by rfl) (hs : starEach (e :: es) X.env = (false, eval e X.env) :: starEach es X.env := by rfl) (hplain : (backTo cpos (starEach es X.env)).any (·.1) = false := by rfl) :
    GE X (.Call (.Attribute o "extend" apos) (e :: es) [] cpos) (gMl go gs gExtT) :=
  g_ml PySem.F.slot_list_extend PySem.F.type_list_extend mt_extendT (fun W n xs as us vs R Q ok hn hH hl ha h fin => by
    obtain ⟨a, ea, h1⟩ := on1_el h
    obtain ⟨ys, ey, hz, h2⟩ := onO_el h1
    subst ea
    obtain ⟨v, rfl, at1⟩ := ha.one
    obtain ⟨p, ws, rfl, hp, hw⟩ := td_at at1 ey
    exact ⟨_, p, us, ws, rfl, rfl, hH, sqT_mono ok.base hp, by rw [← hl.length, hw.length]; exact hz, fin _ (W.put n (.lst (xs ++ ys.map .d)) (.lst (us ++ ws))) _ h2 (Wd.put_grow ok hn (by intro z; cases z) _ _) (Wd.put_ok ok hn (by intro z; cases z) ⟨_, rfl, hl.append (.of_ds hw)⟩) (.d .non)⟩) ho ha hbase hfew hline hs hplain
end
end GL

/-! GOa: instances of own classes as own cells. -/
namespace GL
open PySem PySem.Spec L2
def putFA (f : Str) (v : A) : List (Str × A) → List (Str × A)
  | [] => [(f, v)]
  | (g, x) :: r => if g = f then (g, v) :: r else (g, x) :: putFA f v r
section
variable {K : PySem.W.Frag} {W : Wd}
theorem fld_pair {f : Str} : ∀ {fs : List (Str × A)} {vs : List (Str × V)}, Paired (fun p q => p.1 = q.1 ∧ At K W p.2 q.2) fs vs → ∀ {x : A}, fs.lookup f = some x → ∃ v, vs.lookup f = some v ∧ At K W x v
  | [], _, h, x, e => by simp at e
  | (g, y) :: fs, _, h, x, e => by
    cases h with
    | cons h1 h2 =>
      rename_i q qs
      obtain ⟨g', u⟩ := q
      obtain ⟨e1, at1⟩ := h1
      have e1' : g = g' := e1
      subst e1'
      rw [List.lookup_cons] at e ⊢
      cases hb : f == g with
      | true => rw [hb] at e; cases e; exact ⟨u, rfl, at1⟩
      | false => rw [hb] at e; exact fld_pair h2 e
theorem fld_none {f : Str} : ∀ {fs : List (Str × A)} {vs : List (Str × V)}, Paired (fun p q => p.1 = q.1 ∧ At K W p.2 q.2) fs vs → fs.lookup f = none → vs.lookup f = none
  | [], _, h, e => by cases h; rfl
  | (g, y) :: fs, _, h, e => by
    cases h with
    | cons h1 h2 =>
      rename_i q qs
      obtain ⟨g', u⟩ := q
      obtain ⟨e1, at1⟩ := h1
      have e1' : g = g' := e1
      subst e1'
      rw [List.lookup_cons] at e ⊢
      cases hb : f == g with
      | true => rw [hb] at e; cases e
      | false => rw [hb] at e; exact fld_none h2 e
theorem putFA_pair {f : Str} {x : A} {v : V} (hx : At K W x v) : ∀ {fs : List (Str × A)} {vs : List (Str × V)}, Paired (fun p q => p.1 = q.1 ∧ At K W p.2 q.2) fs vs → Paired (fun p q => p.1 = q.1 ∧ At K W p.2 q.2) (putFA f x fs) (putF f v vs)
  | [], _, h => by cases h; exact .cons ⟨rfl, hx⟩ .nil
  | (g, y) :: fs, _, h => by
    cases h with
    | cons h1 h2 =>
      rename_i q qs
      obtain ⟨g', u⟩ := q
      obtain ⟨e1, at1⟩ := h1
      have e1' : g = g' := e1
      subst e1'
      show Paired _ (if g = f then (g, x) :: fs else (g, y) :: putFA f x fs) (if g = f then (g, v) :: qs else (g, u) :: putF f v qs)
      split
      · exact .cons ⟨rfl, hx⟩ h2
      · exact .cons ⟨rfl, at1⟩ (putFA_pair hx h2)
theorem pair_len {α β : Type} {F : α → β → Prop} : ∀ {l : List α} {k : List β}, Paired F l k → l.length = k.length
  | [], _, h => by cases h; rfl
  | a :: l, _, h => by
    cases h with
    | cons h1 h2 => simp [pair_len h2]
end
section
variable {X : Cx} {Wx : WX} {C : Addr} {f m : Str} {e o : Expr} {es : List Expr} {pos : Pos} {ga go gv : GTE} {gs : GTA}
def gFld (C : Addr) (f : Str) (ga : GTE) : GTE := fun s L R => ga s L fun a L1 => onOwn a fun n => ∃ fs x, L1[n]? = some (.obj C fs) ∧ fs.lookup f = some x ∧ R x L1
theorem g_fld (c : Cls X.K C) (hn : NoAttr X.K C f) (he : GE X e ga) (hb : attributeBase e f X.env (eval e X.env) = eval e X.env := by rfl) : GE X (.Attribute e f pos) (gFld C f ga) :=
  ⟨pe_imp (pe_fld he.pe hb) fun σ H Q h => by
    obtain ⟨W, s, R, e, ok, ats, h, fin⟩ := h
    refine ⟨W, s, _, e, ok, ats, h, fun a W1 v q g1 ok1 at1 => ?_⟩
    obtain ⟨n, rfl, fs, x, e1, e2, q⟩ := onOwn_el q
    obtain ⟨rfl, hl⟩ := at1.own_iff
    obtain ⟨u, e3, ⟨dx, vs, rfl, pr⟩, _⟩ := ok1.own _ _ e1 (by intro z; cases z)
    obtain ⟨v, e4, at2⟩ := fld_pair pr e2
    exact ⟨W1.ρ n, C, dx, vs, v, rfl, e3, c, hn, e4, fin x W1 v q g1 ok1 at2⟩⟩
def gSFld (C : Addr) (f : Str) (gv go : GTE) : GTS := fun D s L => gv s L fun x L1 => go s L1 fun a L2 => onOwn a fun n => ∃ fs, L2[n]? = some (.obj C fs) ∧ fs.length < 1000 ∧ D.nx s (L2.set n (.obj C (putFA f x fs)))
theorem s_fld {pos' : Pos} (c : Cls X.K C) (hn : NoAttr X.K C f) (ho : GE X o go) (hv : GE X e gv) (hs : swapsWith e (some (.Attribute o f pos')) pos.line X.env = pure false := by rfl) : GS X Wx (.Assign [.Attribute o f pos'] e pos) (gSFld C f gv go) :=
  ⟨fun W0 => ps_imp (ps_fld ho.pe hv.pe hs) fun D σ H h => by
    obtain ⟨W, s, E, e, ok, ats, gr, h, fin⟩ := h
    refine ⟨W, s, _, e, ok, ats, h, fun x W1 v q g1 ok1 at1 => ⟨W1, s, _, rfl, ok1, ats.mono g1, q, fun a W2 u q2 g2 ok2 at2 => ?_⟩⟩
    obtain ⟨n, rfl, fs, e1, e2, q3⟩ := onOwn_el q2
    obtain ⟨rfl, hl⟩ := at2.own_iff
    obtain ⟨u, e3, ⟨dx, vs, rfl, pr⟩, _⟩ := ok2.own _ _ e1 (by intro z; cases z)
    have nd : AO.obj C fs ≠ .dead := by intro z; cases z
    refine ⟨W2.ρ n, C, dx, vs, rfl, e3, c, hn, by rw [← pair_len pr]; exact e2, ?_⟩
    have gp := Wd.put_grow ok2 e1 nd (.obj C (putFA f x fs)) (.ins C dx (putF f v vs))
    exact fin.nx s (W2.put n _ _) σ q3 (gr.trans (g1.trans (g2.trans gp))) (Wd.put_ok ok2 e1 nd ⟨dx, _, rfl, putFA_pair (at1.mono g2) pr⟩) (ats.mono (g1.trans (g2.trans gp)))⟩
/-! methods -/
def ClM (P : Program) (w : World) (K : PySem.W.Frag) (mg : Str → Option Value) (base : Heap) (k : Nat) (C : Addr) (m : Str) (ps : List Str) (asp : ASp) : Prop :=
  ∃ f fd, FnOk P w K mg base CX0 k f fd ps (liftSp K asp) ∧ Meth K C m f ∧ Binds K fd ps []
def DfM (K : PySem.W.Frag) (C : Addr) (m qual : Str) (ps : List Str) (st : Stmt) : Prop := ∃ f fd, Fun K m qual st f fd ∧ Meth K C m f ∧ Binds K fd ps []
theorem DfM.clB {P : Program} {w : World} {K : PySem.W.Frag} {mg : Str → Option Value} {base : Heap} {x qual : Str} {st : Stmt} {N ps : List Str} {k : Nat} {asp : ASp} (d : DfM K C x qual ps st) (S : FnScope N ps (defScope st)) (len : ∀ as L R Ex, asp as L R Ex → as.length = ps.length)
    (body : ∀ (f : Addr) (cdv : Value) (A : Around) (outer : List Env) (s : Shared) (H : Hp) (E : XK), Room k (A.deeper (PyProof.Rows.envOfC qual (defScope st) s.heap.objs.size f cdv)) →
      ∃ g, GSs (cxOf CX0 P w K mg base N qual (defScope st) f cdv A outer s H E).nox WX0 (defBody st) g ∧ ∀ as L R Ex, asp as L R Ex → belLo L.length L = true → g (fnEnds L.length R) (startA N.length as) L) :
    ClM P w K mg base (k + 1) C x ps asp := by
  obtain ⟨f, fd, F, hm, b⟩ := d
  refine ⟨f, fd, ?_, hm, b⟩
  refine F.ok S (fun vs H Q E h => ?_) (fun cdv A outer s H vs Q E hr h => ?_)
  · obtain ⟨W, as, R, Ex, e, ok, at1, h, _⟩ := h
    rw [← at1.length]
    exact len as _ _ _ h
  · obtain ⟨W, as, R, Ex, e, ok, at1, h, hR, hX⟩ := h
    obtain ⟨g, hg, hb⟩ := body f cdv A outer s H E hr
    refine ⟨_, hg.pss W, W, startA N.length as, fnEnds W.L.length R, e, ok, start_at at1, Grow.refl, hb as W.L R Ex h ok.bel, ⟨fun s' W' σ' q gr ok' at' => nx_fin hR q gr ok' at', fun a W' v q gr ok' at' => rt_fin hR q gr ok' at', fun _ _ _ q => q.elim, fun _ _ _ q => q.elim, fun _ _ _ _ _ _ q => q.elim, rfl⟩⟩
variable {j k : Nat} {ps : List Str} {asp : ASp} {x : Str} {p : Pos}
def gMeth (C : Addr) (m : Str) (asp : ASp) (go : GTE) (gs : GTA) : GTE := fun s L R => go s L fun a L1 => onOwn a fun n => ∃ fs, L1[n]? = some (.obj C fs) ∧ fs.lookup m = none ∧ gs s L1 fun as L2 => asp (.own n :: as) L2 R (fun _ _ _ => False)
def gMeth0 (C : Addr) (m : Str) (asp : ASp) (go : GTE) : GTE := fun s L R => go s L fun a L1 => onOwn a fun n => ∃ fs, L1[n]? = some (.obj C fs) ∧ fs.lookup m = none ∧ asp [.own n] L1 R (fun _ _ _ => False)
theorem g_meth {apos : Pos} {pl : Sem Bool} (c : Cls X.K C) (M : ClM X.prog X.w X.K X.mg X.base j C m ps asp) (hr : Room k X.A) (ho : GE X o go) (ha : GA X (e :: es) gs) (hjk : j ≤ k := by decide)
    (hst : starEach (e :: es) X.env = (false, eval e X.env) :: starEach es X.env := by rfl) (hpl : (backTo pos (starEach es X.env)).any (·.1) = false := by rfl)
    (ht : eval (.Call (.Attribute o m apos) (e :: es) [] pos) X.env = (do
      let ov ← eval o X.env
      standAt apos.atName
      let (f, first) ← holding [ov] (getMethod ov m pl)
      callWith pos f first (backTo pos (starEach (e :: es) X.env)) (backToKw pos (keywordEach [] X.env))) := by rfl) : GE X (.Call (.Attribute o m apos) (e :: es) [] pos) (gMeth C m asp go gs) := by
  obtain ⟨fa, fd, F, hm, hb⟩ := M
  exact ⟨pe_imp (pe_meth ho.pe c hm F (hr.mono hjk) hb .nil pass0 ha.pa hst hpl ht) fun σ H Q h => by
    obtain ⟨W, s, R, e, ok, ats, h, fin⟩ := h
    refine ⟨W, s, _, e, ok, ats, h, fun a W1 v q g1 ok1 at1 => ?_⟩
    obtain ⟨n, rfl, fs, e1, e2, q⟩ := onOwn_el q
    obtain ⟨rfl, hl⟩ := at1.own_iff
    obtain ⟨u, e3, ⟨dx, vs, rfl, pr⟩, _⟩ := ok1.own _ _ e1 (by intro z; cases z)
    refine ⟨W1.ρ n, dx, vs, rfl, e3, fld_none pr e2, W1, s, _, rfl, ok1, ats.mono g1, q, fun as W2 us q2 g2 ok2 at2 => ?_⟩
    show liftSp X.K asp (.ref (W1.ρ n) :: (us ++ [])) W2.H Q E0
    rw [List.append_nil]
    exact ⟨W2, .own n :: as, _, _, rfl, ok2, .cons (at1.mono g2) at2, q2, fun a Wc v q3 g3 okc atc => fin _ Wc v q3 (g1.trans (g2.trans g3)) okc atc, fun _ _ _ _ z => z.elim⟩⟩
theorem g_meth0 {apos : Pos} {pl : Sem Bool} (c : Cls X.K C) (M : ClM X.prog X.w X.K X.mg X.base j C m ps asp) (hr : Room k X.A) (ho : GE X o go) (hjk : j ≤ k := by decide)
    (ht : eval (.Call (.Attribute o m apos) [] [] pos) X.env = (do
      let ov ← eval o X.env
      standAt apos.atName
      let (f, first) ← holding [ov] (getMethod ov m pl)
      callWith pos f first (backTo pos (starEach [] X.env)) (backToKw pos (keywordEach [] X.env))) := by rfl) : GE X (.Call (.Attribute o m apos) [] [] pos) (gMeth0 C m asp go) := by
  obtain ⟨fa, fd, F, hm, hb⟩ := M
  exact ⟨pe_imp (pe_meth0 ho.pe c hm F (hr.mono hjk) hb .nil pass0 ht) fun σ H Q h => by
    obtain ⟨W, s, R, e, ok, ats, h, fin⟩ := h
    refine ⟨W, s, _, e, ok, ats, h, fun a W1 v q g1 ok1 at1 => ?_⟩
    obtain ⟨n, rfl, fs, e1, e2, q⟩ := onOwn_el q
    obtain ⟨rfl, hl⟩ := at1.own_iff
    obtain ⟨u, e3, ⟨dx, vs, rfl, pr⟩, _⟩ := ok1.own _ _ e1 (by intro z; cases z)
    refine ⟨W1.ρ n, dx, vs, rfl, e3, fld_none pr e2, ?_⟩
    exact ⟨W1, [.own n], _, _, rfl, ok1, .cons at1 .nil, q, fun a Wc v q3 g3 okc atc => fin _ Wc v q3 (g1.trans g3) okc atc, fun _ _ _ _ z => z.elim⟩⟩
/-- C(..) -/
def gMake (C : Addr) (asp : ASp) (gs : GTA) : GTE := fun s L R => gs s L fun as L1 => asp (.own L1.length :: as) (L1 ++ [.obj C []]) (fun v L2 => v = .d .none ∧ R (.own L1.length) L2) (fun _ _ _ => False)
theorem g_make {fi : Addr} {fd : FuncData} (M : Mk X.K C fi) (F : FnOk X.prog X.w X.K X.mg X.base CX0 j fi fd ps (liftSp X.K asp)) (hr : Room k X.A) (hg : Gl X x) (hm : X.mg x = some (.ref C)) (hb : Binds X.K fd ps []) (ha : GA X (e :: es) gs) (hjk : j + 1 ≤ k := by decide)
    (hdb : (x == ("__debug__" : Str)) = false := by decide) (he : starEach (e :: es) X.env = (false, eval e X.env) :: starEach es X.env := by rfl) (hpl : (backTo pos (starEach es X.env)).any (·.1) = false := by rfl) : GE X (.Call (.Name x p) (e :: es) [] pos) (gMake C asp gs) :=
  ⟨pe_imp (pe_make M F (hr.mono hjk) hg hm hb .nil pass0 ha.pa hdb he hpl) fun σ H Q h => by
    obtain ⟨W, s, R, e, ok, ats, h, fin⟩ := h
    refine ⟨W, s, _, e, ok, ats, h, fun as W1 vs q g1 ok1 at1 => ?_⟩
    intro y dx hy hdx hne
    rw [List.append_nil]
    have g2 := Wd.frz_grow ok1 hdx (.own y)
    have ok2 := Wd.frz_ok ok1 hdx (.own y)
    have hy2 : (W1.frz dx (.own y)).H y = none := by show upd W1.H dx _ y = none; rw [upd_ne (fun z => hne z.symm)]; exact hy
    have g3 := Wd.new_grow ok2 hy2 (.obj C []) (.ins C dx [])
    have ok3 := Wd.new_ok (c := .obj C []) (o := .ins C dx []) ok2 hy2 ⟨dx, [], rfl, .nil⟩
    have at3 : At X.K ((W1.frz dx (.own y)).new y (.obj C []) (.ins C dx [])) (.own W1.L.length) (.ref y) := Wd.new_own _ _
    refine ⟨(W1.frz dx (.own y)).new y (.obj C []) (.ins C dx []), .own W1.L.length :: as, _, _, rfl, ok3, .cons at3 ((at1.mono g2).mono g3), q, fun a Wc v q3 g4 okc atc => ?_, fun _ _ _ _ z => z.elim⟩
    obtain ⟨rfl, q3⟩ := q3
    exact ⟨atc.non, fin _ Wc _ q3 (g1.trans (g2.trans (g3.trans g4))) okc (at3.mono g4)⟩⟩
end
end GL
namespace GL
open PySem PySem.Spec L2
/-- a class that makes instances by its own __init__ -/
def MkC (P : Program) (w : World) (K : PySem.W.Frag) (mg : Str → Option Value) (base : Heap) (k : Nat) (C : Addr) (x : Str) (ps : List Str) (asp : ASp) : Prop :=
  ∃ f fd, Mk K C f ∧ FnOk P w K mg base CX0 k f fd ps (liftSp K asp) ∧ mg x = some (.ref C) ∧ Binds K fd ps []
theorem g_mk {X : Cx} {C : Addr} {j k : Nat} {x : Str} {ps : List Str} {asp : ASp} {e : Expr} {es : List Expr} {p pos : Pos} {gs : GTA} (M : MkC X.prog X.w X.K X.mg X.base j C x ps asp) (hr : Room k X.A) (hg : Gl X x) (ha : GA X (e :: es) gs) (hjk : j + 1 ≤ k := by decide)
    (hdb : (x == ("__debug__" : Str)) = false := by decide) (he : starEach (e :: es) X.env = (false, eval e X.env) :: starEach es X.env := by rfl) (hpl : (backTo pos (starEach es X.env)).any (·.1) = false := by rfl) : GE X (.Call (.Name x p) (e :: es) [] pos) (gMake C asp gs) := by
  obtain ⟨fi, fd, M, F, hm, hb⟩ := M
  exact g_make M F hr hg hm hb ha hjk hdb he hpl
theorem ClM.mk {P : Program} {w : World} {K : PySem.W.Frag} {mg : Str → Option Value} {base : Heap} {k : Nat} {C : Addr} {x : Str} {ps : List Str} {asp : ASp} (M : ClM P w K mg base k C "__init__" ps asp) (hk : PySem.W.makesIn K C = true) (kc : PySem.W.keepIn K (.ref C) = true) (hm : mg x = some (.ref C)) : MkC P w K mg base k C x ps asp := by
  obtain ⟨f, fd, F, m, b⟩ := M
  exact ⟨f, fd, ⟨hk, m.at_, m.fn, kc⟩, F, hm, b⟩
end GL

namespace GL
open PySem PySem.Spec L2
/-! ### data that may be compared -/
def Sh (k : Nat) (d : D) : Prop := d.py.canLay0 = true ∧ d.py.depth ≤ k
theorem shAll {k : Nat} : ∀ {ds : List D}, (∀ d ∈ ds, Sh k d) → PyData.canLayAll0 (D.pyL ds) = true ∧ PyData.depthAll (D.pyL ds) ≤ k
  | [], _ => by simp [D.pyL, PyData.canLayAll0, PyData.depthAll]
  | d :: ds, h => by
    have ⟨h1, h2⟩ := shAll fun x hx => h x (List.mem_cons_of_mem d hx)
    obtain ⟨h3, h4⟩ := h d List.mem_cons_self
    refine ⟨?_, ?_⟩
    · show PyData.canLayAll0 (D.py d :: D.pyL ds) = true
      simp only [PyData.canLayAll0, h3, h1]; rfl
    · show PyData.depthAll (D.py d :: D.pyL ds) ≤ k
      simp only [PyData.depthAll]
      omega
theorem Sh.int {k : Nat} {i : Int} : Sh k (.int i) := ⟨by show PyData.canLay0 (.int i) = true; simp [PyData.canLay0], by show PyData.depth (.int i) ≤ k; simp [PyData.depth]⟩
theorem Sh.bool {k : Nat} {i : Bool} : Sh k (.bool i) := ⟨by show PyData.canLay0 (.bool i) = true; simp [PyData.canLay0], by show PyData.depth (.bool i) ≤ k; simp [PyData.depth]⟩
theorem Sh.none {k : Nat} : Sh k .none := ⟨by show PyData.canLay0 .none = true; simp [PyData.canLay0], by show PyData.depth .none ≤ k; simp [PyData.depth]⟩
theorem Sh.list {k : Nat} {ds : List D} (h : ∀ d ∈ ds, Sh k d) : Sh (k + 1) (.list ds) := by
  obtain ⟨h1, h2⟩ := shAll h
  refine ⟨?_, ?_⟩
  · show PyData.canLay0 (.list (D.pyL ds)) = true
    simp only [PyData.canLay0]; exact h1
  · show PyData.depth (.list (D.pyL ds)) ≤ k + 1
    simp only [PyData.depth]; omega
theorem Sh.tuple {k : Nat} {ds : List D} (h : ∀ d ∈ ds, Sh k d) : Sh (k + 1) (.tuple ds) := by
  obtain ⟨h1, h2⟩ := shAll h
  refine ⟨?_, ?_⟩
  · show PyData.canLay0 (.tuple (D.pyL ds)) = true
    simp only [PyData.canLay0]; exact h1
  · show PyData.depth (.tuple (D.pyL ds)) ≤ k + 1
    simp only [PyData.depth]; omega
theorem Sh.grp {k : Nat} {ds : List D} (h : ∀ d ∈ ds, Sh k d) : Sh (k + 1) (.grp ds) := Sh.tuple h
theorem Sh.ok {k : Nat} {d : D} (h : Sh k d) (hk : k ≤ 64 := by decide) : SeqAt.shaped d.py = true := by
  show (d.py.canLay0 && decide (d.py.depth ≤ 64)) = true
  rw [h.1, decide_eq_true (Nat.le_trans h.2 hk)]; rfl
theorem Sh.nts {k : Nat} {ns : List Int} : ∀ d ∈ nts ns, Sh k d := fun d hd => by
  obtain ⟨n, _, rfl⟩ := List.mem_map.mp hd
  exact Sh.int
theorem Sh.refl {k : Nat} {d : D} (h : Sh k d) : PyData.eqv d.py d.py = true := SeqAt.eqv_refl d.py h.1
theorem Sh.ntsT {ns : List Int} : Sh 1 (.tuple (GL.nts ns)) := Sh.tuple Sh.nts
theorem Sh.ntsG {ns : List Int} : Sh 1 (.grp (GL.nts ns)) := Sh.grp Sh.nts
theorem Sh.ntsL {ns : List Int} : Sh 1 (.list (GL.nts ns)) := Sh.list Sh.nts
/-- the same data, compared -/
theorem eqD_same {a b : A} {x y : D} {k : Nat} {L : Lo} {R : KA} (ra : Rds L a x) (rb : Rds L b y) (e : x.py = y.py) (h : Sh k x) (hk : k ≤ 64) (q : R (.d (.bool true)) L) : gEqD a b L R :=
  ⟨x, y, ra, rb, h.ok hk, by rw [← e]; exact h.ok hk, by rw [← e, h.refl]; exact q⟩
theorem neD_same {a b : A} {x y : D} {k : Nat} {L : Lo} {R : KA} (ra : Rds L a x) (rb : Rds L b y) (e : x.py = y.py) (h : Sh k x) (hk : k ≤ 64) (q : R (.d (.bool false)) L) : gNeD a b L R :=
  ⟨x, y, ra, rb, h.ok hk, by rw [← e]; exact h.ok hk, by rw [← e, h.refl]; exact q⟩
theorem eqv_nil_cons {d : D} {ds : List D} : PyData.eqv (D.py (.list (d :: ds))) (D.py (.list [])) = false := by
  show PyData.eqv (.list (D.py d :: D.pyL ds)) (.list []) = false
  simp [PyData.eqv, PyData.eqvAll]
end GL

namespace GL
open PySem PySem.Spec L2
/-- the last cell alone is kept behind L -/
theorem Wk.lastP {L J : Lo} {o : AO} (hL : belLo L.length L = true) (ho : belO 0 o = true) : Wk L.length [some (.own (L ++ J).length)] ((L ++ J) ++ [o]) [some (.own L.length)] (L ++ [o]) := fun K W σ ok e a => by
  let W1 : Wd := ⟨fun j => if j = L.length then W.ρ (L ++ J).length else W.ρ j, W.B, L ++ [o], W.H⟩
  have len1 : W1.L.length = L.length + 1 := by show (L ++ [o]).length = _; simp
  have lenW : W.L.length = (L ++ J).length + 1 := by rw [e, List.length_append]; rfl
  have lt : ∀ j, j < L.length → W1.ρ j = W.ρ j := fun j h => if_neg (by omega)
  have eqL : W1.ρ L.length = W.ρ (L ++ J).length := if_pos rfl
  have hPl : L.length ≤ (L ++ J).length := by simp
  have get : ∀ {n p}, (L ++ [o])[n]? = some p → (n < L.length ∧ L[n]? = some p ∧ W.L[n]? = some p) ∨ (n = L.length ∧ p = o) := fun {n p} q => by
    by_cases hn : n < L.length
    · rw [List.getElem?_append_left hn] at q
      refine .inl ⟨hn, q, ?_⟩
      rw [e, List.getElem?_append_left (by simp; omega), List.getElem?_append_left hn]; exact q
    · have h1 := (List.getElem?_eq_some_iff.mp q).1
      rw [List.length_append, List.length_singleton] at h1
      have hn2 : n = L.length := by omega
      subst hn2
      rw [last_at] at q
      exact .inr ⟨rfl, (Option.some.inj q).symm⟩
  have wl : W.L[(L ++ J).length]? = some o := by rw [e]; exact last_at
  refine ⟨W1, rfl, ⟨ok.base, fun n p q h => ?_, fun n m p p' q h q' h' z => ?_, fun n h => ?_⟩, ⟨a.len, fun i c ec => ?_⟩, rfl, fun _ _ h => h, fun W0 g hb0 hl0 => ?_⟩
  · rcases get q with ⟨hn, q1, q2⟩ | ⟨hn, rfl⟩
    · obtain ⟨u, e1, e2, e3⟩ := ok.own n p q2 h
      rw [lt n hn]
      exact ⟨u, e1, belO_at (W := W) (W' := W1) (k := L.length) (fun _ _ h => h) (by rw [len1]; omega) lt (belLo_get hL q1) e2, e3⟩
    · subst hn
      obtain ⟨u, e1, e2, e3⟩ := ok.own _ p wl h
      rw [eqL]
      exact ⟨u, e1, belO_at (W := W) (W' := W1) (k := 0) (fun _ _ h => h) (Nat.zero_le _) (fun n hn => absurd hn (Nat.not_lt_zero n)) ho e2, e3⟩
  · rcases get q with ⟨hn, q1, q2⟩ | ⟨hn, rfl⟩
    · rcases get q' with ⟨hm, r1, r2⟩ | ⟨hm, rfl⟩
      · rw [lt n hn, lt m hm] at z
        exact ok.inj n m p p' q2 h r2 h' z
      · subst hm
        rw [lt n hn, eqL] at z
        have := ok.inj n _ p p' q2 h wl h' z
        omega
    · subst hn
      rcases get q' with ⟨hm, r1, r2⟩ | ⟨hm, rfl⟩
      · rw [lt m hm, eqL] at z
        have := ok.inj _ m _ p' wl h r2 h' z
        omega
      · exact hm.symm
  · show W.H (W1.ρ n) ≠ none
    rw [len1] at h
    by_cases hn : n < L.length
    · rw [lt n hn]; exact ok.there n (by omega)
    · have hn2 : n = L.length := by omega
      subst hn2
      rw [eqL]; exact ok.there _ (by omega)
  · cases i with
    | zero =>
      simp at ec; subst ec
      obtain ⟨v, e3, e4⟩ := a.at_ 0 _ rfl
      refine ⟨v, e3, ?_⟩
      obtain ⟨ev, _⟩ := e4.own_iff
      rw [ev, ← eqL]
      exact At.own (W := W1) (by rw [len1]; omega)
    | succ i => simp at ec
  · have hbL : W0.L.length ≤ L.length := hb0
    refine ⟨g.base, by rw [len1]; omega, fun n hn => ?_, g.keep, g.there, g.newB, fun j h2 h3 => ?_⟩
    · rw [lt n (by omega)]; exact g.rho n hn
    · rw [len1] at h3
      by_cases hn : j < L.length
      · rw [lt j hn]; exact g.newL j h2 (by omega)
      · have hn2 : j = L.length := by omega
        subst hn2
        rw [eqL]; exact g.newL _ (by omega) (by omega)
end GL

/-! GOb: own cells kept under new numbers, whatever they hold. -/
namespace GL
open PySem PySem.Spec L2
def gcR (m : List Nat) (k : Nat) (j : Nat) : Nat := match m[j]? with
  | some n => n
  | none => k + j
theorem Wk.gc {b : Nat} {s s1 : Sl} {L L1 : Lo} (m : List Nat) (nd : m.Nodup) (len : m.length = L1.length) (fst : ∀ j : Nat, j < b → m[j]? = some j)
    (at_ : ∀ j n : Nat, m[j]? = some n → n < L.length ∧ ∃ o : AO, L1[j]? = some o ∧ L[n]? = some (o.ren (gcR m L.length))) (hs : s = s1.map (Option.map (A.ren (gcR m L.length)))) : Wk b s L s1 L1 := fun K W σ ok e a => by
  subst e
  let W1 : Wd := ⟨fun j => W.ρ (gcR m W.L.length j), W.B, L1, W.H⟩
  have rm : ∀ {j n}, m[j]? = some n → gcR m W.L.length j = n := fun {j n} q => by unfold gcR; rw [q]
  have hr : ∀ j, gcR m W.L.length j < W.L.length → j < W1.L.length ∧ W1.ρ j = W.ρ (gcR m W.L.length j) := fun j h => by
    refine ⟨?_, rfl⟩
    show j < L1.length
    rw [← len]
    by_cases hj : j < m.length
    · exact hj
    · unfold gcR at h
      rw [List.getElem?_eq_none (by omega)] at h
      have h' : W.L.length + j < W.L.length := h
      omega
  have old : ∀ {j : Nat} {o : AO}, L1[j]? = some o → ∃ n, m[j]? = some n ∧ n < W.L.length ∧ W.L[n]? = some (o.ren (gcR m W.L.length)) := fun {j o} q => by
    have hj : j < m.length := by rw [len]; exact (List.getElem?_eq_some_iff.mp q).1
    obtain ⟨h1, o', e1, e2⟩ := at_ j m[j] (List.getElem?_eq_getElem hj)
    rw [q] at e1; cases e1
    exact ⟨m[j], List.getElem?_eq_getElem hj, h1, e2⟩
  have rho : ∀ {j n}, m[j]? = some n → W1.ρ j = W.ρ n := fun {j n} q => by show W.ρ (gcR m W.L.length j) = _; rw [rm q]
  refine ⟨W1, rfl, ⟨ok.base, fun j o q hd => ?_, fun i j o o' q hd q' hd' z => ?_, fun j hj => ?_⟩, ⟨by rw [← a.len, hs, List.length_map], fun i c ec => ?_⟩, rfl, fun _ _ h => h, fun W0 g hb hl => ?_⟩
  · obtain ⟨n, e1, _, e2⟩ := old q
    obtain ⟨u, e4, e5, e6⟩ := ok.own n _ e2 (ren_dead hd)
    rw [rho e1]
    exact ⟨u, e4, renO_of (W := W) (W' := W1) (fun _ _ h => h) hr e5, e6⟩
  · obtain ⟨n, e1, _, e2⟩ := old q
    obtain ⟨n', e1', _, e2'⟩ := old q'
    rw [rho e1, rho e1'] at z
    have := ok.inj n n' _ _ e2 (ren_dead hd) e2' (ren_dead hd') z
    subst this
    exact nd_ix nd e1 e1'
  · have hj' : j < m.length := by rw [len]; exact hj
    obtain ⟨h1, _⟩ := at_ j m[j] (List.getElem?_eq_getElem hj')
    rw [rho (List.getElem?_eq_getElem hj')]
    exact ok.there _ h1
  · have e0 : s[i]? = some (some (c.ren (gcR m W.L.length))) := by rw [hs, List.getElem?_map, ec]; rfl
    obtain ⟨v, e3, e4⟩ := a.at_ i _ e0
    exact ⟨v, e3, ren_of (W := W) (W' := W1) (fun _ _ h => h) hr c v e4⟩
  · refine ⟨g.base, Nat.le_trans hb hl, fun n hn => ?_, g.keep, g.there, g.newB, fun j h2 h3 => ?_⟩
    · rw [rho (fst n (by omega))]
      exact g.rho n hn
    · have hj' : j < m.length := by rw [len]; exact h3
      obtain ⟨h1, _⟩ := at_ j m[j] (List.getElem?_eq_getElem hj')
      rw [rho (List.getElem?_eq_getElem hj')]
      refine g.newL _ ?_ h1
      refine Nat.le_of_not_lt fun z => ?_
      have e2 := fst m[j] (by omega)
      have := nd_ix nd e2 (List.getElem?_eq_getElem hj')
      omega
mutual
theorem ren_id {r : Nat → Nat} {k : Nat} (h : ∀ j, j < k → r j = j) : ∀ a : A, bel k a = true → a.ren r = a
  | .d _, _ => rfl
  | .own n, e => by
    show A.own (r n) = _
    rw [h n (of_decide_eq_true e)]
  | .tup as, e => by
    show A.tup (A.renL r as) = _
    rw [renL_id h as e]
  | .scr _, _ => rfl
  | .raw _, _ => rfl
theorem renL_id {r : Nat → Nat} {k : Nat} (h : ∀ j, j < k → r j = j) : ∀ as : List A, belL k as = true → A.renL r as = as
  | [], _ => rfl
  | a :: as, e => by
    have e' : (bel k a && belL k as) = true := e
    rw [Bool.and_eq_true] at e'
    show A.ren r a :: A.renL r as = _
    rw [ren_id h a e'.1, renL_id h as e'.2]
end
theorem renP_id {κ : Type} {r : Nat → Nat} {k : Nat} (h : ∀ j, j < k → r j = j) : ∀ {l : List (κ × A)}, belL k (l.map (·.2)) = true → (l.map fun p => (p.1, A.ren r p.2)) = l
  | [], _ => rfl
  | (x, a) :: l, e => by
    have e' : (bel k a && belL k (l.map (·.2))) = true := e
    rw [Bool.and_eq_true] at e'
    rw [List.map_cons, renP_id h e'.2, ren_id h a e'.1]
theorem renO_id {r : Nat → Nat} {k : Nat} (h : ∀ j, j < k → r j = j) : ∀ o : AO, belO k o = true → o.ren r = o
  | .lst as, e => by show AO.lst (A.renL r as) = _; rw [renL_id h as e]
  | .dT kvs, e => by show AO.dT (kvs.map fun p => (p.1, A.ren r p.2)) = _; rw [renP_id h e]
  | .dK kvs, e => by show AO.dK (kvs.map fun p => (p.1, A.ren r p.2)) = _; rw [renP_id h e]
  | .dX _ _, _ => rfl
  | .obj C fs, e => by show AO.obj C (fs.map fun p => (p.1, A.ren r p.2)) = _; rw [renP_id h e]
  | .dead, _ => rfl
/-- the place that a number has ahead: of the first k the same, of the j-th one kept behind them k + f[j] -/
def kpR (k : Nat) (f : List Nat) (q : Nat) (j : Nat) : Nat := if j < k then j else match f[j - k]? with
  | some n => k + n
  | none => k + q + j
theorem kpR_at {k q j n : Nat} {f : List Nat} (h : f[j]? = some n) : kpR k f q (k + j) = k + n := by
  unfold kpR
  rw [if_neg (by omega), show k + j - k = j by omega, h]
theorem kpR_lt {k q j : Nat} {f : List Nat} (h : j < k) : kpR k f q j = j := if_pos h
theorem Wk.keep {P J J1 : Lo} {s s1 : Sl} (f : List Nat) (hP : belLo P.length P = true) (nd : f.Nodup) (hl : f.length = J1.length)
    (at_ : ∀ j n : Nat, f[j]? = some n → ∃ o : AO, J1[j]? = some o ∧ J[n]? = some (o.ren (kpR P.length f J.length))) (hs : s = s1.map (Option.map (A.ren (kpR P.length f J.length)))) : Wk P.length s (P ++ J) s1 (P ++ J1) := by
  have m1 : ∀ j, j < P.length → (List.range P.length ++ f.map (P.length + ·))[j]? = some j := fun j h => by
    rw [List.getElem?_append_left (by simpa using h), List.getElem?_range h]
  have m2 : ∀ j, (List.range P.length ++ f.map (P.length + ·))[P.length + j]? = (f[j]?).map (P.length + ·) := fun j => by
    rw [List.getElem?_append_right (by simp), List.length_range, show P.length + j - P.length = j by omega, List.getElem?_map]
  have er : ∀ j, gcR (List.range P.length ++ f.map (P.length + ·)) (P ++ J).length j = kpR P.length f J.length j := fun j => by
    unfold gcR kpR
    by_cases h : j < P.length
    · rw [m1 j h, if_pos h]
    · have e : j = P.length + (j - P.length) := by omega
      rw [if_neg h]
      have m2' := m2 (j - P.length)
      rw [← e] at m2'
      rw [m2']
      cases q : f[j - P.length]? with
      | none => simp
      | some n => rfl
  have er' : gcR (List.range P.length ++ f.map (P.length + ·)) (P ++ J).length = kpR P.length f J.length := funext er
  refine Wk.gc (List.range P.length ++ f.map (P.length + ·)) ?_ (by simp [hl]) (fun j h => m1 j h) (fun j n e => ?_) (by rw [er']; exact hs)
  · rw [List.nodup_append]
    refine ⟨List.nodup_range, ?_, fun a ha b hb => ?_⟩
    · rw [List.Nodup, List.pairwise_map]
      exact nd.imp fun h z => h (by omega)
    · obtain ⟨x, _, rfl⟩ := List.mem_map.mp hb
      have := List.mem_range.mp ha
      omega
  · rw [er']
    by_cases h : j < P.length
    · rw [m1 j h] at e
      cases e
      refine ⟨by rw [List.length_append]; omega, P[j], ?_, ?_⟩
      · rw [List.getElem?_append_left h, List.getElem?_eq_getElem h]
      · rw [List.getElem?_append_left h, List.getElem?_eq_getElem h, renO_id (k := P.length) (fun j h => kpR_lt h) P[j] (belLo_get hP (List.getElem?_eq_getElem h))]
    · have e0 : j = P.length + (j - P.length) := by omega
      rw [e0, m2] at e
      cases q : f[j - P.length]? with
      | none => rw [q] at e; cases e
      | some n' =>
        rw [q] at e
        have e' : P.length + n' = n := Option.some.inj e
        subst e'
        obtain ⟨o, e1, e2⟩ := at_ _ _ q
        refine ⟨?_, o, ?_, ?_⟩
        · have := (List.getElem?_eq_some_iff.mp e2).1
          rw [List.length_append]; omega
        · rw [List.getElem?_append_right (by omega)]; exact e1
        · rw [List.getElem?_append_right (by omega), show P.length + n' - P.length = n' by omega]; exact e2
end GL
namespace GL
open PySem PySem.Spec L2
def gRepLO : G2 := fun a b L R => onO (plOf L a) fun xs => onI b fun k => (-(2 ^ 63) ≤ k ∧ k < 2 ^ 63 ∧ xs.length * k.toNat ≤ sizeLine) ∧ R (.own L.length) (L ++ [.lst (List.replicate k.toNat xs).flatten])
theorem rep_atl {K : PySem.W.Frag} {W : Wd} {as : List A} {vs : List V} (h : AtL K W as vs) : ∀ k : Nat, AtL K W (List.replicate k as).flatten (List.replicate k vs).flatten
  | 0 => .nil
  | k + 1 => by
    rw [List.replicate_succ, List.flatten_cons, List.replicate_succ, List.flatten_cons]
    exact h.append (rep_atl h k)
theorem o_repLO {X : Cx} : OpG X (binaryOp .Mult) gRepLO := opr_imp op_rep fun x y H Q h => by
    obtain ⟨W, a, b, R, e, ok, a1, a2, h, fin⟩ := h
    obtain ⟨xs, ex, h1⟩ := onO_el h
    obtain ⟨k, ek, hz, h2⟩ := onI_el h1
    subst e ek
    obtain ⟨p, us, rfl, hp, hl⟩ := pl_at a1 ok ex
    exact ⟨p, k, us, rfl, a2.int, hp, hz.1, hz.2.1, by rw [← hl.length]; exact hz.2.2, fun l hl' => fin _ (W.new l (.lst _) (.lst _)) _ h2 (Wd.new_grow ok hl' _ _) (Wd.new_ok ok hl' ⟨_, rfl, rep_atl hl _⟩) (Wd.new_own _ _)⟩
theorem pget0 {P r : Lo} {x : AO} : (P ++ x :: r)[P.length]? = some x := by rw [List.getElem?_append_right (Nat.le_refl _), Nat.sub_self]; rfl
theorem pget1 {P r : Lo} {x y : AO} : (P ++ x :: y :: r)[P.length + 1]? = some y := by rw [List.getElem?_append_right (by omega), show P.length + 1 - P.length = 1 by omega]; rfl
theorem pget2 {P r : Lo} {x y z : AO} : (P ++ x :: y :: z :: r)[P.length + 2]? = some z := by rw [List.getElem?_append_right (by omega), show P.length + 2 - P.length = 2 by omega]; rfl
theorem pget3 {P r : Lo} {x y z u : AO} : (P ++ x :: y :: z :: u :: r)[P.length + 3]? = some u := by rw [List.getElem?_append_right (by omega), show P.length + 3 - P.length = 3 by omega]; rfl
theorem pset0 {P r : Lo} {x x' : AO} : (P ++ x :: r).set P.length x' = P ++ x' :: r := by rw [List.set_append_right _ _ (Nat.le_refl _), Nat.sub_self]; rfl
theorem pset1 {P r : Lo} {x y y' : AO} : (P ++ x :: y :: r).set (P.length + 1) y' = P ++ x :: y' :: r := by rw [List.set_append_right _ _ (by omega), show P.length + 1 - P.length = 1 by omega]; rfl
theorem pset2 {P r : Lo} {x y z z' : AO} : (P ++ x :: y :: z :: r).set (P.length + 2) z' = P ++ x :: y :: z' :: r := by rw [List.set_append_right _ _ (by omega), show P.length + 2 - P.length = 2 by omega]; rfl
theorem pset3 {P r : Lo} {x y z u u' : AO} : (P ++ x :: y :: z :: u :: r).set (P.length + 3) u' = P ++ x :: y :: z :: u' :: r := by rw [List.set_append_right _ _ (by omega), show P.length + 3 - P.length = 3 by omega]; rfl
theorem papp {P r s : Lo} : (P ++ r) ++ s = P ++ (r ++ s) := List.append_assoc ..
end GL

namespace GM
open GL
/-! ### the rows: mathematics -/
def rowsR : List Int → List (List Int)
  | [] => [[]]
  | k :: ks => (rgI k.toNat).flatMap fun x => (rowsR ks).map (x :: ·)
def rowsS (rs : List (List Int)) (k : Int) : List (List Int) := rs.flatMap fun r => (rgI k.toNat).map fun x => r ++ [x]
def prod (ks : List Int) : Int := ks.foldr (· * ·) 1
theorem foldl_rowsS : ∀ (ks : List Int) (rs : List (List Int)), ks.foldl rowsS rs = rs.flatMap fun r => (rowsR ks).map (r ++ ·)
  | [], rs => by
    show rs = rs.flatMap fun r => [r ++ []]
    induction rs with
    | nil => rfl
    | cons r rs ih => rw [List.flatMap_cons, ← ih]; simp
  | k :: ks, rs => by
    show ks.foldl rowsS (rowsS rs k) = _
    rw [foldl_rowsS ks]
    unfold rowsS
    rw [List.flatMap_assoc]
    congr 1
    funext r
    show _ = ((rgI k.toNat).flatMap fun x => (rowsR ks).map (x :: ·)).map (r ++ ·)
    rw [List.flatMap_map, List.map_flatMap]
    congr 1
    funext x
    rw [List.map_map]
    congr 1
    funext t
    simp
theorem rowsR_fold (ks : List Int) : ks.foldl rowsS [[]] = rowsR ks := by
  rw [foldl_rowsS]
  show ([[]] : List (List Int)).flatMap _ = _
  simp
theorem rgI_len (n : Nat) : (rgI n).length = n := by simp [rgI]
theorem rowsS_len (rs : List (List Int)) (k : Int) : (rowsS rs k).length = rs.length * k.toNat := by
  unfold rowsS
  induction rs with
  | nil => simp
  | cons r rs ih => rw [List.flatMap_cons, List.length_append, ih, List.length_map, rgI_len, List.length_cons, Nat.succ_mul]; omega
theorem rowsF_le : ∀ (ks : List Int) (rs : List (List Int)), (∀ k ∈ ks, k ≤ 3) → (ks.foldl rowsS rs).length ≤ rs.length * 3 ^ ks.length
  | [], rs, _ => by simp
  | k :: ks, rs, h => by
    have h1 := rowsF_le ks (rowsS rs k) fun x hx => h x (List.mem_cons_of_mem _ hx)
    have h2 := h k List.mem_cons_self
    have h3 : k.toNat ≤ 3 := by omega
    show (ks.foldl rowsS (rowsS rs k)).length ≤ _
    rw [rowsS_len] at h1
    refine Nat.le_trans h1 ?_
    rw [List.length_cons, Nat.pow_succ, Nat.mul_comm (3 ^ ks.length) 3, ← Nat.mul_assoc]
    exact Nat.mul_le_mul_right _ (Nat.mul_le_mul_left _ h3)
theorem rowsR_len : ∀ ks : List Int, (∀ k ∈ ks, 0 ≤ k) → ((rowsR ks).length : Int) = prod ks
  | [], _ => rfl
  | k :: ks, h => by
    have ih := rowsR_len ks fun x hx => h x (List.mem_cons_of_mem _ hx)
    have hk := h k List.mem_cons_self
    have e : (rowsR (k :: ks)).length = k.toNat * (rowsR ks).length := by
      show ((rgI k.toNat).flatMap fun x => (rowsR ks).map (x :: ·)).length = _
      rw [List.length_flatMap]
      have : (rgI k.toNat).map (fun x => ((rowsR ks).map (x :: ·)).length) = (rgI k.toNat).map fun _ => (rowsR ks).length := by
        congr 1; funext x; simp
      rw [this, List.map_const', List.sum_replicate_nat, rgI_len]
    rw [e]
    show _ = k * prod ks
    rw [← ih]
    have : ((k.toNat : Nat) : Int) = k := Int.toNat_of_nonneg hk
    rw [Int.natCast_mul, this]
theorem foldl_prod : ∀ (ks : List Int) (a : Int), ks.foldl (· * ·) a = a * prod ks
  | [], a => by simp [prod]
  | k :: ks, a => by
    show ks.foldl (· * ·) (a * k) = a * (k * prod ks)
    rw [foldl_prod ks, Int.mul_assoc]
/-- a row with a kind at each place -/
def rowOk : List Int → List Int → Prop
  | [], [] => True
  | x :: r, k :: ks => (0 ≤ x ∧ x < k) ∧ rowOk r ks
  | _, _ => False
theorem rowsR_mem : ∀ {ks r : List Int}, r ∈ rowsR ks ↔ rowOk r ks
  | [], r => by
    show r ∈ [[]] ↔ _
    cases r with
    | nil => simp [rowOk]
    | cons x r => simp [rowOk]
  | k :: ks, r => by
    show r ∈ (rgI k.toNat).flatMap (fun x => (rowsR ks).map (x :: ·)) ↔ _
    rw [List.mem_flatMap]
    constructor
    · rintro ⟨x, hx, hr⟩
      obtain ⟨t, ht, rfl⟩ := List.mem_map.mp hr
      have := rgI_mem.mp hx
      exact ⟨⟨this.1, by omega⟩, rowsR_mem.mp ht⟩
    · intro h
      cases r with
      | nil => exact h.elim
      | cons x r =>
        obtain ⟨⟨h1, h2⟩, h3⟩ := h
        exact ⟨x, rgI_mem.mpr ⟨h1, by omega⟩, List.mem_map.mpr ⟨r, rowsR_mem.mpr h3, rfl⟩⟩
theorem rowOk.len : ∀ {r ks : List Int}, rowOk r ks → r.length = ks.length
  | [], [], _ => rfl
  | x :: r, k :: ks, h => by rw [List.length_cons, List.length_cons, h.2.len]
  | [], _ :: _, h => h.elim
  | _ :: _, [], h => h.elim
theorem rowOk.at_ : ∀ {r ks : List Int} {i : Nat} {x k : Int}, rowOk r ks → r[i]? = some x → ks[i]? = some k → 0 ≤ x ∧ x < k
  | [], [], i, x, k, _, h, _ => by simp at h
  | y :: r, l :: ks, 0, x, k, h, h1, h2 => by
    simp at h1 h2
    subst h1 h2
    exact h.1
  | y :: r, l :: ks, i + 1, x, k, h, h1, h2 => h.2.at_ (i := i) (by simpa using h1) (by simpa using h2)
  | [], _ :: _, _, _, _, h, _, _ => h.elim
  | _ :: _, [], _, _, _, h, _, _ => h.elim
theorem lex_head {x y : Int} (h : x < y) (r t : List Int) : HT.lexLt (x :: r) (y :: t) = true := by
  rw [HT.lexLt_cons, if_neg (by omega), decide_eq_true h]
theorem rgI_sorted (n : Nat) : (rgI n).Pairwise (· < ·) := by
  unfold rgI
  refine List.Pairwise.map _ (fun a b h => ?_) List.pairwise_lt_range
  omega
theorem rowsR_sorted : ∀ ks : List Int, (rowsR ks).Pairwise fun a b => HT.lexLt a b = true
  | [] => by simp [rowsR]
  | k :: ks => by
    show ((rgI k.toNat).flatMap fun x => (rowsR ks).map (x :: ·)).Pairwise _
    rw [List.pairwise_flatMap]
    refine ⟨fun x _ => ?_, (rgI_sorted _).imp fun {x y} h a ha b hb => ?_⟩
    · rw [List.pairwise_map]
      exact (rowsR_sorted ks).imp fun {a b} h => by rw [HT.lexLt_cons, if_pos rfl]; exact h
    · obtain ⟨a, _, rfl⟩ := List.mem_map.mp ha
      obtain ⟨b, _, rfl⟩ := List.mem_map.mp hb
      exact lex_head h a b
theorem lex_irr : ∀ a : List Int, HT.lexLt a a = false
  | [] => rfl
  | x :: a => by rw [HT.lexLt_cons, if_pos rfl]; exact lex_irr a
theorem rowsR_nodup (ks : List Int) : (rowsR ks).Nodup := (rowsR_sorted ks).imp fun {a b} h z => by
  subst z
  rw [lex_irr] at h; cases h
theorem rowsR_next {ks : List Int} {i : Nat} {a b : List Int} (h1 : (rowsR ks)[i]? = some a) (h2 : (rowsR ks)[i + 1]? = some b) : HT.lexLt a b = true := by
  obtain ⟨l1, e1⟩ := List.getElem?_eq_some_iff.mp h1
  obtain ⟨l2, e2⟩ := List.getElem?_eq_some_iff.mp h2
  have := List.pairwise_iff_getElem.mp (rowsR_sorted ks) i (i + 1) l1 l2 (by omega)
  rw [e1, e2] at this
  exact this
theorem prod_snoc (k : Int) : ∀ l : List Int, prod (l ++ [k]) = prod l * k
  | [] => by simp [prod]
  | x :: l => by
    show x * prod (l ++ [k]) = x * prod l * k
    rw [prod_snoc k l, Int.mul_assoc]
theorem prod_take {ks : List Int} {i : Nat} {k : Int} (h : ks[i]? = some k) : prod (ks.take (i + 1)) = prod (ks.take i) * k := by
  have e : ks.take (i + 1) = ks.take i ++ [k] := by rw [List.take_add_one, h]; rfl
  rw [e]
  exact prod_snoc k _
theorem prod_bd : ∀ {ks : List Int}, (∀ k ∈ ks, 1 ≤ k ∧ k ≤ 3) → 1 ≤ prod ks ∧ prod ks ≤ 3 ^ ks.length
  | [], _ => by simp [prod]
  | k :: ks, h => by
    have ⟨h1, h2⟩ := prod_bd fun x hx => h x (List.mem_cons_of_mem k hx)
    obtain ⟨h3, h4⟩ := h k List.mem_cons_self
    refine ⟨?_, ?_⟩
    · show 1 ≤ k * prod ks
      have := Int.mul_le_mul h3 h1 (by omega) (by omega)
      omega
    · show k * prod ks ≤ _
      rw [List.length_cons, Int.pow_succ]
      calc k * prod ks ≤ 3 * 3 ^ ks.length := Int.mul_le_mul h4 h2 (by omega) (by omega)
        _ = 3 ^ ks.length * 3 := Int.mul_comm _ _
end GM

namespace GM
open GL PySem L2
/-! ### families: mathematics -/
abbrev Tab := List Int × List Int
def tbl (t : Tab) : D := .tuple [.grp (nts t.1), .grp (nts t.2)]
def kindsR (fr g : List Int) : List Int := g.map fun m => fr.getD m.toNat 0
def famD (fr : List Int) (ts : List Tab) : D := .tuple [.grp (nts fr), .tuple (ts.map tbl)]
structure FrOk (fr : List Int) : Prop where
  pos : 0 < fr.length
  six : fr.length ≤ 6
  kinds : ∀ k ∈ fr, 2 ≤ k ∧ k ≤ 3
  room : prod fr ≤ 64
structure GrOk (n : Nat) (g : List Int) : Prop where
  ne : g ≠ []
  rise : g.Pairwise (· < ·)
  mem : ∀ m ∈ g, 0 ≤ m ∧ m < n
def volR (fr g : List Int) : Nat := (rowsR (kindsR fr g)).length
structure TabOk (fr : List Int) (w : Int) (t : Tab) : Prop where
  gr : GrOk fr.length t.1
  len : t.2.length = volR fr t.1
  nn : ∀ c ∈ t.2, 0 ≤ c
  sum : t.2.sum = w
structure FamOk (fr : List Int) (w : Int) (ts : List Tab) : Prop where
  frame : FrOk fr
  w1 : 1 ≤ w
  w9 : w ≤ 1000000000
  tabs : ∀ t ∈ ts, TabOk fr w t
  ne : 0 < ts.length
  eight : ts.length ≤ 8
  room : (ts.map fun t => volR fr t.1).sum ≤ 60
  all : ∀ m : Int, 0 ≤ m → m < fr.length → ∃ t ∈ ts, m ∈ t.1
theorem rise_len : ∀ (g : List Int) (a b : Int), g.Pairwise (· < ·) → (∀ m ∈ g, a ≤ m ∧ m < b) → a ≤ b → (g.length : Int) ≤ b - a
  | [], a, b, _, _, h => by simp; omega
  | x :: g, a, b, hp, hm, h => by
    obtain ⟨h1, h2⟩ := List.pairwise_cons.mp hp
    have hx := hm x List.mem_cons_self
    have := rise_len g (x + 1) b h2 (fun m hm' => ⟨by have := h1 m hm'; omega, (hm m (List.mem_cons_of_mem _ hm')).2⟩) (by omega)
    rw [List.length_cons]
    omega
theorem GrOk.len {n : Nat} {g : List Int} (h : GrOk n g) : g.length ≤ n := by
  have := rise_len g 0 n h.rise h.mem (by omega)
  omega
theorem GrOk.nd {n : Nat} {g : List Int} (h : GrOk n g) : g.Nodup := h.rise.imp fun h => by omega
theorem kindsR_len (fr g : List Int) : (kindsR fr g).length = g.length := by simp [kindsR]
theorem kindsR_bd {fr g : List Int} (h : ∀ k ∈ fr, 2 ≤ k ∧ k ≤ 3) (hm : ∀ m ∈ g, 0 ≤ m ∧ m < (fr.length : Int)) : ∀ k ∈ kindsR fr g, 2 ≤ k ∧ k ≤ 3 := fun k hk => by
  obtain ⟨m, hm', rfl⟩ := List.mem_map.mp hk
  have := hm m hm'
  refine h _ ?_
  rw [List.getD_eq_getElem?_getD, List.getElem?_eq_getElem (show m.toNat < fr.length by omega)]
  exact List.getElem_mem _
def isInt : D → Bool
  | .int _ => true
  | _ => false
def upto (n : Int) : Int → List D → Bool
  | _, [] => true
  | a, .int m :: ds => decide (a < m) && (decide (m < n) && upto n m ds)
  | _, _ :: _ => false
def grB (n : Int) : D → Bool
  | .tuple ds => !ds.isEmpty && upto n (-1) ds
  | .grp ds => !ds.isEmpty && upto n (-1) ds
  | _ => false
theorem upto_nts (n : Int) : ∀ (g : List Int) (a : Int), g.Pairwise (· < ·) → (∀ m ∈ g, a < m ∧ m < n) → upto n a (nts g) = true
  | [], _, _, _ => rfl
  | x :: g, a, hp, hm => by
    obtain ⟨h1, h2⟩ := List.pairwise_cons.mp hp
    have hx := hm x List.mem_cons_self
    show (decide (a < x) && (decide (x < n) && upto n x (nts g))) = true
    rw [decide_eq_true hx.1, decide_eq_true hx.2, upto_nts n g x h2 fun m hm' => ⟨h1 m hm', (hm m (List.mem_cons_of_mem _ hm')).2⟩]
    rfl
theorem grB_ok {n : Nat} {g : List Int} (h : GrOk n g) : grB n (.grp (nts g)) = true := by
  show (!(nts g).isEmpty && upto n (-1) (nts g)) = true
  rw [upto_nts n g (-1) h.rise fun m hm => ⟨by have := h.mem m hm; omega, (h.mem m hm).2⟩]
  have := h.ne
  cases g with
  | nil => exact (this rfl).elim
  | cons x g => rfl
/-- what is seen of a row -/
def seenF (g r p : List Int) : List Int := p.map fun m => r.getD (g.idxOf m) 0
theorem seenF_len (g r p : List Int) : (seenF g r p).length = p.length := by simp [seenF]
theorem td_d {a : GL.A} {ds : List D} (h : tdOf a = some ds) : ∃ x : D, a = .d x ∧ sdOf a = some ds := by
  rcases td_cases h with rfl | rfl <;> exact ⟨_, rfl, rfl⟩
theorem tbl_get {ts : List Tab} {i : Nat} {a : GL.A} (h : ((ts.map tbl).map GL.A.d)[i]? = some a) : ∃ t, ts[i]? = some t ∧ a = .d (tbl t) := by
  obtain ⟨d, h1, rfl⟩ := mapd_get h
  rw [List.getElem?_map] at h1
  cases q : ts[i]? with
  | none => rw [q] at h1; cases h1
  | some t => rw [q] at h1; cases h1; exact ⟨t, rfl, rfl⟩
theorem tbl_it (ts : List Tab) : (ts.map tbl).map GL.A.d = ts.map fun t => .d (tbl t) := by simp [List.map_map, Function.comp_def]
theorem nts_take (l : List Int) (n : Nat) : (nts l).take n = nts (l.take n) := by simp [nts, List.map_take]
end GM

namespace GM
open GL PySem L2
/-! ### drawn groups: mathematics -/
def bitG (n : Nat) (b : Int) : List Int := (rgI n).filter fun x => decide (Builtin.bitAnd (b / 2 ^ x.toNat) 1 = 1)
theorem bitG_sub (n : Nat) (b : Int) : (bitG n b).Sublist (rgI n) := List.filter_sublist
theorem bitG_ok {n : Nat} {b : Int} (h : bitG n b ≠ []) : GrOk n (bitG n b) :=
  ⟨h, (rgI_sorted n).sublist (bitG_sub n b), fun m hm => rgI_mem.mp ((bitG_sub n b).subset hm)⟩
theorem bit_one : ∀ n : Fin 7, ∀ b : Fin 64, 0 < b.val → b.val < 2 ^ n.val → (bitG n.val (b.val : Int)).isEmpty = false := by decide +kernel
theorem bit_two : ∀ n : Fin 7, ∀ i j : Fin 6, i.val < n.val → j.val < n.val → (bitG n.val (Builtin.bitOr (1 * 2 ^ i.val) (1 * 2 ^ j.val))).isEmpty = false := by decide +kernel
theorem isE {α : Type} {l : List α} (h : l.isEmpty = false) : l ≠ [] := fun z => by subst z; cases h
theorem bit1 {n : Nat} {b : Int} (h6 : n ≤ 6) (h0 : 0 < b) (h1 : b < 2 ^ n) : GrOk n (bitG n b) := by
  have h64 : (2 : Int) ^ n ≤ 64 := by
    have := Nat.pow_le_pow_right (show 0 < 2 by decide) h6
    have h2 : ((2 ^ n : Nat) : Int) ≤ ((2 ^ 6 : Nat) : Int) := Int.ofNat_le.mpr this
    simpa using h2
  have e : ((b.toNat : Nat) : Int) = b := Int.toNat_of_nonneg (by omega)
  have hlt : b.toNat < 2 ^ n := by
    have h2 : ((2 ^ n : Nat) : Int) = 2 ^ n := by simp
    omega
  have := bit_one ⟨n, by omega⟩ ⟨b.toNat, by omega⟩ (by show 0 < b.toNat; omega) hlt
  refine bitG_ok (isE ?_)
  simp only [e] at this
  exact this
theorem bit2 {n : Nat} {i j : Int} (h6 : n ≤ 6) (hi : 0 ≤ i ∧ i < n) (hj : 0 ≤ j ∧ j < n) : GrOk n (bitG n (Builtin.bitOr (1 * 2 ^ i.toNat) (1 * 2 ^ j.toNat))) :=
  bitG_ok (isE (bit_two ⟨n, by omega⟩ ⟨i.toNat, by omega⟩ ⟨j.toNat, by omega⟩ (by show i.toNat < n; omega) (by show j.toNat < n; omega)))
/-- the groups drawn: each one is one, each mark is in some -/
structure GrsOk (fr : List Int) (gs : List (List Int)) : Prop where
  gr : ∀ g ∈ gs, GrOk fr.length g
  ne : 0 < gs.length
  eight : gs.length ≤ 8
  room : (gs.map fun g => volR fr g).sum ≤ 60
  all : ∀ m : Int, 0 ≤ m → m < fr.length → ∃ g ∈ gs, m ∈ g
theorem kindsR_app (fr a b : List Int) : kindsR fr (a ++ b) = kindsR fr a ++ kindsR fr b := by simp [kindsR]
theorem prod_app : ∀ a b : List Int, prod (a ++ b) = prod a * prod b
  | [], b => by simp [prod]
  | x :: a, b => by
    show x * prod (a ++ b) = x * prod a * prod b
    rw [prod_app a b, Int.mul_assoc]
theorem volR_prod {fr g : List Int} (h : ∀ k ∈ fr, 2 ≤ k ∧ k ≤ 3) (hm : ∀ m ∈ g, 0 ≤ m ∧ m < (fr.length : Int)) : (volR fr g : Int) = prod (kindsR fr g) :=
  rowsR_len _ fun k hk => by have := kindsR_bd h hm k hk; omega
theorem prod_lo : ∀ {ks : List Int}, (∀ k ∈ ks, 2 ≤ k ∧ k ≤ 3) → 2 ^ ks.length ≤ prod ks
  | [], _ => by simp [prod]
  | k :: ks, h => by
    have h2 := prod_lo fun x hx => h x (List.mem_cons_of_mem k hx)
    obtain ⟨h3, h4⟩ := h k List.mem_cons_self
    show _ ≤ k * prod ks
    rw [List.length_cons, Int.pow_succ]
    have hp : (0 : Int) ≤ 2 ^ ks.length := Int.pow_nonneg (by decide)
    calc (2 : Int) ^ ks.length * 2 = 2 * 2 ^ ks.length := Int.mul_comm _ _
      _ ≤ k * prod ks := Int.mul_le_mul h3 h2 hp (by omega)
theorem prod_sub : ∀ {a b : List Int}, a.Sublist b → (∀ k ∈ b, 1 ≤ k) → 1 ≤ prod a ∧ prod a ≤ prod b
  | _, _, .slnil, _ => by simp [prod]
  | _, _, .cons (l₁ := a) (l₂ := b) x s, h => by
    have ⟨h1, h2⟩ := prod_sub s fun k hk => h k (List.mem_cons_of_mem _ hk)
    have hx := h x List.mem_cons_self
    refine ⟨h1, ?_⟩
    show prod a ≤ x * prod b
    calc prod a ≤ prod b := h2
      _ = 1 * prod b := (Int.one_mul _).symm
      _ ≤ x * prod b := Int.mul_le_mul_of_nonneg_right hx (by omega)
  | _, _, .cons₂ (l₁ := a) (l₂ := b) x s, h => by
    have ⟨h1, h2⟩ := prod_sub s fun k hk => h k (List.mem_cons_of_mem _ hk)
    have hx := h x List.mem_cons_self
    refine ⟨?_, Int.mul_le_mul_of_nonneg_left h2 (by omega)⟩
    show 1 ≤ x * prod a
    have := Int.mul_le_mul hx h1 (by omega) (by omega)
    omega
/-- the marks of a frame that are left, cut in two -/
theorem halves {fr l : List Int} (ok : FrOk fr) (hs : l.Sublist (rgI fr.length)) : volR fr (l.take (l.length / 2)) + volR fr (l.drop (l.length / 2)) ≤ 20 := by
  have hm : ∀ m ∈ l, 0 ≤ m ∧ m < (fr.length : Int) := fun m h => rgI_mem.mp (hs.subset h)
  have hma : ∀ m ∈ l.take (l.length / 2), 0 ≤ m ∧ m < (fr.length : Int) := fun m h => hm m (List.mem_of_mem_take h)
  have hmb : ∀ m ∈ l.drop (l.length / 2), 0 ≤ m ∧ m < (fr.length : Int) := fun m h => hm m (List.mem_of_mem_drop h)
  have e1 := volR_prod ok.kinds hma
  have e2 := volR_prod ok.kinds hmb
  have ka := kindsR_bd ok.kinds hma
  have kb := kindsR_bd ok.kinds hmb
  have a1 := prod_lo ka
  have a2 := (prod_bd fun k hk => ⟨by have := ka k hk; omega, (ka k hk).2⟩).2
  have b1 := prod_lo kb
  have b2 := (prod_bd fun k hk => ⟨by have := kb k hk; omega, (kb k hk).2⟩).2
  have sub : (kindsR fr l).Sublist fr := by
    have h1 : (kindsR fr l).Sublist (kindsR fr (rgI fr.length)) := hs.map _
    have h2 : kindsR fr (rgI fr.length) = fr := by
      apply List.ext_getElem?
      intro i
      unfold kindsR rgI
      rw [List.map_map, List.getElem?_map]
      by_cases hi : i < fr.length
      · rw [List.getElem?_range hi, List.getElem?_eq_getElem hi]
        simp [hi]
      · rw [List.getElem?_eq_none (by simpa using hi), List.getElem?_eq_none (by omega)]
        rfl
    rw [h2] at h1; exact h1
  have hp := (prod_sub sub fun k hk => by have := ok.kinds k hk; omega).2
  have hab : prod (kindsR fr (l.take (l.length / 2))) * prod (kindsR fr (l.drop (l.length / 2))) ≤ 64 := by
    rw [← prod_app, ← kindsR_app, List.take_append_drop]
    exact Int.le_trans hp ok.room
  have hl : l.length ≤ 6 := by
    have := hs.length_le
    rw [rgI_len] at this
    exact Nat.le_trans this ok.six
  rw [kindsR_len] at a1 a2 b1 b2
  rw [List.length_take] at a1 a2
  rw [List.length_drop] at b1 b2
  generalize prod (kindsR fr (l.take (l.length / 2))) = a at *
  generalize prod (kindsR fr (l.drop (l.length / 2))) = b at *
  generalize volR fr (l.take (l.length / 2)) = x at *
  generalize volR fr (l.drop (l.length / 2)) = y at *
  generalize l.length = n at *
  have key : a + b ≤ 20 := by
    have : n = 0 ∨ n = 1 ∨ n = 2 ∨ n = 3 ∨ n = 4 ∨ n = 5 ∨ n = 6 := by omega
    rcases this with rfl | rfl | rfl | rfl | rfl | rfl | rfl
    · simp at a1 a2 b1 b2; omega
    · simp at a1 a2 b1 b2; omega
    · simp at a1 a2 b1 b2; omega
    · simp at a1 a2 b1 b2; omega
    · simp at a1 a2 b1 b2; omega
    · simp at a1 a2 b1 b2
      have : a = 4 ∨ a = 5 ∨ a = 6 ∨ a = 7 ∨ a = 8 ∨ a = 9 := by omega
      rcases this with rfl | rfl | rfl | rfl | rfl | rfl <;> omega
    · simp at a1 a2 b1 b2
      have hb : 8 * b ≤ 64 := Int.le_trans (Int.mul_le_mul_of_nonneg_right a1 (by omega)) hab
      have ha : a * 8 ≤ 64 := Int.le_trans (Int.mul_le_mul_of_nonneg_left b1 (by omega)) hab
      omega
  omega
/-! ### the tables drawn -/
def cntO (cs : List Int) : AO := .lst ((nts cs).map .d)
def prA (b : Nat) (g : List Int) (i : Nat) : GL.A := .tup [.d (.grp (nts g)), .own (b + 1 + i)]
def prsA (b : Nat) (gs : List (List Int)) : List GL.A := gs.zipIdx.map fun p => prA b p.1 p.2
theorem prsA_len (b : Nat) (gs : List (List Int)) : (prsA b gs).length = gs.length := by simp [prsA]
theorem prsA_get {b : Nat} {gs : List (List Int)} {i : Nat} {g : List Int} (h : gs[i]? = some g) : (prsA b gs)[i]? = some (prA b g i) := by
  unfold prsA
  rw [List.getElem?_map, List.getElem?_zipIdx, h]
  simp
theorem prsA_el {b : Nat} {gs : List (List Int)} {i : Nat} {a : GL.A} (h : (prsA b gs)[i]? = some a) : ∃ g, gs[i]? = some g ∧ a = prA b g i := by
  have hi : i < gs.length := by rw [← prsA_len b gs]; exact (List.getElem?_eq_some_iff.mp h).1
  have e := List.getElem?_eq_getElem hi
  rw [prsA_get e] at h
  exact ⟨_, e, (Option.some.inj h).symm⟩
theorem prsA_snoc (b : Nat) (gs : List (List Int)) (g : List Int) : prsA b (gs ++ [g]) = prsA b gs ++ [prA b g gs.length] := by
  unfold prsA
  rw [List.zipIdx_append, List.map_append]
  simp
/-- the cells: the list of tables, then each one's counts -/
def tabS (b : Nat) (gs css : List (List Int)) : Lo := .lst (prsA b gs) :: css.map cntO
/-- sums of counts, by the rows of some marks -/
def sumAt (g p : List Int) (rs : List (List Int)) (cs : List Int) (r : List Int) : Int := (((rs.zip cs).filter fun x => decide (seenF g x.1 p = r)).map (·.2)).sum
def sumsF (g p : List Int) (rs : List (List Int)) (cs : List Int) (ds : List (List Int)) : List Int := ds.map fun r => sumAt g p rs cs r
theorem sumAt_take {g p : List Int} {rs : List (List Int)} {cs : List Int} {i : Nat} {x : List Int} {c : Int} (h1 : rs[i]? = some x) (h2 : cs[i]? = some c) (r : List Int) :
    sumAt g p (rs.take (i + 1)) (cs.take (i + 1)) r = sumAt g p (rs.take i) (cs.take i) r + (if seenF g x p = r then c else 0) := by
  unfold sumAt
  have e : (rs.take (i + 1)).zip (cs.take (i + 1)) = (rs.take i).zip (cs.take i) ++ [(x, c)] := by
    have tz : ∀ n, (rs.take n).zip (cs.take n) = (rs.zip cs).take n := fun n => by simp [List.zip_eq_zipWith, List.take_zipWith]
    rw [tz, tz, List.take_add_one]
    congr 1
    have : (rs.zip cs)[i]? = some (x, c) := by rw [List.getElem?_zip_eq_some]; exact ⟨h1, h2⟩
    rw [this]; rfl
  rw [e, List.filter_append, List.map_append, List.sum_append]
  congr 1
  by_cases h : seenF g x p = r
  · simp [h]
  · simp [h]
theorem kindsR_all (fr : List Int) : kindsR fr (rgI fr.length) = fr := by
  apply List.ext_getElem?
  intro i
  unfold kindsR rgI
  rw [List.map_map, List.getElem?_map]
  by_cases hi : i < fr.length
  · rw [List.getElem?_range hi, List.getElem?_eq_getElem hi]
    simp [hi]
  · rw [List.getElem?_eq_none (by simpa using hi), List.getElem?_eq_none (by omega)]
    rfl
theorem seen_ok {fr g r : List Int} (hr : rowOk r (kindsR fr g)) : ∀ {p : List Int}, (∀ m ∈ p, m ∈ g) → rowOk (seenF g r p) (kindsR fr p)
  | [], _ => trivial
  | m :: p, h => by
    refine ⟨?_, seen_ok hr fun x hx => h x (List.mem_cons_of_mem _ hx)⟩
    obtain ⟨h1, _⟩ := idx_at (h m List.mem_cons_self)
    have hi := (List.getElem?_eq_some_iff.mp h1).1
    have hl : r.length = g.length := by rw [hr.len, kindsR_len]
    have e1 : r[g.idxOf m]? = some (r.getD (g.idxOf m) 0) := by
      rw [List.getD_eq_getElem?_getD, List.getElem?_eq_getElem (by omega)]; rfl
    exact hr.at_ e1 (by unfold kindsR; rw [List.getElem?_map, h1]; rfl)
theorem drop_take_perm {α : Type} (l : List α) (t : Nat) : (l.drop t ++ l.take t).Perm l := by
  have := List.perm_append_comm (l₁ := l.drop t) (l₂ := l.take t)
  rw [List.take_append_drop] at this
  exact this
theorem GrsOk.perm {fr : List Int} {gs hs : List (List Int)} (h : GrsOk fr gs) (p : hs.Perm gs) : GrsOk fr hs where
  gr := fun g hg => h.gr g (p.mem_iff.mp hg)
  ne := by rw [p.length_eq]; exact h.ne
  eight := by rw [p.length_eq]; exact h.eight
  room := by rw [(p.map fun g => volR fr g).sum_nat]; exact h.room
  all := fun m h0 h1 => let ⟨g, hg, hm⟩ := h.all m h0 h1; ⟨g, p.mem_iff.mpr hg, hm⟩
def add1 (l : List Int) : List (List Int) := if l = [] then [] else [l]
theorem sub_gr {n : Nat} {l : List Int} (h : l.Sublist (rgI n)) (hne : l ≠ []) : GrOk n l := ⟨hne, (rgI_sorted n).sublist h, fun m hm => rgI_mem.mp (h.subset hm)⟩
/-- the groups with those of the marks left -/
theorem grs_end {fr : List Int} (ok : FrOk fr) {gs : List (List Int)} {left : List Int} (hg : ∀ g ∈ gs, GrOk fr.length g) (h5 : gs.length ≤ 5) (hsum : (gs.map fun g => volR fr g).sum ≤ 40) (hl : left.Sublist (rgI fr.length)) (hin : ∀ m : Int, 0 ≤ m → m < fr.length → m ∉ left → ∃ g ∈ gs, m ∈ g) :
    GrsOk fr (gs ++ (add1 (left.take (left.length / 2)) ++ add1 (left.drop (left.length / 2)))) := by
  have ha := halves ok hl
  have mem1 : ∀ (l : List Int), l.Sublist left → ∀ g ∈ add1 l, GrOk fr.length g := fun l hs g h => by
    unfold add1 at h
    split at h
    · cases h
    · rename_i hne
      simp at h; subst h
      exact sub_gr (hs.trans hl) hne
  have len1 : ∀ l : List Int, (add1 l).length ≤ 1 := fun l => by unfold add1; split <;> simp
  have sum1 : ∀ l : List Int, ((add1 l).map fun g => volR fr g).sum ≤ volR fr l := fun l => by unfold add1; split <;> simp
  have in1 : ∀ (l : List Int) (m : Int), m ∈ l → l ∈ add1 l := fun l m h => by
    unfold add1
    rw [if_neg (fun z => by subst z; cases h)]
    simp
  have all : ∀ m : Int, 0 ≤ m → m < fr.length → ∃ g ∈ gs ++ (add1 (left.take (left.length / 2)) ++ add1 (left.drop (left.length / 2))), m ∈ g := fun m h0 h1 => by
    by_cases hm : m ∈ left
    · rw [← List.take_append_drop (left.length / 2) left] at hm
      rcases List.mem_append.mp hm with h | h
      · exact ⟨_, List.mem_append_right _ (List.mem_append_left _ (in1 _ m h)), h⟩
      · exact ⟨_, List.mem_append_right _ (List.mem_append_right _ (in1 _ m h)), h⟩
    · obtain ⟨g, hg', hm'⟩ := hin m h0 h1 hm
      exact ⟨g, List.mem_append_left _ hg', hm'⟩
  refine ⟨fun g h => ?_, ?_, ?_, ?_, all⟩
  · rcases List.mem_append.mp h with h | h
    · exact hg g h
    · rcases List.mem_append.mp h with h | h
      · exact mem1 _ (List.take_sublist _ _) g h
      · exact mem1 _ (List.drop_sublist _ _) g h
  · obtain ⟨g, hg', _⟩ := all 0 (by omega) (by have := ok.pos; omega)
    exact List.length_pos_of_mem hg'
  · have := len1 (left.take (left.length / 2))
    have := len1 (left.drop (left.length / 2))
    rw [List.length_append, List.length_append]; omega
  · have := sum1 (left.take (left.length / 2))
    have := sum1 (left.drop (left.length / 2))
    rw [List.map_append, List.map_append, List.sum_append, List.sum_append]; omega
end GM

namespace GL
open PySem PySem.Spec L2
/-! ### what a value reads as, own lists within -/
mutual
inductive Rv (L : Lo) : A → D → Prop
  | d {x : D} : Rv L (.d x) x
  | own {n : Nat} {as : List A} {ds : List D} : L[n]? = some (.lst as) → RvL L as ds → Rv L (.own n) (.list ds)
  | tup {as : List A} {ds : List D} : RvL L as ds → Rv L (.tup as) (.tuple ds)
inductive RvL (L : Lo) : List A → List D → Prop
  | nil : RvL L [] []
  | cons {a : A} {d : D} {as : List A} {ds : List D} : Rv L a d → RvL L as ds → RvL L (a :: as) (d :: ds)
end
mutual
theorem Rv.dp {K : PySem.W.Frag} {W : Wd} (ok : W.Ok K) : ∀ {a : A} {x : D} {v : V}, Rv W.L a x → At K W a v → Dp K W.H v x.py
  | _, _, _, .d, h => ((h.d_iff).mono ok.base).dp
  | _, _, _, .own e r, h => by
    obtain ⟨rfl, _⟩ := h.own_iff
    obtain ⟨u, e1, ⟨vs, rfl, q⟩, _⟩ := ok.own _ _ e (by intro z; cases z)
    exact .lst (SqL.of e1) (r.dp ok q)
  | _, _, _, .tup r, h => by
    cases h with
    | tup e q => exact .tup (SqT.of (ok.base _ _ e)) (r.dp ok q)
theorem RvL.dp {K : PySem.W.Frag} {W : Wd} (ok : W.Ok K) : ∀ {as : List A} {ds : List D} {vs : List V}, RvL W.L as ds → AtL K W as vs → DpAll K W.H vs (D.pyL ds)
  | _, _, _, .nil, h => by cases h; exact .nil
  | _, _, _, .cons r rs, h => by
    cases h with
    | cons h1 h2 => exact .cons (r.dp ok h1) (rs.dp ok h2)
end
theorem RvL.ds {L : Lo} : ∀ ds : List D, RvL L (ds.map .d) ds
  | [] => .nil
  | d :: ds => .cons .d (RvL.ds ds)
theorem Rds.rv {L : Lo} {a : A} {x : D} (h : Rds L a x) : Rv L a x := by
  cases h with
  | d => exact .d
  | own e => exact .own e (.ds _)
def gEqV : G2 := fun a b L R => ∃ x y, Rv L a x ∧ Rv L b y ∧ SeqAt.shaped x.py = true ∧ SeqAt.shaped y.py = true ∧ R (.d (.bool (PyData.eqv x.py y.py))) L
def gNeV : G2 := fun a b L R => ∃ x y, Rv L a x ∧ Rv L b y ∧ SeqAt.shaped x.py = true ∧ SeqAt.shaped y.py = true ∧ R (.d (.bool (!PyData.eqv x.py y.py))) L
section
variable {X : Cx} {a b c e o : Expr} {es : List Expr} {pos p2 : Pos} {ga gb gc go : GTE} {gs : GTA}
theorem c_eqV (hu : X.A.units + 64 < cLine) : OpG X (compareOp .Eq) gEqV := opr_imp (op_eqD hu) fun x y H Q h => by
    obtain ⟨W, a, b, R, e, ok, a1, a2, ⟨z, z', r1, r2, s1, s2, h⟩, fin⟩ := h
    subst e
    exact ⟨z.py, _, r1.dp ok a1, r2.dp ok a2, s1, s2, fin _ W _ h Grow.refl ok (.d (.bl _))⟩
theorem c_neV (hu : X.A.units + 64 < cLine) : OpG X (compareOp .NotEq) gNeV := opr_imp (op_neD hu) fun x y H Q h => by
    obtain ⟨W, a, b, R, e, ok, a1, a2, ⟨z, z', r1, r2, s1, s2, h⟩, fin⟩ := h
    subst e
    exact ⟨z.py, _, r1.dp ok a1, r2.dp ok a2, s1, s2, fin _ W _ h Grow.refl ok (.d (.bl _))⟩
/-- x[lo:hi] of a list or a tuple -/
def gSlA (ga : GTE) (gl gh : GTO) : GTE := fun s L R => ga s L fun x L1 => gl s L1 fun lo L2 => gh s L2 fun hi L3 =>
  (∃ ds : List D, plOf L3 x = some (ds.map .d) ∧ R (.d (.list (cutL ds lo hi))) L3) ∨
  ∃ ds, tdOf x = some ds ∧ (HT.sIx ds.length 0 lo = 0 ∧ HT.sIx ds.length ds.length hi = ds.length → R x L3) ∧ (¬ (HT.sIx ds.length 0 lo = 0 ∧ HT.sIx ds.length ds.length hi = ds.length) → R (.d (.tuple (cutL ds lo hi))) L3)
theorem g_slA {lo hi : Option Expr} {gl gh : GTO} (ha : GE X a ga) (hl : GO X lo gl) (hh : GO X hi gh) : GE X (.Subscript a (.Slice lo hi none p2) pos) (gSlA ga gl gh) :=
  ⟨pe_imp (pe_slice (sl_list.or sl_tupA) ha.pe hl.po hh.po) fun σ H Q h => by
    obtain ⟨W, s, R, e, ok, ats, h, fin⟩ := h
    refine ⟨W, s, _, e, ok, ats, h, fun x W1 v q g1 ok1 at1 => ⟨W1, s, _, rfl, ok1, ats.mono g1, q, fun lo W2 q2 g2 ok2 => ⟨W2, s, _, rfl, ok2, ats.mono (g1.trans g2), q2, fun hi W3 q3 g3 ok3 => ?_⟩⟩⟩
    rcases q3 with ⟨ds, ea, q4⟩ | ⟨ds, ed, q4, q5⟩
    · obtain ⟨p, us, rfl, hp, hl⟩ := pl_at (at1.mono (g2.trans g3)) ok3 ea
      refine .inl ⟨p, us, rfl, SqL.of hp, fun l hl' => ?_⟩
      have hc := cut_at hl lo hi
      rw [cut_map] at hc
      exact fin _ (W3.frz l (.lst (cutV us lo hi))) _ q4 (g1.trans (g2.trans (g3.trans (Wd.frz_grow ok3 hl' _)))) (Wd.frz_ok ok3 hl' _) (lst_at hc.ds ok3 hl')
    · have at3 := at1.mono (g2.trans g3)
      obtain ⟨p, us, rfl, hp, hl⟩ := td_at at3 ed
      have hlen := hl.length
      refine .inr ⟨p, us, rfl, sqT_mono ok3.base hp, fun hw => ?_, fun hw l hl' => ?_⟩
      · rw [hlen] at hw
        exact fin _ W3 _ (q4 hw) (g1.trans (g2.trans g3)) ok3 at3
      · rw [hlen] at hw
        have hc : DXL W3.B (cutV us lo hi) (cutL ds lo hi) := by
          unfold cutL cutV
          rw [hlen]
          exact (hl.drop _).take _
        exact fin _ (W3.frz l (.tup (cutV us lo hi))) _ (q5 hw) (g1.trans (g2.trans (g3.trans (Wd.frz_grow ok3 hl' _)))) (Wd.frz_ok ok3 hl' _) (.d (.tup upd_same (DXL.mono (Wd.frz_grow ok3 hl' _).base _ _ hc)))⟩
end
theorem mrgS {ns : List Int} {c cell c' cell' : Int} {r : Lo} : mrg [0] (stA ns c cell :: r) [stA ns c' cell'] = stA ns c' cell' :: r := by
  show (stA ns c' cell' :: r) ++ [] = _
  rw [List.append_nil]
end GL

namespace GL
open PySem PySem.Spec L2

section
variable {X : Cx} {elts : List Expr} {kk : Nat} {tpos p pos : Pos} {e1 e2 e3 : Expr} {ta : TA}
theorem pi_z2A (hg : Gl X "zip") (hm : X.mg "zip" = none) (ha : PA X [e1, e2] ta)
    (hs : starEach [e1, e2] X.env = (false, eval e1 X.env) :: starEach [e2] X.env := by rfl) (hpl : (backTo pos (starEach [e2] X.env)).any (·.1) = false := by rfl) :
    PI X (.Tuple elts kk tpos) (.Call (.Name "zip" p) [e1, e2] [] pos) (fun σ H R => ta σ H fun vs H1 => ∃ k1 k2 a b xs ys, vs = [.ref a, .ref b] ∧ SqB X.K H1 a xs k1 ∧ SqB X.K H1 b ys k2 ∧ R (Iz2 X.K a b k1 k2) H1) := by
  refine ⟨fun pins s σ H R I h => ?_⟩
  refine PyProof.Rows.Call_ (ld_blt I hg hm PyProof.Rows.boot_zip (PyProof.Rows.callWith_type1 (thn (ha.run pos pins s σ H _ I h) fun us s1 ⟨vs, H1, I1, r1, q1⟩ => ?_) hs hpl))
  obtain ⟨k1, k2, a, b, xs, ys, ex, hqx, hqy, q⟩ := q1
  subst ex
  cases r1 with
  | cons r rr =>
    cases rr with
    | cons r' rr =>
      cases rr
      cases r
      cases r'
      have fresh : ∀ c, c ∈ [s1.heap.objs.size + 4, s1.heap.objs.size + 2, s1.heap.objs.size + 3, s1.heap.objs.size, s1.heap.objs.size + 1] → FpOk X pins H1 c := fun c hcm => by
        have hle : s1.heap.objs.size ≤ c := by
          have e' : c = s1.heap.objs.size + 4 ∨ c = s1.heap.objs.size + 2 ∨ c = s1.heap.objs.size + 3 ∨ c = s1.heap.objs.size ∨ c = s1.heap.objs.size + 1 := by simpa using hcm
          rcases e' with z | z | z | z | z
          · rw [z]; exact Nat.le_add_right _ _
          · rw [z]; exact Nat.le_add_right _ _
          · rw [z]; exact Nat.le_add_right _ _
          · rw [z]; exact Nat.le_refl _
          · rw [z]; exact Nat.le_add_right _ _
        exact I1.fpOk hle (I1.hok.fresh hle)
      obtain ⟨its, rv, p1, la⟩ := seqB I1 hqx
      obtain ⟨its2, rv2, p2, lb⟩ := seqB I1 hqy
      refine zip_begins2 (beginsB a its.toArray k1) (beginsB b its2.toArray k2) p1 p2 fun h' hz hTI hTO h1 h2 hsz hk => wpAny_pyIter_zip hz ?_
      have I2 : Inv X pins σ H1 { s1 with heap := h' } := I1.kept (t' := s1.toks) hk
      have S := zip_sep2 (N := s1.heap.objs.size) (fp1 := [a]) (fp2 := [b]) (by simpa using la) (by simpa using lb)
      exact ⟨s1.heap.objs.size + 4, [s1.heap.objs.size + 4, s1.heap.objs.size + 2, s1.heap.objs.size + 3, s1.heap.objs.size, s1.heap.objs.size + 1], _, _, H1, rfl, I2, turn_z2 S (Nat.ne_of_lt la) (Nat.ne_of_lt (Nat.lt_succ_of_lt lb)) k1 k2, ⟨hz, hTI, ⟨_, _, hTO⟩, itB_new h1, itB_new h2⟩, fresh, q⟩
end
section
variable {X : Cx} {elts : List Expr} {kk : Nat} {tpos p pos : Pos} {e1 e2 e3 e tg : Expr} {gs : GTA} {ga : GTE}
/-- zip of lists or tuples -/
def gIZA (gs : GTA) : GTI := fun s L R => gs s L fun as L1 => on2 as fun x y => ∃ k1 k2 xs ys, sqK L1 k1 x = some xs ∧ sqK L1 k2 y = some ys ∧ R (zipA xs ys) (fun L2 => sqK L2 k1 x = some xs ∧ sqK L2 k2 y = some ys) L1
theorem i_zA (hg : Gl X "zip") (hm : X.mg "zip" = none) (ha : GA X [e1, e2] gs)
    (hs : starEach [e1, e2] X.env = (false, eval e1 X.env) :: starEach [e2] X.env := by rfl) (hpl : (backTo pos (starEach [e2] X.env)).any (·.1) = false := by rfl) :
    GI X (.Tuple elts kk tpos) (.Call (.Name "zip" p) [e1, e2] [] pos) (gIZA gs) := ⟨pi_imp (pi_z2A hg hm ha.pa hs hpl) fun σ H Q h => by
  obtain ⟨W, s, R, e, ok, ats, h, fin⟩ := h
  refine ⟨W, s, _, e, ok, ats, h, fun as W1 vs q g1 ok1 at1 => ?_⟩
  obtain ⟨x, y, ea, k1, k2, xs, ys, ex, ey, q3⟩ := on2_el q
  subst ea
  obtain ⟨u, v, rfl, hu, hv⟩ := at1.two
  obtain ⟨p1, us, e1, hq1, hl1⟩ := sk_at hu ok1 ex
  obtain ⟨p2, ws, e2, hq2, hl2⟩ := sk_at hv ok1 ey
  exact ⟨k1, k2, p1, p2, us, ws, by rw [e1, e2], hq1, hq2, fin _ _ W1 _ q3 g1 ok1 (itok_z2 hu hv e1 e2)⟩⟩
end
theorem Wk.popE {b : Nat} {s : Sl} {L L1 J : Lo} (e : L = L1 ++ J) (h1 : belS L1.length s = true) (h2 : belLo L1.length L1 = true) : Wk b s L s L1 := by
  subst e
  exact Wk.pop h1 h2
/-- x[:] of a list or a tuple of known data -/
def CopyOf (L : Lo) (x : A) (d : D) : Prop := (∃ ds : List D, plOf L x = some (ds.map .d) ∧ d = .list ds) ∨ ∃ ds : List D, tdOf x = some ds ∧ x = .d d
def gAllS (ga : GTE) : GTE := fun s L R => ga s L fun x L1 => ∃ d, CopyOf L1 x d ∧ R (.d d) L1
theorem g_all {X : Cx} {a : Expr} {ga : GTE} {p2 pos : Pos} (ha : GE X a ga) : GE X (.Subscript a (.Slice none none none p2) pos) (gAllS ga) :=
  ⟨pe_imp (pe_slice (sl_list.or sl_tupA) ha.pe po_none po_none) fun σ H Q h => by
    obtain ⟨W, s, R, e, ok, ats, h, fin⟩ := h
    refine ⟨W, s, _, e, ok, ats, h, fun x W1 v q g1 ok1 at1 => ?_⟩
    obtain ⟨d, hc, q⟩ := q
    show _ ∨ _
    rcases hc with ⟨ds, ea, rfl⟩ | ⟨ds, ed, rfl⟩
    · obtain ⟨p, us, rfl, hp, hl⟩ := pl_at at1 ok1 ea
      refine .inl ⟨p, us, rfl, SqL.of hp, fun l hl' => ?_⟩
      have hc := cut_at hl none none
      rw [cut_map, cut_all] at hc
      exact fin _ (W1.frz l (.lst (cutV us none none))) _ q (g1.trans (Wd.frz_grow ok1 hl' _)) (Wd.frz_ok ok1 hl' _) (lst_at hc.ds ok1 hl')
    · obtain ⟨p, us, rfl, hp, hl⟩ := td_at at1 ed
      refine .inr ⟨p, us, rfl, sqT_mono ok1.base hp, fun _ => fin _ W1 _ q g1 ok1 at1, fun hw => (hw ⟨by simp [HT.sIx], by simp [HT.sIx]⟩).elim⟩⟩
theorem ne_same {d : D} {k : Nat} (h : Sh k d) (z : (!PyData.eqv d.py d.py) = true) : False := by
  rw [h.refl] at z; cases z
theorem eq_same {d : D} {k : Nat} (h : Sh k d) (z : PyData.eqv d.py d.py = false) : False := by
  rw [h.refl] at z; cases z
theorem neV_same {d e : D} {k : Nat} (h : Sh k d) (he : e = d) (z : (!PyData.eqv d.py e.py) = true) : False := by
  subst he; exact ne_same h z
end GL

namespace GM
open GL PySem L2
/-! ### sums by rows -/
theorem seenF_seen {g r p f : List Int} (h : ∀ m ∈ f, m ∈ p) : seenF p (seenF g r p) f = seenF g r f := by
  unfold seenF
  apply List.map_congr_left
  intro m hm
  obtain ⟨h1, _⟩ := idx_at (h m hm)
  rw [List.getD_eq_getElem?_getD, List.getElem?_map, h1]
  rfl
theorem sum_ite {α : Type} [DecidableEq α] {k : α} {v : Int} : ∀ {ds : List α}, ds.Nodup → (ds.map fun r => if k = r then v else 0).sum = if k ∈ ds then v else 0
  | [], _ => by simp
  | d :: ds, h => by
    obtain ⟨h1, h2⟩ := List.nodup_cons.mp h
    rw [List.map_cons, List.sum_cons, sum_ite h2]
    by_cases hk : k = d
    · subst hk
      rw [if_pos rfl, if_neg h1, if_pos List.mem_cons_self, Int.add_zero]
    · rw [if_neg hk, Int.zero_add]
      by_cases hm : k ∈ ds
      · rw [if_pos hm, if_pos (List.mem_cons_of_mem _ hm)]
      · rw [if_neg hm, if_neg (fun z => (List.mem_cons.mp z).elim hk hm)]
theorem sum_map_add {α : Type} (f g : α → Int) : ∀ l : List α, (l.map fun x => f x + g x).sum = (l.map f).sum + (l.map g).sum
  | [] => by simp
  | x :: l => by simp only [List.map_cons, List.sum_cons, sum_map_add f g l]; omega
theorem sum_parts {α β : Type} [DecidableEq α] (key : β → α) (val : β → Int) (P : α → Bool) {ds : List α} (hd : ds.Nodup) : ∀ {zs : List β}, (∀ z ∈ zs, key z ∈ ds) →
    ((ds.filter P).map fun r => ((zs.filter fun z => decide (key z = r)).map val).sum).sum = ((zs.filter fun z => P (key z)).map val).sum
  | [], _ => by
    have : ∀ l : List α, (l.map fun _ => (0 : Int)).sum = 0 := fun l => by
      induction l with
      | nil => rfl
      | cons x l ih => simp [ih]
    simpa using this (ds.filter P)
  | z :: zs, h => by
    have ih := sum_parts key val P hd (zs := zs) fun x hx => h x (List.mem_cons_of_mem _ hx)
    have hz := h z List.mem_cons_self
    have e : ((ds.filter P).map fun r => (((z :: zs).filter fun z => decide (key z = r)).map val).sum) = (ds.filter P).map fun r => (if key z = r then val z else 0) + ((zs.filter fun z => decide (key z = r)).map val).sum := by
      apply List.map_congr_left
      intro r _
      by_cases hr : key z = r
      · rw [List.filter_cons_of_pos (by simpa using hr), if_pos hr]; simp
      · rw [List.filter_cons_of_neg (by simpa using hr), if_neg hr]; simp
    rw [e, sum_map_add, ih, sum_ite (hd.filter P)]
    by_cases hp : P (key z) = true
    · rw [if_pos (List.mem_filter.mpr ⟨hz, hp⟩), List.filter_cons_of_pos (p := fun z => P (key z)) hp]; simp
    · rw [if_neg (fun w => hp (List.mem_filter.mp w).2), List.filter_cons_of_neg (p := fun z => P (key z)) hp]; simp
theorem sumsF_len (g p : List Int) (rs : List (List Int)) (cs : List Int) (ds : List (List Int)) : (sumsF g p rs cs ds).length = ds.length := by simp [sumsF]
theorem zip_snd {α : Type} {rs : List α} {cs : List Int} (h : rs.length = cs.length) : (rs.zip cs).map (·.2) = cs := by
  rw [List.map_snd_zip (by omega)]
theorem sumsF_sum {g p : List Int} {rs : List (List Int)} {cs : List Int} {ds : List (List Int)} (hd : ds.Nodup) (hm : ∀ r ∈ rs, seenF g r p ∈ ds) (hl : rs.length = cs.length) : (sumsF g p rs cs ds).sum = cs.sum := by
  have := sum_parts (fun z : List Int × Int => seenF g z.1 p) (·.2) (fun _ => true) hd (zs := rs.zip cs) fun z hz => hm z.1 (List.of_mem_zip hz).1
  have e1 : ds.filter (fun _ => true) = ds := List.filter_eq_self.mpr fun _ _ => rfl
  have e2 : (rs.zip cs).filter (fun _ => true) = rs.zip cs := List.filter_eq_self.mpr fun _ _ => rfl
  rw [e1, e2, zip_snd hl] at this
  exact this
theorem sumAt_nn {g p : List Int} {rs : List (List Int)} {cs : List Int} (h : ∀ c ∈ cs, 0 ≤ c) (r : List Int) : 0 ≤ sumAt g p rs cs r := by
  unfold sumAt
  have : ∀ l : List (List Int × Int), (∀ z ∈ l, 0 ≤ z.2) → 0 ≤ (l.map (·.2)).sum := fun l => by
    induction l with
    | nil => intro _; simp
    | cons z l ih =>
      intro h
      have h1 := ih fun x hx => h x (List.mem_cons_of_mem _ hx)
      have h2 := h z List.mem_cons_self
      rw [List.map_cons, List.sum_cons]; omega
  exact this _ fun z hz => h z.2 (List.of_mem_zip (List.mem_filter.mp hz).1).2
theorem zip_map_self {α : Type} (h : α → Int) (P : α → Bool) : ∀ l : List α, (((l.zip (l.map h)).filter fun x => P x.1).map (·.2)) = (l.filter P).map h
  | [] => rfl
  | x :: l => by
    rw [List.map_cons, List.zip_cons_cons]
    by_cases hp : P x = true
    · rw [List.filter_cons_of_pos (by simpa using hp), List.filter_cons_of_pos hp, List.map_cons, List.map_cons, zip_map_self h P l]
    · rw [List.filter_cons_of_neg (by simpa using hp), List.filter_cons_of_neg hp, zip_map_self h P l]
theorem sums_sums {g p f : List Int} {rs dp df : List (List Int)} {cs : List Int} (hd : dp.Nodup) (hm : ∀ r ∈ rs, seenF g r p ∈ dp) (hf : ∀ m ∈ f, m ∈ p) : sumsF p f dp (sumsF g p rs cs dp) df = sumsF g f rs cs df := by
  unfold sumsF
  apply List.map_congr_left
  intro r _
  have h1 := sum_parts (fun z : List Int × Int => seenF g z.1 p) (·.2) (fun s => decide (seenF p s f = r)) hd (zs := rs.zip cs) fun z hz => hm z.1 (List.of_mem_zip hz).1
  have h2 : sumAt p f dp (dp.map fun r => sumAt g p rs cs r) r = ((dp.filter fun s => decide (seenF p s f = r)).map fun r => sumAt g p rs cs r).sum := by
    have z := zip_map_self (fun r => sumAt g p rs cs r) (fun s => decide (seenF p s f = r)) dp
    show (((dp.zip (dp.map fun r => sumAt g p rs cs r)).filter fun x => decide (seenF p x.1 f = r)).map (·.2)).sum = _
    rw [z]
  rw [h2]
  refine h1.trans ?_
  have e : ∀ z : List Int × Int, decide (seenF p (seenF g z.1 p) f = r) = decide (seenF g z.1 f = r) := fun z => by rw [seenF_seen hf]
  unfold sumAt
  simp only [e]
theorem sum_set {x : Int} : ∀ {cs : List Int} {a : Nat} {y : Int}, cs[a]? = some y → (cs.set a x).sum = cs.sum + (x - y)
  | [], _, _, h => by simp at h
  | c :: cs, 0, y, h => by
    simp at h; subst h
    rw [List.set_cons_zero, List.sum_cons, List.sum_cons]; omega
  | c :: cs, a + 1, y, h => by
    have := sum_set (x := x) (cs := cs) (a := a) (y := y) (by simpa using h)
    rw [List.set_cons_succ, List.sum_cons, List.sum_cons, this]; omega
/-! ### the drawn tables make a family -/
theorem getD_some {l : List Int} {b : Nat} (h : b < l.length) : l[b]? = some (l.getD b 0) := by
  rw [List.getD_eq_getElem?_getD, List.getElem?_eq_getElem h]; rfl
structure TabsOk (fr : List Int) (w : Int) (gs css : List (List Int)) : Prop where
  frame : FrOk fr
  grs : GrsOk fr gs
  len : css.length = gs.length
  tab : ∀ (j : Nat) (g cs : List Int), gs[j]? = some g → css[j]? = some cs → TabOk fr w (g, cs)
  w1 : 1 ≤ w
  w9 : w ≤ 1000000000
theorem zip_get {α β : Type} {a : List α} {b : List β} {i : Nat} {z : α × β} (h : (a.zip b)[i]? = some z) : a[i]? = some z.1 ∧ b[i]? = some z.2 := List.getElem?_zip_eq_some.mp h
theorem TabsOk.fam {fr : List Int} {w : Int} {gs css : List (List Int)} (h : TabsOk fr w gs css) : FamOk fr w (gs.zip css) where
  frame := h.frame
  w1 := h.w1
  w9 := h.w9
  tabs := fun t ht => by
    obtain ⟨i, hi, e⟩ := List.getElem_of_mem ht
    obtain ⟨e1, e2⟩ := zip_get (i := i) (z := t) (by rw [← e]; exact List.getElem?_eq_getElem hi)
    exact h.tab i t.1 t.2 e1 e2
  ne := by rw [List.length_zip, h.len]; have := h.grs.ne; omega
  eight := by rw [List.length_zip, h.len]; have := h.grs.eight; omega
  room := by
    have e : (gs.zip css).map (fun t => volR fr t.1) = gs.map fun g => volR fr g := by
      have h2 : (gs.zip css).map (·.1) = gs := List.map_fst_zip (by rw [h.len]; exact Nat.le_refl _)
      conv => rhs; rw [← h2]
      rw [List.map_map]; rfl
    rw [e]; exact h.grs.room
  all := fun m h0 h1 => by
    obtain ⟨g, hg, hm⟩ := h.grs.all m h0 h1
    obtain ⟨i, hi, e⟩ := List.getElem_of_mem hg
    have hi2 : i < css.length := by rw [h.len]; exact hi
    refine ⟨(gs[i], css[i]), ?_, by rw [e]; exact hm⟩
    exact List.mem_of_getElem? (List.getElem?_zip_eq_some.mpr ⟨List.getElem?_eq_getElem hi, List.getElem?_eq_getElem hi2⟩)
theorem rowsR_le {ks : List Int} (h : ∀ k ∈ ks, 2 ≤ k ∧ k ≤ 3) (h6 : ks.length ≤ 6) : (rowsR ks).length ≤ 729 := by
  have h1 := prod_bd (ks := ks) fun k hk => ⟨by have := h k hk; omega, (h k hk).2⟩
  have h2 := rowsR_len ks fun k hk => by have := h k hk; omega
  have h3 : (3 : Int) ^ ks.length ≤ 729 := by
    have := Nat.pow_le_pow_right (show 0 < 3 by decide) h6
    have h4 : ((3 ^ ks.length : Nat) : Int) ≤ ((3 ^ 6 : Nat) : Int) := Int.ofNat_le.mpr this
    simpa using h4
  omega
theorem TabsOk.drawn {fr : List Int} {gs : List (List Int)} {cs : List Int} (hf : FrOk fr) (hg : GrsOk fr gs) (hl : (cs.length : Int) = prod fr) (hc : ∀ x ∈ cs, 0 ≤ x ∧ x ≤ 1000000) (h1 : 1 ≤ cs.sum) :
    TabsOk fr cs.sum gs (gs.map fun g => sumsF (rgI fr.length) g (rowsR fr) cs (rowsR (kindsR fr g))) where
  frame := hf
  grs := hg
  len := by simp
  tab := fun j g ds e1 e2 => by
    rw [List.getElem?_map, e1] at e2
    cases e2
    have hgr := hg.gr g (List.mem_of_getElem? e1)
    have hrl := rowsR_len fr fun k hk => by have := hf.kinds k hk; omega
    refine ⟨hgr, by rw [sumsF_len]; rfl, fun c hc' => ?_, ?_⟩
    · obtain ⟨r, _, rfl⟩ := List.mem_map.mp hc'
      exact sumAt_nn (fun x hx => (hc x hx).1) r
    · refine sumsF_sum (rowsR_nodup _) (fun r hr => ?_) (by omega)
      have h2 := rowsR_mem.mp hr
      rw [← kindsR_all fr] at h2
      exact rowsR_mem.mpr (seen_ok h2 fun m hm => rgI_mem.mpr (hgr.mem m hm))
  w1 := h1
  w9 := by
    have : ∀ l : List Int, (∀ x ∈ l, 0 ≤ x ∧ x ≤ 1000000) → l.sum ≤ 1000000 * l.length := fun l => by
      induction l with
      | nil => simp
      | cons x l ih =>
        intro h
        have h1 := ih fun y hy => h y (List.mem_cons_of_mem _ hy)
        have h2 := h x List.mem_cons_self
        rw [List.sum_cons, List.length_cons]; omega
    have h2 := this cs hc
    have := hf.room
    omega
/-- one count less, another one more -/
def moved (cs : List Int) (a b : Nat) : List Int := (cs.set a (cs.getD a 0 - 1)).set b ((cs.set a (cs.getD a 0 - 1)).getD b 0 + 1)
theorem TabsOk.move {fr : List Int} {w : Int} {gs css : List (List Int)} (h : TabsOk fr w gs css) {j a b : Nat} {cs : List Int} (e : css[j]? = some cs) (ha : a < cs.length) (hb : b < cs.length) (hp : 0 < cs.getD a 0) : TabsOk fr w gs (css.set j (moved cs a b)) where
  frame := h.frame
  grs := h.grs
  len := by rw [List.length_set]; exact h.len
  tab := fun i g ds e1 e2 => by
    by_cases hij : j = i
    · subst hij
      rw [List.getElem?_set_self (List.getElem?_eq_some_iff.mp e).1] at e2
      cases e2
      have t := h.tab j g cs e1 e
      have t1 := t.nn
      have t2 := t.sum
      have t3 := t.len
      have ea : cs[a]? = some (cs.getD a 0) := getD_some ha
      have eb : (cs.set a (cs.getD a 0 - 1))[b]? = some ((cs.set a (cs.getD a 0 - 1)).getD b 0) := getD_some (by rw [List.length_set]; exact hb)
      have n1 : ∀ c ∈ cs.set a (cs.getD a 0 - 1), 0 ≤ c := fun c hc => by
        rcases List.mem_or_eq_of_mem_set hc with h | h
        · exact t1 c h
        · omega
      refine ⟨t.gr, ?_, fun c hc => ?_, ?_⟩
      · show (moved cs a b).length = _
        unfold moved
        rw [List.length_set, List.length_set]; exact t3
      · rcases List.mem_or_eq_of_mem_set hc with h | h
        · exact n1 c h
        · have := n1 _ (List.mem_of_getElem? eb)
          omega
      · show (moved cs a b).sum = w
        unfold moved
        rw [sum_set eb, sum_set ea]
        have : cs.sum = w := t2
        omega
    · rw [List.getElem?_set_ne hij] at e2
      exact h.tab i g ds e1 e2
  w1 := h.w1
  w9 := h.w9
/-- the tables in the store, handed on -/
def hand (L : Lo) (p : GL.A) (ds : List Int) : Prop := plOf L p = some ((nts ds).map .d) ∨ p = .d (.grp (nts ds))
def Handed (L : Lo) (ha : GL.A) (ts : List Tab) : Prop := ∃ ths, sqOf L ha = some ths ∧ ths.length = ts.length ∧ ∀ (i : Nat) (t : Tab), ts[i]? = some t → ∃ a p q, ths[i]? = some a ∧ tpOf a = some [p, q] ∧ hand L p t.1 ∧ hand L q t.2
theorem tabS_handed {o : AO} {gs css : List (List Int)} {J : Lo} : Handed (o :: (tabS 1 gs css ++ J)) (.own 1) (gs.zip css) → Handed (o :: (tabS 1 gs css ++ J)) (.own 1) (gs.zip css) := id
theorem tab_cell {o : AO} {gs css : List (List Int)} {J : Lo} {j : Nat} {cs : List Int} (h : css[j]? = some cs) : (o :: (tabS 1 gs css ++ J))[1 + 1 + j]? = some (cntO cs) := by
  have e : 1 + 1 + j = (j + 1) + 1 := by omega
  rw [e, List.getElem?_cons_succ]
  show (AO.lst (prsA 1 gs) :: (css.map cntO ++ J))[j + 1]? = _
  rw [List.getElem?_cons_succ, List.getElem?_append_left (by rw [List.length_map]; exact (List.getElem?_eq_some_iff.mp h).1), List.getElem?_map, h]
  rfl
theorem tab_hand {o : AO} {gs css : List (List Int)} {J : Lo} (hl : css.length = gs.length) : Handed (o :: (tabS 1 gs css ++ J)) (.own 1) (gs.zip css) := by
  refine ⟨prsA 1 gs, rfl, by rw [prsA_len, List.length_zip]; omega, fun i t ht => ?_⟩
  obtain ⟨e1, e2⟩ := zip_get ht
  exact ⟨_, _, _, prsA_get e1, rfl, .inr rfl, .inl (pl_own (tab_cell e2))⟩
theorem tab_set {o : AO} {gs css : List (List Int)} {J : Lo} {j : Nat} {cs : List Int} (hj : j < css.length) : (o :: (tabS 1 gs css ++ J)).set (1 + 1 + j) (cntO cs) = o :: (tabS 1 gs (css.set j cs) ++ J) := by
  have e : 1 + 1 + j = (j + 1) + 1 := by omega
  rw [e, List.set_cons_succ]
  show o :: (AO.lst (prsA 1 gs) :: (css.map cntO ++ J)).set (j + 1) (cntO cs) = _
  rw [List.set_cons_succ, List.set_append_left _ _ (by rw [List.length_map]; exact hj)]
  unfold tabS
  rw [List.map_set]; rfl
theorem prs_bel (b : Nat) (gs : List (List Int)) {k : Nat} (h : b + 1 + gs.length ≤ k) : belL k (prsA b gs) = true := by
  have : ∀ as : List GL.A, (∀ a ∈ as, bel k a = true) → belL k as = true := fun as => by
    induction as with
    | nil => intro _; rfl
    | cons a as ih =>
      intro h
      show (bel k a && belL k as) = true
      rw [h a List.mem_cons_self, ih fun x hx => h x (List.mem_cons_of_mem _ hx)]; rfl
  refine this _ fun a ha => ?_
  obtain ⟨i, hi, e⟩ := List.getElem_of_mem ha
  obtain ⟨g, eg, rfl⟩ := prsA_el (i := i) (a := a) (by rw [← e]; exact List.getElem?_eq_getElem hi)
  have := (List.getElem?_eq_some_iff.mp eg).1
  show (true && (decide (b + 1 + i < k) && true)) = true
  rw [decide_eq_true (by omega)]; rfl
theorem cnt_bel {k : Nat} : ∀ css : List (List Int), belLo k (css.map cntO) = true
  | [] => rfl
  | cs :: css => by
    show (belL k ((nts cs).map .d) && belLo k (css.map cntO)) = true
    rw [bel_ds, cnt_bel css]; rfl
theorem tab_bel {o : AO} {gs css : List (List Int)} {J : Lo} (ho : belO 0 o = true) (hl : css.length = gs.length) (hJ : belLo 0 J = true) : belLo (o :: (tabS 1 gs css ++ J)).length (o :: (tabS 1 gs css ++ J)) = true := by
  have e : (o :: (tabS 1 gs css ++ J)).length = 2 + css.length + J.length := by simp [tabS]; omega
  rw [e]
  show (belO _ o && (belL _ (prsA 1 gs) && belLo _ (css.map cntO ++ J))) = true
  rw [belO_mono (Nat.zero_le _) o ho, prs_bel 1 gs (by omega), belLo_app (cnt_bel css) (belLo_mono (Nat.zero_le _) hJ)]
  rfl
theorem shTbl {t : Tab} : Sh 2 (tbl t) := Sh.tuple fun d hd => by
  rcases List.mem_cons.mp hd with rfl | hd
  · exact Sh.ntsG
  · simp at hd; subst hd; exact Sh.ntsG
theorem shFam {fr : List Int} {ts : List Tab} : Sh 4 (famD fr ts) := Sh.tuple fun d hd => by
  rcases List.mem_cons.mp hd with rfl | hd
  · exact ⟨Sh.ntsG.1, Nat.le_trans Sh.ntsG.2 (by decide)⟩
  · simp at hd; subst hd
    exact Sh.tuple fun d hd => by
      obtain ⟨t, _, rfl⟩ := List.mem_map.mp hd
      exact shTbl
theorem getP {A J : Lo} {x : AO} : ((A ++ [x]) ++ J)[A.length]? = some x := by
  rw [List.append_assoc, List.getElem?_append_right (Nat.le_refl _), Nat.sub_self]; rfl
theorem setP {A J : Lo} {x y : AO} : ((A ++ [x]) ++ J).set A.length y = (A ++ [y]) ++ J := by
  rw [List.append_assoc, List.append_assoc, List.set_append_right _ _ (Nat.le_refl _), Nat.sub_self]; rfl
end GM

namespace GL
open PySem PySem.Spec L2
theorem rws_py (rs : List (List Int)) : D.pyL (rws rs) = rs.map fun r => PyData.tuple (r.map PyData.int) := pyL_rws rs
theorem eqv_row (a b : List Int) : PyData.eqv (.tuple (a.map PyData.int)) (.tuple (b.map PyData.int)) = decide (a = b) := by
  have := eqv_ntsT a b
  rw [pyL_nts, pyL_nts] at this; exact this
section
variable {X : Cx} {o e : Expr} {es : List Expr} {go : GTE} {gs : GTA}
/-- rows.index(row): the first place -/
def gIdxR (go : GTE) (gs : GTA) : GTE := fun s L R => go s L fun o L1 => ∃ rs : List (List Int), o = .d (.list (rws rs)) ∧ gs s L1 fun as L2 => on1 as fun a => ∃ r, tdOf a = some (nts r) ∧ ∃ j : Nat, rs[j]? = some r ∧ (∀ m, m < j → rs[m]? ≠ some r) ∧ R (.d (.int (j : Nat))) L2
theorem g_idxR {apos cpos : Pos} (hu : X.A.units + 65 < cLine) (ho : GE X o go) (ha : GA X (e :: es) gs) (hbase : attributeBase o "index" X.env (eval o X.env) = eval o X.env := by rfl)
    (hfew : ((backTo cpos (starEach (e :: es) X.env)).all (fun x => !x.1) && (backToKw cpos (keywordEach [] X.env)).all (fun x => x.1.isSome)
      && decide ((e :: es).length + ([] : List Keyword).length + (if ([] : List Keyword).isEmpty then 0 else 1) < 30)) = true := by rfl)
    (hline : (apos.endLine == cpos.line) = true := by rfl) (hs : starEach (e :: es) X.env = (false, eval e X.env) :: starEach es X.env := by rfl) (hplain : (backTo cpos (starEach es X.env)).any (·.1) = false := by rfl) :
    GE X (.Call (.Attribute o "index" apos) (e :: es) [] cpos) (gIdxR go gs) :=
  ⟨pe_imp (pe_bm PySem.F.plainAttrs_list PySem.F.slot_list_index PySem.F.type_list_index (mt_indexD hu) ho.pe ha.pa hbase hfew hline hs hplain) fun σ H Q h => by
    obtain ⟨W, s, R, e, ok, ats, h, fin⟩ := h
    refine ⟨W, s, _, e, ok, ats, h, fun o W1 v q g1 ok1 at1 => ?_⟩
    obtain ⟨rs, rfl, q⟩ := q
    obtain ⟨p, us, rfl, e1, l1⟩ := at1.lst
    refine ⟨.inl ⟨rfl, _, SqL.of (ok1.base _ _ e1)⟩, W1, s, _, rfl, ok1, ats.mono g1, q, fun as W2 vs q2 g2 ok2 at2 => ?_⟩
    obtain ⟨a, ea, r, hr, j, hj, hno, q3⟩ := on1_el q2
    subst ea
    obtain ⟨u, rfl, at3⟩ := at2.one
    have hx : ∃ x : D, a = .d x ∧ x.py = .tuple (D.pyL (nts r)) := by
      rcases td_cases hr with rfl | rfl
      · exact ⟨_, rfl, rfl⟩
      · exact ⟨_, rfl, rfl⟩
    obtain ⟨x, rfl, hpy⟩ := hx
    have at1' := at1.mono g2
    have d1 : Dp X.K W2.H (.ref p) (D.py (.list (rws rs))) := ((At.d_iff at1').mono ok2.base).dp
    have d2 : Dp X.K W2.H u x.py := ((At.d_iff at3).mono ok2.base).dp
    rw [hpy, pyL_nts] at d2
    refine ⟨p, u, _, D.pyL (rws rs), j, .tuple (r.map PyData.int), rfl, rfl, d1, d2, shp_rwsL rs, ?_, ?_, ?_, fun m z' hm hz => ?_, fin _ W2 _ q3 (g1.trans g2) ok2 (.d (.int _))⟩
    · have := shp_ntsT r
      rw [pyL_nts] at this; exact this
    · rw [rws_py, List.getElem?_map, hj]; rfl
    · rw [eqv_row, decide_eq_true rfl]
    · rw [rws_py, List.getElem?_map] at hz
      cases hq : rs[m]? with
      | none => rw [hq] at hz; cases hz
      | some t =>
        rw [hq] at hz; cases hz
        rw [eqv_row]
        exact decide_eq_false fun z => hno m hm (by rw [hq, z])⟩
end
end GL

namespace GM
open GL PySem L2
/-- a thing handed on: a list of one's own behind the state, or a tuple -/
def hdT (M : Lo) (p : GL.A) (ds : List Int) : Prop := (∃ k, p = .own (k + 1) ∧ M[k]? = some (.lst ((nts ds).map .d))) ∨ p = .d (.grp (nts ds))
theorem hdT.more {M J : Lo} {p : GL.A} {ds : List Int} (h : hdT M p ds) : hdT (M ++ J) p ds := by
  rcases h with ⟨k, e, h⟩ | h
  · exact .inl ⟨k, e, by rw [List.getElem?_append_left (List.getElem?_eq_some_iff.mp h).1]; exact h⟩
  · exact .inr h
theorem hdT.hand {M : Lo} {o : AO} {p : GL.A} {ds : List Int} (h : hdT M p ds) : hand (o :: M) p ds := by
  rcases h with ⟨k, rfl, h⟩ | h
  · exact .inl (pl_own (by rw [List.getElem?_cons_succ]; exact h))
  · exact .inr h
/-- what it reads as -/
def dh (p : GL.A) (ds : List Int) : D := match p with
  | .own _ => .list (nts ds)
  | _ => .grp (nts ds)
theorem hdT.rv {M : Lo} {o : AO} {p : GL.A} {ds : List Int} (h : hdT M p ds) : Rv (o :: M) p (dh p ds) := by
  rcases h with ⟨k, rfl, h⟩ | rfl
  · exact .own (by rw [List.getElem?_cons_succ]; exact h) (.ds _)
  · exact .d
theorem sh_dh {p : GL.A} {ds : List Int} : Sh 1 (dh p ds) := by
  unfold dh
  split
  · exact Sh.ntsL
  · exact Sh.ntsG
theorem rv_mk {L : Lo} {p q : GL.A} {x y : D} (h1 : Rv L p x) (h2 : Rv L q y) : Rv L (mkTup [p, q]) (.tuple [x, y]) := by
  unfold mkTup
  split
  · rename_i ds e
    have e' := allD_eq e
    cases ds with
    | nil => cases e'
    | cons a ds =>
      cases ds with
      | nil => cases e'
      | cons b ds =>
        cases ds with
        | cons _ _ => cases e'
        | nil =>
          simp only [List.map_cons, List.map_nil, List.cons.injEq, and_true] at e'
          obtain ⟨rfl, rfl⟩ := e'
          cases h1
          cases h2
          exact .d
  · exact .tup (.cons h1 (.cons h2 .nil))
/-- things that may be changed: lists of one's own, not at h, and tuples -/
def okp (M : Lo) (h N : Nat) (p : GL.A) : Prop := (∃ k, p = .own (k + 1) ∧ k ≠ h ∧ ∃ as, M[k]? = some (.lst as) ∧ as.length ≤ N) ∨ ∃ ds, p = .d (.grp ds)
theorem okp.set {M : Lo} {h N k : Nat} {p : GL.A} {as : List GL.A} (q : okp M h N p) (hk : k < M.length) (hl : as.length ≤ N + 1) : okp (M.set k (.lst as)) h (N + 1) p := by
  rcases q with ⟨j, e, hj, bs, hb, hn⟩ | q
  · by_cases e2 : k = j
    · subst e2
      exact .inl ⟨k, e, hj, as, List.getElem?_set_self hk, hl⟩
    · exact .inl ⟨j, e, hj, bs, by rw [List.getElem?_set_ne e2]; exact hb, Nat.le_succ_of_le hn⟩
  · exact .inr q
theorem okp.mono {M : Lo} {h N N' : Nat} {p : GL.A} (q : okp M h N p) (hl : N ≤ N') : okp M h N' p := by
  rcases q with ⟨j, e, hj, bs, hb, hn⟩ | q
  · exact .inl ⟨j, e, hj, bs, hb, Nat.le_trans hn hl⟩
  · exact .inr q
theorem nts_set {cs : List Int} {j : Nat} {v : Int} : ((nts cs).map GL.A.d).set j (.d (.int v)) = (nts (cs.set j v)).map .d := by simp [nts, List.map_set]
theorem tab_set' {o : AO} {gs css : List (List Int)} {J : Lo} {j : Nat} {cs : List Int} (hj : j < css.length) : (o :: (tabS 1 gs css ++ J)).set (1 + 1 + j) (.lst ((nts cs).map .d)) = o :: (tabS 1 gs (css.set j cs) ++ J) := tab_set hj
theorem ixN_n {n j : Nat} (hj : j < n) : ixN n (j : Int) = some j := by unfold ixN; simp [hj]
theorem ixN_last {n : Nat} (h : 0 < n) : ixN n (-1) = some (n - 1) := by
  unfold ixN
  rw [if_neg (by omega), if_pos (by omega)]
  congr 1
  omega
theorem zip_map_fst {gs css : List (List Int)} (h : css.length = gs.length) : (gs.zip css).map (fun t => D.grp (nts t.1)) = gs.map fun g => D.grp (nts g) := by
  have h2 : (gs.zip css).map (·.1) = gs := List.map_fst_zip (by rw [h]; exact Nat.le_refl _)
  conv => rhs; rw [← h2]
  rw [List.map_map]; rfl
theorem hdT.copy {M : Lo} {o : AO} {p : GL.A} {ds : List Int} (h : hdT M p ds) : CopyOf (o :: M) p (dh p ds) := by
  rcases h with ⟨k, rfl, h⟩ | rfl
  · exact .inl ⟨nts ds, pl_own (by rw [List.getElem?_cons_succ]; exact h), rfl⟩
  · exact .inr ⟨nts ds, rfl, rfl⟩
theorem hdT.ok {M : Lo} {p : GL.A} {ds : List Int} {N : Nat} {J : Lo} (h : hdT M p ds) (hl : ds.length ≤ N) : okp (M ++ J) M.length N p := by
  rcases h with ⟨k, rfl, h⟩ | rfl
  · have hk := (List.getElem?_eq_some_iff.mp h).1
    exact .inl ⟨k, rfl, by omega, _, by rw [List.getElem?_append_left hk]; exact h, by simpa using hl⟩
  · exact .inr ⟨_, rfl⟩
abbrev mkP (z : GL.A × GL.A) : GL.A := mkTup [z.1, z.2]
abbrev dhP (z : (GL.A × GL.A) × Tab) : D := .tuple [dh z.1.1 z.2.1, dh z.1.2 z.2.2]
theorem sh_dhP {z : (GL.A × GL.A) × Tab} : Sh 2 (dhP z) := Sh.tuple fun d hd => by
  rcases List.mem_cons.mp hd with rfl | hd
  · exact sh_dh
  · simp at hd; subst hd; exact sh_dh
theorem rvP {M : Lo} {o : AO} : ∀ {hp : List (GL.A × GL.A)} {ts : List Tab}, hp.length = ts.length → (∀ (j : Nat) (z : GL.A × GL.A) (t : Tab), hp[j]? = some z → ts[j]? = some t → hdT M z.1 t.1 ∧ hdT M z.2 t.2) → RvL (o :: M) (hp.map mkP) ((hp.zip ts).map dhP)
  | [], [], _, _ => .nil
  | z :: hp, t :: ts, hl, h => by
    obtain ⟨h1, h2⟩ := h 0 z t rfl rfl
    exact .cons (rv_mk h1.rv h2.rv) (rvP (by simpa using hl) fun j z t e1 e2 => h (j + 1) z t (by simpa using e1) (by simpa using e2))
  | [], _ :: _, hl, _ => by simp at hl
  | _ :: _, [], hl, _ => by simp at hl
theorem item_last {L : Lo} {ts : List Tab} {t : Tab} (h : ts[ts.length - 1]? = some t) (h0 : 0 < ts.length) : itemA L (.d (.tuple (ts.map tbl))) (.d (.int (-1))) = some (.d (tbl t)) := by
  show atI ((ts.map tbl).map GL.A.d) (-1) = _
  unfold atI
  rw [ixN_last (by simpa using h0)]
  show ((ts.map tbl).map GL.A.d)[((ts.map tbl).map GL.A.d).length - 1]? = _
  rw [List.length_map, List.length_map, List.getElem?_map, List.getElem?_map, h]; rfl
theorem tpx {L : Lo} {a : GL.A} {as : List GL.A} (h : tpOf a = some as) : sqOf L a = some as := by
  unfold tpOf at h
  split at h
  · cases h; rfl
  · cases h; rfl
  · cases h; rfl
  · cases h
end GM

namespace GM
open GL PySem L2
/-! ### whether tables agree -/
def ovF (g h : List Int) : List Int := g.filter fun m => decide (m ∈ h)
def unP (fr : List Int) (t u : Tab) (r : List Int) : Bool := !decide (sumAt t.1 (ovF t.1 u.1) (rowsR (kindsR fr t.1)) t.2 r = sumAt u.1 (ovF t.1 u.1) (rowsR (kindsR fr u.1)) u.2 r)
def unl (fr : List Int) (t u : Tab) : Option (List Int) := (rowsR (kindsR fr (ovF t.1 u.1))).find? (unP fr t u)
def rowD : Option (List Int) → D
  | none => .none
  | some r => .tuple (nts r)
abbrev Agr := Nat × Nat × List Int
def inG (fr : List Int) (ts : List Tab) (i j : Nat) : Option Agr := match ts[i]?, ts[j]? with
  | some t, some u => (unl fr t u).map fun r => (i, j, r)
  | _, _ => none
def inJ (fr : List Int) (ts : List Tab) (i k : Nat) : Option Agr := ((List.range (ts.length - (i + 1))).drop k).findSome? fun m => inG fr ts i (i + 1 + m)
def outI (fr : List Int) (ts : List Tab) (i : Nat) : Option Agr := ((List.range ts.length).drop i).findSome? fun i => inJ fr ts i 0
def agr (fr : List Int) (ts : List Tab) : Option Agr := outI fr ts 0
def agD : Option Agr → D
  | none => .none
  | some (i, j, r) => .tuple [.int i, .int j, .tuple (nts r)]
theorem range_drop {n k : Nat} (h : k < n) : (List.range n).drop k = k :: (List.range n).drop (k + 1) := by
  rw [List.drop_eq_getElem_cons (by rw [List.length_range]; exact h), List.getElem_range]
theorem inJ_step {fr : List Int} {ts : List Tab} {i k : Nat} (h : k < ts.length - (i + 1)) : inJ fr ts i k = (inG fr ts i (i + 1 + k)).or (inJ fr ts i (k + 1)) := by
  unfold inJ
  rw [range_drop h, List.findSome?_cons]
  cases inG fr ts i (i + 1 + k) <;> rfl
theorem inJ_end {fr : List Int} {ts : List Tab} {i k : Nat} (h : ts.length - (i + 1) ≤ k) : inJ fr ts i k = none := by
  unfold inJ
  rw [List.drop_eq_nil_of_le (by rw [List.length_range]; exact h)]; rfl
theorem outI_step {fr : List Int} {ts : List Tab} {i : Nat} (h : i < ts.length) : outI fr ts i = (inJ fr ts i 0).or (outI fr ts (i + 1)) := by
  unfold outI
  rw [range_drop h, List.findSome?_cons]
  cases inJ fr ts i 0 <;> rfl
theorem outI_end {fr : List Int} {ts : List Tab} {i : Nat} (h : ts.length ≤ i) : outI fr ts i = none := by
  unfold outI
  rw [List.drop_eq_nil_of_le (by rw [List.length_range]; exact h)]; rfl
theorem ov_sub {g h : List Int} : ∀ m ∈ ovF g h, m ∈ g := fun m hm => (List.mem_filter.mp hm).1
theorem ov_sub2 {g h : List Int} : ∀ m ∈ ovF g h, m ∈ h := fun m hm => of_decide_eq_true (List.mem_filter.mp hm).2
theorem ov_len {g h : List Int} : (ovF g h).length ≤ g.length := List.length_filter_le _ _
/-- tables drawn of one table of counts agree -/
theorem drawn_agree {fr cs : List Int} {gs : List (List Int)} (hf : FrOk fr) (hg : ∀ g ∈ gs, GrOk fr.length g) : agr fr (gs.zip (gs.map fun g => sumsF (rgI fr.length) g (rowsR fr) cs (rowsR (kindsR fr g)))) = none := by
  have key : ∀ g ∈ gs, ∀ o r : List Int, (∀ m ∈ o, m ∈ g) → sumAt g o (rowsR (kindsR fr g)) (sumsF (rgI fr.length) g (rowsR fr) cs (rowsR (kindsR fr g))) r = sumAt (rgI fr.length) o (rowsR fr) cs r := fun g hg' o r ho => by
    have := sums_sums (g := rgI fr.length) (p := g) (f := o) (rs := rowsR fr) (dp := rowsR (kindsR fr g)) (df := [r]) (cs := cs) (rowsR_nodup _) (fun x hx => by
      have h2 := rowsR_mem.mp hx
      rw [← kindsR_all fr] at h2
      exact rowsR_mem.mpr (seen_ok h2 fun m hm => rgI_mem.mpr ((hg g hg').mem m hm))) ho
    simpa [sumsF] using this
  have all : ∀ t ∈ gs.zip (gs.map fun g => sumsF (rgI fr.length) g (rowsR fr) cs (rowsR (kindsR fr g))), t.1 ∈ gs ∧ t.2 = sumsF (rgI fr.length) t.1 (rowsR fr) cs (rowsR (kindsR fr t.1)) := fun t ht => by
    obtain ⟨i, hi, e⟩ := List.getElem_of_mem ht
    obtain ⟨e1, e2⟩ := zip_get (i := i) (z := t) (by rw [← e]; exact List.getElem?_eq_getElem hi)
    rw [List.getElem?_map, e1] at e2
    exact ⟨List.mem_of_getElem? e1, (Option.some.inj e2).symm⟩
  generalize gs.zip (gs.map fun g => sumsF (rgI fr.length) g (rowsR fr) cs (rowsR (kindsR fr g))) = ts at all
  have un : ∀ t ∈ ts, ∀ u ∈ ts, unl fr t u = none := fun t ht u hu => by
    unfold unl
    rw [List.find?_eq_none]
    intro r _
    obtain ⟨t1, t2⟩ := all t ht
    obtain ⟨u1, u2⟩ := all u hu
    unfold unP
    rw [t2, u2, key t.1 t1 _ r ov_sub, key u.1 u1 _ r ov_sub2]
    simp
  have ing : ∀ i j, inG fr ts i j = none := fun i j => by
    unfold inG
    split
    · rename_i t u e1 e2
      rw [un t (List.mem_of_getElem? e1) u (List.mem_of_getElem? e2)]; rfl
    · rfl
  unfold agr outI
  rw [List.findSome?_eq_none_iff]
  intro i _
  unfold inJ
  rw [List.findSome?_eq_none_iff]
  intro m _
  exact ing _ _
/-- tables in the store, each with its list of counts -/
def TabIn (L : Lo) (ta : GL.A) (ts : List Tab) : Prop := ∃ n ths, ta = .own n ∧ L[n]? = some (.lst ths) ∧ ths.length = ts.length ∧ ∀ (i : Nat) (t : Tab), ts[i]? = some t → ∃ k, ths[i]? = some (.tup [.d (.grp (nts t.1)), .own k]) ∧ L[k]? = some (.lst ((nts t.2).map .d))
theorem TabIn.more {L J : Lo} {ta : GL.A} {ts : List Tab} (h : TabIn L ta ts) : TabIn (L ++ J) ta ts := by
  obtain ⟨n, ths, e, h1, h2, h3⟩ := h
  refine ⟨n, ths, e, by rw [List.getElem?_append_left (List.getElem?_eq_some_iff.mp h1).1]; exact h1, h2, fun i t et => ?_⟩
  obtain ⟨k, e1, e2⟩ := h3 i t et
  exact ⟨k, e1, by rw [List.getElem?_append_left (List.getElem?_eq_some_iff.mp e2).1]; exact e2⟩
theorem TabIn.handed {L : Lo} {ta : GL.A} {ts : List Tab} (h : TabIn L ta ts) : Handed L ta ts := by
  obtain ⟨n, ths, rfl, h1, h2, h3⟩ := h
  refine ⟨ths, sq_own h1, h2, fun i t et => ?_⟩
  obtain ⟨k, e1, e2⟩ := h3 i t et
  exact ⟨_, _, _, e1, rfl, .inr rfl, .inl (pl_own e2)⟩
theorem tab_in {o : AO} {gs css : List (List Int)} {J : Lo} (hl : css.length = gs.length) : TabIn (o :: (tabS 1 gs css ++ J)) (.own 1) (gs.zip css) :=
  ⟨1, prsA 1 gs, rfl, rfl, by rw [prsA_len, List.length_zip]; omega, fun i t ht => by
    obtain ⟨e1, e2⟩ := zip_get ht
    exact ⟨1 + 1 + i, prsA_get e1, tab_cell e2⟩⟩
theorem rngA_el {lo : Int} {n i : Nat} {a : GL.A} (h : (rngA lo n)[i]? = some a) : a = .d (.int (lo + (i : Nat))) ∧ i < n := by
  have hi : i < n := by
    have := (List.getElem?_eq_some_iff.mp h).1
    rwa [rngA_len] at this
  rw [rngA_get hi] at h
  exact ⟨(Option.some.inj h).symm, hi⟩
theorem rng0_el {n i : Nat} {a : GL.A} (h : (rngA 0 n)[i]? = some a) : a = .d (.int (i : Nat)) ∧ i < n := by
  obtain ⟨e, hi⟩ := rngA_el h
  rw [Int.zero_add] at e
  exact ⟨e, hi⟩
theorem zip3A_el {as bs cs : List GL.A} {i : Nat} {c : GL.A} (h : (zip3A as bs cs)[i]? = some c) : ∃ x y z, as[i]? = some x ∧ bs[i]? = some y ∧ cs[i]? = some z ∧ c = mkTup [x, y, z] := by
  have hi := (List.getElem?_eq_some_iff.mp h).1
  rw [zip3A_len] at hi
  obtain ⟨h1, h2, h3⟩ := lt_min3 hi
  have e1 := List.getElem?_eq_getElem h1
  have e2 := List.getElem?_eq_getElem h2
  have e3 := List.getElem?_eq_getElem h3
  rw [zip3A_get e1 e2 e3] at h
  exact ⟨_, _, _, e1, e2, e3, (Option.some.inj h).symm⟩
structure TOk (fr : List Int) (t : Tab) : Prop where
  gr : GrOk fr.length t.1
  len : t.2.length = volR fr t.1
theorem sumsF_get {g p : List Int} {rs ds : List (List Int)} {cs r : List Int} {i : Nat} (h : ds[i]? = some r) : (sumsF g p rs cs ds)[i]? = some (sumAt g p rs cs r) := by
  unfold sumsF
  rw [List.getElem?_map, h]; rfl
/-- a store, and more behind it -/
def Ext (L P : Lo) : Prop := ∃ J, P = L ++ J
theorem Ext.refl {L : Lo} : Ext L L := ⟨[], by simp⟩
theorem Ext.app {L P J : Lo} (h : Ext L P) : Ext L (P ++ J) := by
  obtain ⟨K, rfl⟩ := h
  exact ⟨K ++ J, by simp⟩
theorem Ext.trans {L P Q : Lo} (h : Ext L P) (h2 : Ext P Q) : Ext L Q := by
  obtain ⟨K, rfl⟩ := h
  obtain ⟨J, rfl⟩ := h2
  exact ⟨K ++ J, by simp⟩
theorem Ext.get {L P : Lo} {n : Nat} {o : AO} (h : Ext L P) (e : L[n]? = some o) : P[n]? = some o := by
  obtain ⟨K, rfl⟩ := h
  rw [List.getElem?_append_left (List.getElem?_eq_some_iff.mp e).1]; exact e
theorem Ext.len {L P : Lo} (h : Ext L P) : L.length ≤ P.length := by
  obtain ⟨K, rfl⟩ := h
  simp
theorem Ext.pop {L P : Lo} {b : Nat} {s : Sl} (h : Ext L P) (hb : belLo L.length L = true) (hs : belS L.length s = true) : Wk b s P s L := by
  obtain ⟨K, rfl⟩ := h
  exact Wk.pop hs hb
theorem get3 {P J : Lo} {x y : AO} : (((P ++ [x]) ++ [y]) ++ J)[P.length]? = some x := by
  rw [List.append_assoc, List.append_assoc, List.getElem?_append_right (Nat.le_refl _), Nat.sub_self]; rfl
theorem get3b {P J : Lo} {x y : AO} : (((P ++ [x]) ++ [y]) ++ J)[(P ++ [x]).length]? = some y := getP
theorem set3 {P J : Lo} {x y z : AO} : (((P ++ [x]) ++ [y]) ++ J).set P.length z = ((P ++ [z]) ++ [y]) ++ J := by
  rw [List.append_assoc, List.append_assoc, List.set_append_right _ _ (Nat.le_refl _), Nat.sub_self]
  simp
theorem get4 {P J : Lo} {x y c : AO} : (((P ++ [x]) ++ [y]) ++ (c :: J))[P.length + 2]? = some c := by
  rw [List.append_assoc, List.append_assoc, List.getElem?_append_right (by omega), show P.length + 2 - P.length = 2 by omega]; rfl
theorem get5 {P J : Lo} {x y c d : AO} : (((P ++ [x]) ++ [y]) ++ (c :: d :: J))[P.length + 3]? = some d := by
  rw [List.append_assoc, List.append_assoc, List.getElem?_append_right (by omega), show P.length + 3 - P.length = 3 by omega]; rfl
theorem rowOk.set : ∀ {r ks : List Int} {i : Nat} {x k : Int}, rowOk r ks → ks[i]? = some k → 0 ≤ x → x < k → rowOk (r.set i x) ks
  | [], [], _, _, _, _, h, _, _ => by simp at h
  | y :: r, l :: ks, 0, x, k, h, e, h0, h1 => by
    simp at e; subst e
    exact ⟨⟨h0, h1⟩, h.2⟩
  | y :: r, l :: ks, i + 1, x, k, h, e, h0, h1 => ⟨h.1, rowOk.set (i := i) h.2 (by simpa using e) h0 h1⟩
  | [], _ :: _, _, _, _, h, _, _, _ => h.elim
  | _ :: _, [], _, _, _, h, _, _, _ => h.elim
theorem get3c {P J : Lo} {x y z : AO} : (((P ++ [x]) ++ [y]) ++ J)[(P ++ [z]).length]? = some y := by
  have e : (P ++ [z]).length = (P ++ [x]).length := by simp
  rw [e]; exact get3b
theorem mrgS2 {ns : List Int} {c cell c' cell' : Int} {r J : Lo} : mrg [0] ((stA ns c cell :: r) ++ J) [stA ns c' cell'] = (stA ns c' cell' :: r) ++ J := by
  show mrg [0] (stA ns c cell :: (r ++ J)) [stA ns c' cell'] = _
  rw [mrgS]; rfl
theorem first_at {α : Type} [DecidableEq α] {x : α} : ∀ {l : List α}, x ∈ l → ∃ j : Nat, l[j]? = some x ∧ ∀ m : Nat, m < j → l[m]? ≠ some x
  | [], h => by cases h
  | y :: l, h => by
    by_cases e : y = x
    · exact ⟨0, by rw [e]; rfl, fun m hm => absurd hm (Nat.not_lt_zero m)⟩
    · obtain ⟨j, h1, h2⟩ := first_at ((List.mem_cons.mp h).resolve_left fun z => e z.symm)
      refine ⟨j + 1, by simpa using h1, fun m hm => ?_⟩
      cases m with
      | zero => simpa using e
      | succ m => simpa using h2 m (by omega)
theorem agr_len {fr : List Int} {ts : List Tab} {i j : Nat} {r : List Int} (h6 : fr.length ≤ 6) (ht : ∀ t ∈ ts, TOk fr t) (h : agr fr ts = some (i, j, r)) : r.length ≤ 6 := by
  unfold agr outI at h
  obtain ⟨a, _, h1⟩ := List.exists_of_findSome?_eq_some h
  unfold inJ at h1
  obtain ⟨b, _, h2⟩ := List.exists_of_findSome?_eq_some h1
  unfold inG at h2
  split at h2
  · rename_i t u e1 e2
    cases q : unl fr t u with
    | none => rw [q] at h2; cases h2
    | some r' =>
      rw [q] at h2
      simp only [Option.map_some, Option.some.injEq, Prod.mk.injEq] at h2
      obtain ⟨_, _, rfl⟩ := h2
      unfold unl at q
      have := rowsR_mem.mp (List.mem_of_find?_eq_some q)
      rw [this.len, kindsR_len]
      have h3 := ov_len (g := t.1) (h := u.1)
      have h4 := (ht t (List.mem_of_getElem? e1)).gr.len
      omega
  · cases h2
theorem shAg {x : Option Agr} : Sh 2 (agD x) := by
  rcases x with _ | ⟨i, j, r⟩
  · exact Sh.none
  · refine Sh.tuple fun d hd => ?_
    rcases List.mem_cons.mp hd with rfl | hd
    · exact Sh.int
    · rcases List.mem_cons.mp hd with rfl | hd
      · exact Sh.int
      · simp at hd; subst hd; exact Sh.ntsT
theorem TabsOk.tok {fr : List Int} {w : Int} {ts : List Tab} (h : FamOk fr w ts) : ∀ t ∈ ts, TOk fr t := fun t ht => ⟨(h.tabs t ht).gr, (h.tabs t ht).len⟩
end GM

/-! GFa: the filling as own cells. -/
namespace GM
open GL PySem L2 SX
def optD : Option Nat → D
  | none => .none
  | some k => .int (k : Nat)
abbrev lnsD (ls : List (List Int)) : List D := ls.map fun l => D.list (nts l)
abbrev ownI (os : List Nat) : List Int := os.map fun (n : Nat) => (n : Int)
def filF (b : Nat) (goal : List Int) (s : Int) : List (Str × GL.A) := [("lines", .own (b + 1)), ("goal", .d (.list (nts goal))), ("owners", .own (b + 2)), ("scale", .d (.int s))]
theorem filF_l {b goal s} : (filF b goal s).lookup ("lines" : Str) = some (.own (b + 1)) := by rfl
theorem filF_g {b goal s} : (filF b goal s).lookup ("goal" : Str) = some (.d (.list (nts goal))) := by rfl
theorem filF_o {b goal s} : (filF b goal s).lookup ("owners" : Str) = some (.own (b + 2)) := by rfl
theorem filF_s {b goal s} : (filF b goal s).lookup ("scale" : Str) = some (.d (.int s)) := by rfl
theorem filF_pg {b goal goal' s} : putFA "goal" (.d (.list (nts goal'))) (filF b goal s) = filF b goal' s := by rfl
theorem filF_ps {b goal s s'} : putFA "scale" (.d (.int s')) (filF b goal s) = filF b goal s' := by rfl
def filS (C : Addr) (P : Lo) (lines : List (List Int)) (goal : List Int) (os : List Nat) (s : Int) : Lo := P ++ [.obj C (filF P.length goal s), .lst ((lnsD lines).map .d), .lst ((nts (ownI os)).map .d)]
section
variable {C : Addr} {P J : Lo} {lines lines' : List (List Int)} {goal goal' : List Int} {os os' : List Nat} {s s' : Int}
theorem fil0 : (filS C P lines goal os s)[P.length]? = some (.obj C (filF P.length goal s)) := by
  unfold filS; rw [List.getElem?_append_right (Nat.le_refl _), Nat.sub_self]; rfl
theorem fil1 : (filS C P lines goal os s)[P.length + 1]? = some (.lst ((lnsD lines).map .d)) := by
  unfold filS; rw [List.getElem?_append_right (by omega), show P.length + 1 - P.length = 1 by omega]; rfl
theorem fil2 : (filS C P lines goal os s)[P.length + 2]? = some (.lst ((nts (ownI os)).map .d)) := by
  unfold filS; rw [List.getElem?_append_right (by omega), show P.length + 2 - P.length = 2 by omega]; rfl
theorem fil_len : (filS C P lines goal os s).length = P.length + 3 := by simp [filS]
theorem fil_p0 : (filS C P lines goal os s).set P.length (.obj C (filF P.length goal' s')) = filS C P lines goal' os s' := by
  unfold filS; rw [List.set_append_right _ _ (Nat.le_refl _), Nat.sub_self]; rfl
theorem fil_p1 : (filS C P lines goal os s).set (P.length + 1) (.lst ((lnsD lines').map .d)) = filS C P lines' goal os s := by
  unfold filS; rw [List.set_append_right _ _ (by omega), show P.length + 1 - P.length = 1 by omega]; rfl
theorem fil_p2 : (filS C P lines goal os s).set (P.length + 2) (.lst ((nts (ownI os')).map .d)) = filS C P lines goal os' s := by
  unfold filS; rw [List.set_append_right _ _ (by omega), show P.length + 2 - P.length = 2 by omega]; rfl
theorem fil_line {k : Nat} {l : List Int} (h : lines[k]? = some l) : itemA (filS C P lines goal os s) (.own (P.length + 1)) (.d (.int (k : Nat))) = some (.d (.list (nts l))) :=
  item_a (sq_own fil1) (by rw [List.getElem?_map, List.getElem?_map, h]; rfl)
theorem fil_own {k : Nat} {o : Nat} (h : os[k]? = some o) : itemA (filS C P lines goal os s) (.own (P.length + 2)) (.d (.int (k : Nat))) = some (.d (.int (o : Nat))) :=
  item_a (sq_own fil2) (by rw [List.getElem?_map, List.getElem?_map, List.getElem?_map, h]; rfl)
end
theorem itL {L : Lo} {l : List Int} {j : Nat} (h : j < l.length) : itemA L (.d (.list (nts l))) (.d (.int (j : Nat))) = some (.d (.int (l.getD j 0))) :=
  item_int (a := .d (.list (nts l))) rfl (by rw [List.getD_eq_getElem?_getD, List.getElem?_eq_getElem h]; rfl)
theorem itLast {L : Lo} {l : List Int} (h : 0 < l.length) : itemA L (.d (.list (nts l))) (.d (.int (-1))) = some (.d (.int (l.getD (l.length - 1) 0))) := by
  obtain ⟨l', x, rfl⟩ : ∃ l' x, l = l' ++ [x] := ⟨l.dropLast, l.getLast (List.length_pos_iff.mp h), (List.dropLast_concat_getLast _).symm⟩
  unfold itemA
  show atI ((nts (l' ++ [x])).map GL.A.d) (-1) = _
  rw [show (nts (l' ++ [x])).map GL.A.d = (nts l').map GL.A.d ++ [.d (.int x)] by simp [nts], atI_last]
  simp
theorem lnsD_set {ls : List (List Int)} {i : Nat} {l : List Int} : ((lnsD ls).map GL.A.d).set i (.d (.list (nts l))) = (lnsD (ls.set i l)).map .d := by
  show _ = ((ls.set i l).map fun l => D.list (nts l)).map GL.A.d
  rw [List.map_set, List.map_set]
theorem ownI_set {os : List Nat} {i c : Nat} : ((nts (ownI os)).map GL.A.d).set i (.d (.int (c : Nat))) = (nts (ownI (os.set i c))).map .d := by
  rw [nts_set]
  show _ = (nts ((os.set i c).map fun (n : Nat) => (n : Int))).map GL.A.d
  rw [List.map_set]
/-- no number of it is too great -/
def Bd (x : Int) : Prop := x.natAbs < 2 ^ 4000
theorem bd_mul {x y : Int} (hx : Bd x) (hy : Bd y) : CMulW x y := wide_mul hx hy (by decide) (by decide) (by decide)
theorem bd_div {x y : Int} (h : 0 < y) (hy : Bd y) : CDivW x y := wide_div h hy (by decide) (by decide)
theorem bd_getD {l : List Int} (h : ∀ x ∈ l, Bd x) (j : Nat) : Bd (l.getD j 0) := by
  rw [List.getD_eq_getElem?_getD]
  by_cases q : j < l.length
  · rw [List.getElem?_eq_getElem q]; exact h _ (List.getElem_mem q)
  · rw [List.getElem?_eq_none (by omega)]; show (0 : Int).natAbs < 2 ^ 4000; exact Nat.pow_pos (by decide)
structure FilOk (lines : List (List Int)) (goal : List Int) (os : List Nat) (s : Int) (w : Nat) : Prop where
  len : lines.length = os.length
  m : os.length ≤ 1000
  wb : w ≤ 900
  ll : ∀ l ∈ lines, l.length = w + 1
  lg : goal.length = w + 1
  bl : ∀ l ∈ lines, ∀ x ∈ l, Bd x
  bg : ∀ x ∈ goal, Bd x
  bs : Bd s
  pos : 0 < s
theorem come_at {goal : List Int} {c : Nat} (h1 : c < goal.length - 1) (h2 : goal.getD c 0 < 0) (h3 : ∀ j, j < c → 0 ≤ goal.getD j 0) : comeF goal = some c := by
  cases q : comeF goal with
  | none => have := come_none q c h1; omega
  | some d =>
    obtain ⟨q1, q2, q3⟩ := come_some q
    rcases Nat.lt_trichotomy c d with y | y | y
    · have := q3 c y; omega
    · rw [y]
    · have := h3 d y; omega
theorem come_no {goal : List Int} (h : ∀ j, j < goal.length - 1 → 0 ≤ goal.getD j 0) : comeF goal = none := by
  cases q : comeF goal with
  | none => rfl
  | some d =>
    obtain ⟨q1, q2, q3⟩ := come_some q
    have := h d q1; omega
end GM

/-! GFb: numbers on rows under caps, as a table. -/
namespace GM
open GL PySem L2 SX
def Mx (mems : List (List Int)) (caps : List Int) (k j : Nat) : Int :=
  if j < mems.length then (if (k : Int) ∈ mems.getD j [] then 1 else 0)
  else if j < mems.length + caps.length then (if j - mems.length = k then 1 else 0)
  else caps.getD k 0
def gx (w : List Int) (j : Nat) : Int := if j < w.length then - w.getD j 0 else 0
structure Pr (mems : List (List Int)) (caps w : List Int) : Prop where
  n64 : mems.length ≤ 64
  m64 : caps.length ≤ 64
  m1 : 1 ≤ caps.length
  wl : w.length = mems.length
  cnn : ∀ c ∈ caps, 0 ≤ c ∧ c ≤ 1000000000000000
  wb : ∀ x ∈ w, x.natAbs < 2 ^ 300
  hit : ∀ mem ∈ mems, ∃ k : Nat, k < caps.length ∧ (k : Int) ∈ mem
section
variable {mems : List (List Int)} {caps w : List Int} {k j : Nat}
theorem Mx_row (h : j < mems.length) : Mx mems caps k j = if (k : Int) ∈ mems.getD j [] then 1 else 0 := if_pos h
theorem Mx_un (h : j < caps.length) : Mx mems caps k (mems.length + j) = if k = j then 1 else 0 := by
  unfold Mx
  rw [if_neg (by omega), if_pos (by omega), show mems.length + j - mems.length = j by omega]
  by_cases e : j = k
  · rw [if_pos e, if_pos e.symm]
  · rw [if_neg e, if_neg (fun z => e z.symm)]
theorem Mx_cap : Mx mems caps k (mems.length + caps.length) = caps.getD k 0 := by
  unfold Mx
  rw [if_neg (by omega), if_neg (by omega)]
theorem Mx_Un : Un caps.length mems.length (Mx mems caps) := fun k l hk hl => Mx_un hl
theorem Mx_nn (h : j < mems.length + caps.length) : 0 ≤ Mx mems caps k j := by
  by_cases h1 : j < mems.length
  · rw [Mx_row h1]; split <;> decide
  · rw [show j = mems.length + (j - mems.length) by omega, Mx_un (by omega)]; split <;> decide
theorem Mx_nz (p : Pr mems caps w) (h : j < mems.length + caps.length) : ∃ k, k < caps.length ∧ 0 < Mx mems caps k j := by
  by_cases h1 : j < mems.length
  · obtain ⟨k, hk, hm⟩ := p.hit (mems.getD j []) (by rw [List.getD_eq_getElem?_getD, List.getElem?_eq_getElem h1]; exact List.getElem_mem h1)
    exact ⟨k, hk, by rw [Mx_row h1, if_pos hm]; decide⟩
  · refine ⟨j - mems.length, by omega, ?_⟩
    rw [show j = mems.length + (j - mems.length) by omega, Mx_un (by omega), if_pos (by omega)]; decide
theorem gx_w (p : Pr mems caps w) (h : j < mems.length) : gx w j = - w.getD j 0 := if_pos (by rw [p.wl]; exact h)
theorem gx_0 (p : Pr mems caps w) : gx w (mems.length + k) = 0 := if_neg (by rw [p.wl]; omega)
theorem caps_bd (p : Pr mems caps w) (k : Nat) : 0 ≤ caps.getD k 0 ∧ caps.getD k 0 ≤ 1000000000000000 := by
  rw [List.getD_eq_getElem?_getD]
  by_cases h : k < caps.length
  · rw [List.getElem?_eq_getElem h]; exact p.cnn _ (List.getElem_mem h)
  · rw [List.getElem?_eq_none (by omega)]; exact ⟨Int.le_refl 0, by show (0 : Int) ≤ _; decide⟩
theorem sm_const : ∀ {n : Nat} {c : Int}, sm n (fun _ => c) = n * c
  | 0, c => by simp [sm]
  | n + 1, c => by
    show sm n (fun _ => c) + c = _
    rw [sm_const, Int.natCast_add, Int.add_mul]; simp
theorem nrm_row (p : Pr mems caps w) (h : j < mems.length + caps.length) : nrm caps.length (col (Mx mems caps) j) ≤ ((64 : Nat) : Int) := by
  have : nrm caps.length (col (Mx mems caps) j) ≤ sm caps.length fun _ => 1 := sm_le fun k hk => by
    show ((Mx mems caps k j).natAbs : Int) ≤ 1
    by_cases h1 : j < mems.length
    · rw [Mx_row h1]; split <;> decide
    · rw [show j = mems.length + (j - mems.length) by omega, Mx_un (by omega)]; split <;> decide
  rw [sm_const] at this
  have := p.m64
  omega
theorem nrm_cap (p : Pr mems caps w) : nrm caps.length (col (Mx mems caps) (mems.length + caps.length)) ≤ ((64000000000000000 : Nat) : Int) := by
  have : nrm caps.length (col (Mx mems caps) (mems.length + caps.length)) ≤ sm caps.length fun _ => 1000000000000000 := sm_le fun k hk => by
    show ((Mx mems caps k (mems.length + caps.length)).natAbs : Int) ≤ 1000000000000000
    rw [Mx_cap]
    have := caps_bd p k; omega
  rw [sm_const] at this
  have := p.m64
  omega
theorem two_le {a b : Nat} (h : a ≤ b) : 2 ^ a ≤ 2 ^ b := Nat.pow_le_pow_right (by decide) h
section
variable {os : List Nat} (p : Pr mems caps w) (f : Feas caps.length (mems.length + caps.length) (Mx mems caps) os)
include p f
theorem D_bd : (Dt caps.length (Mx mems caps) os).natAbs ≤ 2 ^ 450 := by
  have h := Dt_bd (C := 64) f.len fun i hi => nrm_row p (f.lt i hi)
  refine Nat.le_trans h ?_
  rw [show (64 : Nat) = 2 ^ 6 by decide, ← Nat.pow_mul]
  have := p.m64
  exact two_le (by omega)
theorem T_bd {i j : Nat} (hi : i < caps.length) (hj : j ≤ mems.length + caps.length) : (Tb caps.length (Mx mems caps) os i j).natAbs ≤ 2 ^ 450 := by
  have h := Tb_bd (C := 64) (B := 64000000000000000) (j := j) (M := Mx mems caps) f.len (fun i hi => nrm_row p (f.lt i hi)) (by
    rcases Nat.lt_or_ge j (mems.length + caps.length) with q | q
    · exact Int.le_trans (nrm_row p q) (by decide)
    · rw [show j = mems.length + caps.length by omega]; exact nrm_cap p) (by decide) hi
  refine Nat.le_trans h ?_
  rw [show (64 : Nat) ^ caps.length = 2 ^ (6 * caps.length) by rw [show (64 : Nat) = 2 ^ 6 by decide, ← Nat.pow_mul]]
  have e : 2 ^ (6 * caps.length) ≤ 2 ^ 384 := two_le (by have := p.m64; omega)
  refine Nat.le_trans (Nat.mul_le_mul e (show (64000000000000000 : Nat) ≤ 2 ^ 56 by decide)) ?_
  rw [← Nat.pow_add]
  exact two_le (by decide)
theorem g_bd (w : List Int) (hw : ∀ x ∈ w, x.natAbs < 2 ^ 300) (j : Nat) : (gx w j).natAbs ≤ 2 ^ 300 := by
  unfold gx
  split
  · rename_i h
    rw [List.getD_eq_getElem?_getD, List.getElem?_eq_getElem h]
    show (-w[j]).natAbs ≤ _
    rw [Int.natAbs_neg]
    exact Nat.le_of_lt (hw _ (List.getElem_mem h))
  · exact Nat.zero_le _
theorem G_bd {j : Nat} (hj : j ≤ mems.length + caps.length) : (Gl caps.length (Mx mems caps) (gx w) os j).natAbs ≤ 2 ^ 760 := by
  have h := Gl_bd (g := gx w) (D := 2 ^ 450) (G := 2 ^ 300) (j := j) (D_bd p f) (fun i hi => T_bd p f hi hj) (g_bd p f w p.wb j) fun i hi => g_bd p f w p.wb _
  refine Nat.le_trans h ?_
  have e : caps.length + 1 ≤ 2 ^ 7 := by have := p.m64; show _ ≤ 128; omega
  refine Nat.le_trans (Nat.mul_le_mul_right _ e) ?_
  rw [← Nat.pow_add, ← Nat.pow_add]
  exact two_le (by decide)
end
theorem bd_of {x : Int} {a : Nat} (h : x.natAbs ≤ 2 ^ a) (ha : a < 4000) : Bd x := Nat.lt_of_le_of_lt h (Nat.pow_lt_pow_right (by decide) ha)
theorem filOk {os : List Nat} (p : Pr mems caps w) (f : Feas caps.length (mems.length + caps.length) (Mx mems caps) os) :
    FilOk (linT caps.length (mems.length + caps.length) (Mx mems caps) os) (golT caps.length (mems.length + caps.length) (Mx mems caps) (gx w) os) os (Dt caps.length (Mx mems caps) os) (mems.length + caps.length) where
  len := by rw [linT_len, f.len]
  m := by rw [f.len]; have := p.m64; omega
  wb := by have := p.m64; have := p.n64; omega
  ll := fun l hl => by
    obtain ⟨i, _, rfl⟩ := List.mem_map.mp hl
    exact fl_len
  lg := fl_len
  bl := fun l hl x hx => by
    obtain ⟨i, hi, rfl⟩ := List.mem_map.mp hl
    obtain ⟨j, hj, rfl⟩ := fl_mem hx
    exact bd_of (T_bd p f (List.mem_range.mp hi) (by omega)) (by decide)
  bg := fun x hx => by
    obtain ⟨j, hj, rfl⟩ := fl_mem hx
    exact bd_of (G_bd p f (by omega)) (by decide)
  bs := bd_of (D_bd p f) (by decide)
  pos := f.pos
theorem feas0 (p : Pr mems caps w) : Feas caps.length (mems.length + caps.length) (Mx mems caps) (os0 caps.length mems.length) where
  len := os0_len
  pos := by rw [Dt_os0 Mx_Un]; decide
  cr := CR_os0 Mx_Un
  nn := fun i hi => by rw [Tb_os0 Mx_Un hi, Mx_cap]; exact (caps_bd p i).1
  lt := fun i hi => by rw [os0_get hi]; omega
/-- the lines at the start -/
def line0 (mems : List (List Int)) (caps : List Int) (k : Nat) : List Int := (mems.map fun mem => if (k : Int) ∈ mem then (1 : Int) else 0) ++ ((List.range caps.length).map fun j => if j = k then (1 : Int) else 0) ++ [caps.getD k 0]
def lin0 (mems : List (List Int)) (caps : List Int) : List (List Int) := (List.range caps.length).map (line0 mems caps)
def gol0 (caps w : List Int) : List Int := (w.map fun x => 0 - x) ++ List.replicate (caps.length + 1) 0
theorem lin0_eq (p : Pr mems caps w) : linT caps.length (mems.length + caps.length) (Mx mems caps) (os0 caps.length mems.length) = lin0 mems caps := by
  unfold linT lin0
  refine List.map_congr_left fun k hk => ?_
  have hk' := List.mem_range.mp hk
  refine List.ext_getElem? fun j => ?_
  by_cases h : j < mems.length + caps.length + 1
  · rw [fl_get h, Tb_os0 Mx_Un hk']
    unfold line0
    by_cases h1 : j < mems.length
    · rw [List.append_assoc, List.getElem?_append_left (by simpa using h1), List.getElem?_map, List.getElem?_eq_getElem h1, Mx_row h1, List.getD_eq_getElem?_getD, List.getElem?_eq_getElem h1]; rfl
    · by_cases h2 : j < mems.length + caps.length
      · rw [List.getElem?_append_left (by simp; omega), List.getElem?_append_right (by simp; omega), List.length_map, List.getElem?_map, List.getElem?_range (by omega)]
        unfold Mx
        rw [if_neg h1, if_pos h2]; rfl
      · rw [List.getElem?_append_right (by simp; omega)]
        have e : j = mems.length + caps.length := by omega
        subst e
        rw [Mx_cap]
        simp
  · rw [List.getElem?_eq_none (by rw [fl_len]; omega), List.getElem?_eq_none (by simp [line0]; omega)]
theorem gol0_eq (p : Pr mems caps w) : golT caps.length (mems.length + caps.length) (Mx mems caps) (gx w) (os0 caps.length mems.length) = gol0 caps w := by
  unfold golT gol0
  refine List.ext_getElem? fun j => ?_
  by_cases h : j < mems.length + caps.length + 1
  · rw [fl_get h, Gl_os0 Mx_Un (fun k hk => gx_0 p)]
    unfold gx
    by_cases h1 : j < w.length
    · rw [if_pos h1, List.getElem?_append_left (by simpa using h1), List.getElem?_map, List.getElem?_eq_getElem h1, List.getD_eq_getElem?_getD, List.getElem?_eq_getElem h1]; simp
    · rw [if_neg h1, List.getElem?_append_right (by simp; omega), List.length_map, List.getElem?_replicate, if_pos (by have := p.wl; omega)]
  · rw [List.getElem?_eq_none (by rw [fl_len]; omega), List.getElem?_eq_none (by simp; have := p.wl; omega)]
/-- what the greatest sum is shown by -/
structure Best (mems : List (List Int)) (caps w : List Int) (s : Int) (xs ps : List Int) : Prop where
  pos : 0 < s
  sb : Bd s
  xl : xs.length = mems.length
  pl : ps.length = caps.length
  xb : ∀ x ∈ xs, 0 ≤ x ∧ Bd x
  pb : ∀ x ∈ ps, 0 ≤ x ∧ Bd x
  opt : Opt caps.length mems.length (Mx mems caps) (fun j => w.getD j 0) s (fun j => xs.getD j 0) (fun k => ps.getD k 0)
theorem best {os : List Nat} (p : Pr mems caps w) (f : Feas caps.length (mems.length + caps.length) (Mx mems caps) os) (top : ∀ j, j < mems.length + caps.length → 0 ≤ Gl caps.length (Mx mems caps) (gx w) os j) :
    Best mems caps w (Dt caps.length (Mx mems caps) os) (fl mems.length (xv caps.length (mems.length + caps.length) (Mx mems caps) os)) (fl caps.length fun k => Gl caps.length (Mx mems caps) (gx w) os (mems.length + k)) where
  pos := f.pos
  sb := bd_of (D_bd p f) (by decide)
  xl := fl_len
  pl := fl_len
  xb := fun x hx => by
    obtain ⟨j, hj, rfl⟩ := fl_mem hx
    refine ⟨xv_nn f, ?_⟩
    by_cases h : ∃ i, i < caps.length ∧ ow os i = j
    · obtain ⟨i, hi, rfl⟩ := h
      rw [xv_at f hi]
      exact bd_of (T_bd p f hi (Nat.le_refl _)) (by decide)
    · rw [xv_off fun i hi e => h ⟨i, hi, e⟩]
      exact bd_of (a := 0) (Nat.zero_le _) (by decide)
  pb := fun x hx => by
    obtain ⟨k, hk, rfl⟩ := fl_mem hx
    exact ⟨top _ (by omega), bd_of (G_bd p f (by omega)) (by decide)⟩
  opt := by
    have o := SX.opt (n := mems.length) (g := gx w) Mx_Un (w := fun j => w.getD j 0) (fun j hj => gx_w p hj) (fun k _ => gx_0 p) (gx_0 p) (fun k _ j hj => Mx_nn hj) f top
    have ex : ∀ j, j < mems.length → (fl mems.length (xv caps.length (mems.length + caps.length) (Mx mems caps) os)).getD j 0 = xv caps.length (mems.length + caps.length) (Mx mems caps) os j := fun j hj => fl_getD hj
    have ep : ∀ k, k < caps.length → (fl caps.length fun k => Gl caps.length (Mx mems caps) (gx w) os (mems.length + k)).getD k 0 = Gl caps.length (Mx mems caps) (gx w) os (mems.length + k) := fun k hk => fl_getD hk
    refine ⟨o.pos, fun j hj => by rw [ex j hj]; exact o.xn j hj, fun k hk => by rw [ep k hk]; exact o.pn k hk, fun k hk => ?_, fun j hj => ?_, ?_⟩
    · rw [sm_congr fun j hj => by rw [ex j hj]]; exact o.caps k hk
    · rw [sm_congr fun k hk => by rw [ep k hk]]; exact o.cover j hj
    · rw [sm_congr fun j hj => by rw [ex j hj], o.same]
      exact sm_congr fun k hk => by rw [ep k hk]
end
end GM

/-! GLz: list(d.values()) of a dict with tuple keys; min of two numbers. -/
namespace GL
open PySem PySem.Spec PyProof.Rows L2
/-- the view d.values() at p -/
def valsO (p d : Addr) : HO := .ext fun h => h.IsValuesView p d
theorem valsO_ok {P : Program} {w : World} {H : Hp} {h : Heap} {p d : Addr} (e : h.get? p = some { cls := .type "dict_values", data := .fields #[.ref d] }) : ObjOk P w H h p (valsO p d) :=
  ⟨⟨_, e, rfl, rfl⟩, ⟨_, e⟩, fun h1 h2 x k => let ⟨o, ho, r⟩ := x; ⟨o, k o ho, r⟩⟩
section
variable {X : Cx}
def rValsT : V → List V → Hp → VK → Prop := fun x xs H Q => ∃ (a : Addr) (kvs : List (List L2.Key × V)), x = .ref a ∧ xs = [] ∧ H a = some (.dT kvs) ∧ ∀ p, H p = none → Q (.ref p) (upd H p (valsO p a))
theorem mt_valsT : MtR X "dict.values" rValsT := by
  intro pins s σ H x xs v us Q I rx rxs h
  obtain ⟨a, kvs, rfl, rfl, ha, q⟩ := h
  cases rx
  cases rxs
  obtain ⟨z, hd, xs', rel, o, es, ep, ho, hx, hdat, _⟩ := dt_of I.hok ha
  have hm : s.heap.DictRaw a es ep := ⟨o, ho, hx, hdat⟩
  have hf : H s.heap.objs.size = none := I.hok.fresh (Nat.le_refl _)
  exact call_meetsIn PySem.F.slot_dict_values hm.typeIs PySem.F.entry_dict_values (PySem.F.args_dict_values_1 _) (meets_dict_values_raw a hd)
    ⟨⟨es, ep, hm⟩, ⟨.ref s.heap.objs.size, upd H s.heap.objs.size (valsO s.heap.objs.size a), I.laid (t' := s.toks) (fun b u e => Heap.get?_push_of_some _ e) (Nat.le_refl _) (valsO_ok (Heap.get?_push_size _ rfl)), rfl, q _ hf⟩⟩
theorem call_list_vals (hc : X.calm = true) : CallR X (.type "list") (fun xs H Q => ∃ p d kvs, xs = [V.ref p] ∧ H p = some (valsO p d) ∧ H d = some (.dT kvs) ∧ ∀ q, H q = none → Q (.ref q) (upd H q (.lst (kvs.map (·.2))))) := by
  intro pins s σ H xs us Q I r h
  obtain ⟨p, d, kvs, rfl, hp, hd, q⟩ := h
  obtain ⟨u, rfl, rx⟩ := r.one
  cases rx
  obtain ⟨z, hs, ks, pr, o, es, ep, ho, hx, hdt, he, hn⟩ := (show ObjOk X.prog X.w H s.heap d (.dT kvs) from I.hok d _ hd)
  obtain ⟨hv, _, _⟩ := (show ObjOk X.prog X.w H s.heap p (valsO p d) from I.hok p _ hp)
  have l1 : es.size = ks.length := size_of_entries he
  have l2 : kvs.length = ks.length := Paired.length pr
  refine PySem.W.kdl_call (KdlSrc.rawValues (es := es) (ep := ep)) (I.ok.hd hc) ⟨hv, ⟨o, ho, hx, hdt⟩⟩ (by omega) fun h' tk acc' c' kp e it => ?_
  have rv : Vals (kvs.map (·.2)) acc'.toList := by
    have hl : (kvs.map (·.2)).length = acc'.toList.length := by
      have e1 : acc'.toList.length = acc'.size := by simp
      have := it.1
      rw [List.length_map]; omega
    refine vals_of_at hl fun j x w h1 h2 => ?_
    rw [List.getElem?_map] at h1
    cases hk : kvs[j]? with
    | none => rw [hk] at h1; cases h1
    | some kv =>
      rw [hk] at h1
      cases h1
      obtain ⟨hi, hw⟩ := it.2 j w (by rw [← Array.getElem?_toList]; exact h2)
      obtain ⟨b, hb, e1, e2, e3⟩ := paired_get pr (i := j) hk
      have qe := entry_at he j
      rw [hb] at qe
      rw [Array.getElem?_eq_getElem hi] at qe
      have e4 : es[j] = _ := Option.some.inj qe
      rw [hw, e4]
      exact e3
  have hz : (kvs.map (·.2)).length ≤ sizeLine := by rw [List.length_map]; exact z
  refine ⟨.ref s.heap.objs.size, _, I.laid (t' := tk) (o := .lst (kvs.map (·.2))) kp (Nat.le_refl _) ?_, rfl, q _ (I.hok.fresh (Nat.le_refl _))⟩
  exact ⟨hz, acc'.toList, c', rv, by rw [Array.toArray_toList]; exact e⟩
/-- list(d.values()) -/
def gLVals (go : GTE) : GTE := fun s L R => go s L fun o L1 => onOwn o fun n => ∃ kvs, L1[n]? = some (.dT kvs) ∧ R (.own L1.length) (L1 ++ [.lst (kvs.map (·.2))])
theorem pair_snd {K : PySem.W.Frag} {W : Wd} : ∀ {kvs : List (List L2.Key × A)} {ks : List (List L2.Key × V)}, Paired (fun p q => p.1 = q.1 ∧ At K W p.2 q.2) kvs ks → AtL K W (kvs.map (·.2)) (ks.map (·.2))
  | [], _, h => by cases h; exact .nil
  | k :: r, _, h => by
    cases h with
    | cons h1 h2 => exact .cons h1.2 (pair_snd h2)
variable {o : Expr} {go : GTE} {p pos apos cpos : Pos}
theorem g_lvals (hc : X.calm = true) (hg : Gl X "list") (hm : X.mg "list" = none) (ho : GE X o go)
    (hbase : attributeBase o "values" X.env (eval o X.env) = eval o X.env := by rfl) (hline : (apos.endLine == cpos.line) = true := by rfl)
    (hs : starEach [.Call (.Attribute o "values" apos) [] [] cpos] X.env = (false, eval (.Call (.Attribute o "values" apos) [] [] cpos) X.env) :: starEach [] X.env := by rfl)
    (hpl : (backTo pos (starEach [] X.env)).any (·.1) = false := by rfl) : GE X (.Call (.Name "list" p) [.Call (.Attribute o "values" apos) [] [] cpos] [] pos) (gLVals go) :=
  ⟨pe_imp (pe_callTy (call_list_vals hc) hg hm (by decide +kernel) (pa_cons (pe_bm0 PySem.F.plainAttrs_dict PySem.F.slot_dict_values PySem.F.type_dict_values mt_valsT ho.pe hbase hline) pa_nil hs) (by decide) (by decide) hs hpl) fun σ H Q h => by
    obtain ⟨W, s, R, e, ok, ats, h, fin⟩ := h
    refine ⟨W, s, _, e, ok, ats, h, fun o W1 v q g1 ok1 at1 => ?_⟩
    obtain ⟨n, rfl, kvs, hn, q2⟩ := onOwn_el q
    obtain ⟨rfl, hlt⟩ := at1.own_iff
    obtain ⟨h', e1, ⟨ks, rfl, hp⟩, e2⟩ := ok1.own n _ hn (by intro z; cases z)
    refine ⟨.inr (.inr (.inl ⟨rfl, .inr ⟨_, e1⟩⟩)), _, _, rfl, rfl, e1, fun p hp0 => ?_⟩
    have g2 := Wd.frz_grow ok1 hp0 (valsO p (W1.ρ n))
    have ok2 := Wd.frz_ok ok1 hp0 (valsO p (W1.ρ n))
    have ne : W1.ρ n ≠ p := fun z => by rw [z, hp0] at e1; cases e1
    refine ⟨p, _, ks, rfl, upd_same, by rw [upd_ne ne]; exact e1, fun q hq => ?_⟩
    have hp2 := pair_snd (hp)
    exact fin _ ((W1.frz p (valsO p (W1.ρ n))).new q (.lst (kvs.map (·.2))) (.lst (ks.map (·.2)))) _ q2 (g1.trans (g2.trans (Wd.new_grow ok2 hq _ _))) (Wd.new_ok ok2 hq ⟨_, rfl, hp2.mono g2⟩) (Wd.new_own _ _)⟩
/-- len of a dict with tuple keys -/
def gLenT : GC := fun as L R => on1 as fun a => onOwn a fun n => ∃ kvs, L[n]? = some (.dT kvs) ∧ R (.d (.int ((kvs.length : Nat) : Int))) L
theorem k_lenT : CallG X (.builtin "len") gLenT := callr_imp call_len_dT fun vs H Q h => by
  obtain ⟨W, as, R, e, ok, ats, h0, fin⟩ := h
  obtain ⟨a, ea, h1⟩ := on1_el h0
  obtain ⟨n, en, kvs, hn, h2⟩ := onOwn_el h1
  subst ea e en
  obtain ⟨v, rfl, a1⟩ := ats.one
  obtain ⟨rfl, hlt⟩ := a1.own_iff
  obtain ⟨h', e1, ⟨ks, rfl, hp⟩, e2⟩ := ok.own n _ hn (by intro z; cases z)
  exact ⟨_, ks, rfl, e1, by rw [← Paired.length hp]; exact fin _ W _ h2 Grow.refl ok (.d (.int _))⟩
/-- min(a, b) -/
def gMin2 : GC := fun as L R => on2 as fun a b => onI a fun i => onI b fun j => R (.d (.int (if j < i then j else i))) L
theorem k_min2 (hc : X.calm = true) : CallG X (.builtin "min") gMin2 := callr_imp (call_min2 hc) fun vs H Q h => by
  obtain ⟨W, as, R, e, ok, ats, h0, fin⟩ := h
  obtain ⟨a, b, ea, h1⟩ := on2_el h0
  obtain ⟨i, ei, h2⟩ := onI_el h1
  obtain ⟨j, ej, h3⟩ := onI_el h2
  subst ea e ei ej
  obtain ⟨v, u, rfl, a1, a2⟩ := ats.two
  exact ⟨i, j, by rw [a1.int, a2.int], fin _ W _ h3 Grow.refl ok (.d (.int _))⟩
end
/-- a call that hands over own cells picked at the call -/
def gCallE (asp : ASp) (gs : GTA) : GTE := fun s L R => gs s L fun as L1 => ∃ (f : List Nat) (asc : List A) (Lc : Lo), as = A.renL (ren f L1.length) asc ∧ PassOk f L1 Lc ∧ asp asc Lc (fun a L' => R (a.ren (ren f L1.length)) (mrg f L1 L')) (fun _ _ _ => False)
section
variable {X : Cx} {j k : Nat} {ps : List Str} {asp : ASp} {x : Str} {p pos : Pos} {e : Expr} {es : List Expr} {gs : GTA}
theorem g_clE (C : Cl X.prog X.w X.K X.mg X.base j x ps asp) (hr : Room k X.A) (hg : Gl X x) (ha : GA X (e :: es) gs) (hjk : j ≤ k := by decide) (hdb : (x == ("__debug__" : Str)) = false := by decide)
    (he : starEach (e :: es) X.env = (false, eval e X.env) :: starEach es X.env := by rfl) (hpl : (backTo pos (starEach es X.env)).any (·.1) = false := by rfl) : GE X (.Call (.Name x p) (e :: es) [] pos) (gCallE asp gs) := by
  obtain ⟨fa, fd, F, hm, hk, hb⟩ := C
  have hr := hr.mono hjk
  exact
  ⟨pe_imp (pe_call F hr hg hm hk hb .nil pass0 ha.pa hdb he hpl) fun σ H Q h => by
    obtain ⟨W, s, R, e, ok, ats, h, fin⟩ := h
    refine ⟨W, s, _, e, ok, ats, h, fun as W1 vs q g1 ok1 at1 => ?_⟩
    obtain ⟨f, asc, Lc, ea, hp, q⟩ := q
    subst ea
    rw [List.append_nil]
    refine ⟨W1.sub f Lc, asc, _, _, rfl, Wd.sub_ok ok1 hp, renL_of (W := W1) (W' := W1.sub f Lc) (fun _ _ h => h) (Wd.sub_back hp) _ _ at1, q, fun a Wc v q2 g2 okc atc => ?_, fun _ _ _ _ z => z.elim⟩
    exact fin _ (W1.back f Wc) v q2 (g1.trans (Wd.back_grow ok1 hp g2)) (Wd.back_ok ok1 hp g2 okc) (Wd.back_at hp g2 atc)⟩
end
end GL

/-! GPa: parts of families: rows' places, numbers and prices, what the greatest sum is for them. -/
namespace GM
open GL PySem L2 SX
theorem sm_app {a : Nat} {f : Nat → Int} : ∀ b : Nat, sm (a + b) f = sm a f + sm b fun i => f (a + i)
  | 0 => by show sm a f = sm a f + 0; omega
  | b + 1 => by
    show sm (a + b) f + f (a + b) = sm a f + (sm b (fun i => f (a + i)) + f (a + b))
    rw [sm_app b]; omega
/-- how many numbers stand ahead -/
def off (ls : List Nat) (k : Nat) : Nat := (ls.take k).sum
theorem off_0 {ls : List Nat} : off ls 0 = 0 := rfl
theorem off_succ {ls : List Nat} {k : Nat} (h : k < ls.length) : off ls (k + 1) = off ls k + ls.getD k 0 := by
  unfold off
  rw [List.take_add_one, List.getElem?_eq_getElem h, List.sum_append, List.getD_eq_getElem?_getD, List.getElem?_eq_getElem h]
  simp
theorem off_all {ls : List Nat} : off ls ls.length = ls.sum := by unfold off; rw [List.take_length]
theorem off_mono {ls : List Nat} {k : Nat} : ∀ d : Nat, k + d ≤ ls.length → off ls k ≤ off ls (k + d)
  | 0, _ => Nat.le_refl _
  | d + 1, h => by
    have h1 := off_mono (ls := ls) (k := k) d (by omega)
    have h2 := off_succ (ls := ls) (k := k + d) (by omega)
    rw [← Nat.add_assoc, h2]; omega
theorem off_lt {ls : List Nat} {k l : Nat} (hl : l < ls.length) (h : k < l) : off ls k + ls.getD k 0 ≤ off ls l := by
  rw [← off_succ (by omega)]
  have := off_mono (ls := ls) (k := k + 1) (l - (k + 1)) (by omega)
  rw [show k + 1 + (l - (k + 1)) = l by omega] at this
  exact this
theorem off_le {ls : List Nat} {k : Nat} (h : k < ls.length) : off ls k + ls.getD k 0 ≤ ls.sum := by
  rw [← off_succ h, ← off_all]
  have := off_mono (ls := ls) (k := k + 1) (ls.length - (k + 1)) (by omega)
  rw [show k + 1 + (ls.length - (k + 1)) = ls.length by omega] at this
  exact this
theorem off_inj {ls : List Nat} {k l i j : Nat} (hk : k < ls.length) (hl : l < ls.length) (hi : i < ls.getD k 0) (hj : j < ls.getD l 0) (e : off ls k + i = off ls l + j) : k = l ∧ i = j := by
  rcases Nat.lt_trichotomy k l with h | h | h
  · have := off_lt hl h; omega
  · subst h; exact ⟨rfl, by omega⟩
  · have := off_lt hk h; omega
theorem sm_offs {ls : List Nat} {f : Nat → Int} : ∀ K : Nat, K ≤ ls.length → sm (off ls K) f = sm K fun k => sm (ls.getD k 0) fun j => f (off ls k + j)
  | 0, _ => rfl
  | K + 1, h => by
    rw [off_succ (by omega), sm_app, sm_offs K (by omega)]
    rfl
theorem sm_parts {ls : List Nat} {f : Nat → Int} : sm ls.sum f = sm ls.length fun k => sm (ls.getD k 0) fun j => f (off ls k + j) := by
  rw [← off_all]; exact sm_offs _ (Nat.le_refl _)
def tb (ts : List Tab) (k : Nat) : Tab := ts.getD k ([], [])
theorem tb_get {ts : List Tab} {k : Nat} (h : k < ts.length) : ts[k]? = some (tb ts k) := by
  unfold tb; rw [List.getD_eq_getElem?_getD, List.getElem?_eq_getElem h]; rfl
theorem tb_of {ts : List Tab} {k : Nat} {t : Tab} (h : ts[k]? = some t) : tb ts k = t := by
  unfold tb; rw [List.getD_eq_getElem?_getD, h]; rfl
theorem tb_mem {ts : List Tab} {k : Nat} (h : k < ts.length) : tb ts k ∈ ts := List.mem_of_getElem? (tb_get h)
def lens (ts : List Tab) : List Nat := ts.map fun t => t.2.length
theorem lens_len {ts : List Tab} : (lens ts).length = ts.length := by simp [lens]
theorem lens_get {ts : List Tab} {k : Nat} (h : k < ts.length) : (lens ts).getD k 0 = (tb ts k).2.length := by
  unfold lens; rw [List.getD_eq_getElem?_getD, List.getElem?_map, tb_get h]; rfl
def capsF (ts : List Tab) : List Int := ts.flatMap (·.2)
theorem capsF_len {ts : List Tab} : (capsF ts).length = (lens ts).sum := by simp [capsF, lens, List.length_flatMap]
theorem caps_get : ∀ {ts : List Tab} {k j : Nat}, k < ts.length → j < (tb ts k).2.length → (capsF ts)[off (lens ts) k + j]? = (tb ts k).2[j]?
  | t :: ts, 0, j, _, hj => by
    show (t.2 ++ capsF ts)[0 + j]? = t.2[j]?
    rw [Nat.zero_add]; exact List.getElem?_append_left hj
  | t :: ts, k + 1, j, h, hj => by
    have e : off (lens (t :: ts)) (k + 1) = t.2.length + off (lens ts) k := by simp [off, lens]
    show (t.2 ++ capsF ts)[off (lens (t :: ts)) (k + 1) + j]? = (tb ts k).2[j]?
    rw [e, List.getElem?_append_right (by omega), show t.2.length + off (lens ts) k + j - t.2.length = off (lens ts) k + j by omega]
    exact caps_get (by simpa using h) hj
/-- a row's place in a table -/
def plN (fr : List Int) (t : Tab) (r : List Int) : Nat := (rowsR (kindsR fr t.1)).idxOf (seenF (rgI fr.length) r t.1)
def plF (fr : List Int) (ts : List Tab) (r : List Int) : List Int := ts.map fun t => (plN fr t r : Int)
def stF (ts : List Tab) : List Int := (List.range (ts.length + 1)).map fun k => (off (lens ts) k : Int)
def memF (fr : List Int) (ts : List Tab) (r : List Int) : List Int := (List.range ts.length).map fun k => ((off (lens ts) k : Nat) : Int) + (plN fr (tb ts k) r : Nat)
def memsF (fr : List Int) (ts : List Tab) : List (List Int) := (rowsR fr).map (memF fr ts)
def rw_ (fr : List Int) (i : Nat) : List Int := (rowsR fr).getD i []
def prsF (ts : List Tab) (ps : List Int) : List (List Int) := (List.range ts.length).map fun k => (ps.drop (off (lens ts) k)).take (tb ts k).2.length
def pr2 (prs : List (List Int)) (k j : Nat) : Int := (prs.getD k []).getD j 0
/-- what numbers on the tables' rows come to on a row of all marks -/
def comeAt (fr : List Int) (ts : List Tab) (prs : List (List Int)) (r : List Int) : Int := sm ts.length fun k => pr2 prs k (plN fr (tb ts k) r)
def cmeF (fr : List Int) (ts : List Tab) (prs : List (List Int)) : List Int := (rowsR fr).map (comeAt fr ts prs)
/-- .. with the counts -/
def wcF (ts : List Tab) (prs : List (List Int)) : Int := sm ts.length fun k => sm (tb ts k).2.length fun j => pr2 prs k j * (tb ts k).2.getD j 0
/-- the sums of numbers on a table -/
def smsF (fr : List Int) (xs : List Int) (t : Tab) : List Int := sumsF (rgI fr.length) t.1 (rowsR fr) xs (rowsR (kindsR fr t.1))
theorem sumAt_sm {g p : List Int} {rs : List (List Int)} {xs r : List Int} (h : xs.length = rs.length) : sumAt g p rs xs r = sm rs.length fun i => if seenF g (rs.getD i []) p = r then xs.getD i 0 else 0 := by
  have go : ∀ i, i ≤ rs.length → sumAt g p (rs.take i) (xs.take i) r = sm i fun i => if seenF g (rs.getD i []) p = r then xs.getD i 0 else 0 := fun i => by
    induction i with
    | zero => intro _; rfl
    | succ i ih =>
      intro hi
      have e1 : rs[i]? = some (rs.getD i []) := by rw [List.getD_eq_getElem?_getD, List.getElem?_eq_getElem hi]; rfl
      have e2 : xs[i]? = some (xs.getD i 0) := by rw [List.getD_eq_getElem?_getD, List.getElem?_eq_getElem (by omega)]; rfl
      rw [sumAt_take e1 e2, ih (by omega)]
      show _ = sm i _ + (if seenF g (rs.getD i []) p = r then xs.getD i 0 else 0)
      by_cases hh : seenF g (rs.getD i []) p = r
      · rw [if_pos hh]
      · rw [if_neg hh]
  have := go rs.length (Nat.le_refl _)
  rw [List.take_length, ← h, List.take_length] at this
  rw [this, h]
theorem idx_iff {α : Type} [BEq α] [LawfulBEq α] {l : List α} (nd : l.Nodup) {x : α} (hx : x ∈ l) {j : Nat} {y : α} (hj : l[j]? = some y) : l.idxOf x = j ↔ x = y := by
  constructor
  · rintro rfl
    have h := List.getElem_idxOf (List.idxOf_lt_length_iff.mpr hx)
    rw [List.getElem?_eq_getElem (List.idxOf_lt_length_iff.mpr hx), h] at hj
    exact Option.some.inj hj
  · rintro rfl
    obtain ⟨h1, h2⟩ := List.getElem?_eq_some_iff.mp hj
    have := nd.idxOf_getElem j h1
    rw [h2] at this
    exact this
section
variable {fr : List Int} {w : Int} {ts : List Tab} {xs : List Int} {prs : List (List Int)}
theorem see_mem {t : Tab} {r : List Int} (ht : ∀ m ∈ t.1, 0 ≤ m ∧ m < (fr.length : Int)) (hr : r ∈ rowsR fr) : seenF (rgI fr.length) r t.1 ∈ rowsR (kindsR fr t.1) := by
  have h1 := rowsR_mem.mp hr
  rw [← kindsR_all fr] at h1
  exact rowsR_mem.mpr (seen_ok h1 fun m hm => rgI_mem.mpr (ht m hm))
theorem plN_lt {t : Tab} {r : List Int} (ht : TabOk fr w t) (hr : r ∈ rowsR fr) : plN fr t r < t.2.length := by
  rw [ht.len]; exact List.idxOf_lt_length_iff.mpr (see_mem ht.gr.mem hr)
theorem rw_mem {i : Nat} (h : i < (rowsR fr).length) : rw_ fr i ∈ rowsR fr := by
  unfold rw_; rw [List.getD_eq_getElem?_getD, List.getElem?_eq_getElem h]; exact List.getElem_mem h
theorem rw_get {i : Nat} (h : i < (rowsR fr).length) : (rowsR fr)[i]? = some (rw_ fr i) := by
  unfold rw_; rw [List.getD_eq_getElem?_getD, List.getElem?_eq_getElem h]; rfl
theorem all_n (ok : FrOk fr) : (rowsR fr).length ≤ 64 ∧ 0 < (rowsR fr).length := by
  have h2 := rowsR_len fr fun k hk => by have := ok.kinds k hk; omega
  have h1 := prod_bd (ks := fr) fun k hk => ⟨by have := ok.kinds k hk; omega, (ok.kinds k hk).2⟩
  have := ok.room
  omega
theorem lens_sum (fam : FamOk fr w ts) : (lens ts).sum ≤ 60 ∧ 0 < (lens ts).sum := by
  have e : lens ts = ts.map fun t => volR fr t.1 := List.map_congr_left fun t ht => (fam.tabs t ht).len
  refine ⟨by rw [e]; exact fam.room, ?_⟩
  obtain ⟨t0, h0⟩ : ∃ t, ts[0]? = some t := ⟨_, List.getElem?_eq_getElem fam.ne⟩
  have ht := fam.tabs t0 (List.mem_of_getElem? h0)
  obtain ⟨r, hr⟩ : ∃ r, r ∈ rowsR fr := ⟨_, rw_mem (all_n fam.frame).2⟩
  have h1 := plN_lt ht hr
  have h2 := off_le (ls := lens ts) (k := 0) (by rw [lens_len]; exact fam.ne)
  rw [lens_get fam.ne, tb_of h0, off_0] at h2
  omega
theorem mem_iff (fam : FamOk fr w ts) {r : List Int} (hr : r ∈ rowsR fr) {k j : Nat} (hk : k < ts.length) (hj : j < (tb ts k).2.length) : ((off (lens ts) k + j : Nat) : Int) ∈ memF fr ts r ↔ plN fr (tb ts k) r = j := by
  unfold memF
  rw [List.mem_map]
  constructor
  · rintro ⟨l, hl, e⟩
    have hl := List.mem_range.mp hl
    obtain ⟨rfl, rfl⟩ := off_inj (ls := lens ts) (k := l) (l := k) (i := plN fr (tb ts l) r) (j := j) (by rw [lens_len]; exact hl) (by rw [lens_len]; exact hk) (by rw [lens_get hl]; exact plN_lt (fam.tabs _ (tb_mem hl)) hr) (by rw [lens_get hk]; exact hj) (by omega)
    rfl
  · rintro rfl
    exact ⟨k, List.mem_range.mpr hk, by omega⟩
theorem mems_get {i : Nat} (h : i < (rowsR fr).length) : (memsF fr ts).getD i [] = memF fr ts (rw_ fr i) := by
  unfold memsF; rw [List.getD_eq_getElem?_getD, List.getElem?_map, rw_get h]; rfl
theorem famPr (fam : FamOk fr w ts) {ws : List Int} (hw : ws.length = (rowsR fr).length) (hb : ∀ x ∈ ws, x.natAbs < 2 ^ 300) : Pr (memsF fr ts) (capsF ts) ws where
  n64 := by simp [memsF]; exact (all_n fam.frame).1
  m64 := by rw [capsF_len]; have := (lens_sum fam).1; omega
  m1 := by rw [capsF_len]; exact (lens_sum fam).2
  wl := by simp [memsF]; exact hw
  cnn := fun c hc => by
    obtain ⟨t, ht, hc⟩ := List.mem_flatMap.mp hc
    have h := fam.tabs t ht
    refine ⟨h.nn c hc, ?_⟩
    have h9 := fam.w9
    have : ∀ {cs : List Int}, (∀ x ∈ cs, 0 ≤ x) → 0 ≤ cs.sum ∧ ∀ x ∈ cs, x ≤ cs.sum := fun {cs} => by
      induction cs with
      | nil => simp
      | cons c cs ih =>
        intro h
        have ⟨h1, h2⟩ := ih fun x hx => h x (List.mem_cons_of_mem c hx)
        have hc := h c List.mem_cons_self
        rw [List.sum_cons]
        refine ⟨by omega, fun x hx => ?_⟩
        rcases List.mem_cons.mp hx with rfl | hx
        · omega
        · have := h2 x hx; omega
    have h2 := (this h.nn).2 c hc
    rw [h.sum] at h2
    omega
  wb := hb
  hit := fun mem hm => by
    obtain ⟨r, hr, rfl⟩ := List.mem_map.mp hm
    have h0 := fam.ne
    have hp := plN_lt (fam.tabs _ (tb_mem h0)) hr
    refine ⟨off (lens ts) 0 + plN fr (tb ts 0) r, ?_, (mem_iff fam hr h0 hp).mpr rfl⟩
    rw [capsF_len]
    have := off_le (ls := lens ts) (k := 0) (by rw [lens_len]; exact h0)
    rw [lens_get h0] at this
    omega
/-- numbers and prices over one scale -/
structure PtOk (fr : List Int) (ts : List Tab) (ws : List Int) (s : Int) (xs : List Int) (prs : List (List Int)) : Prop where
  sp : 0 < s
  sb : Bd s
  xl : xs.length = (rowsR fr).length
  xb : ∀ x ∈ xs, 0 ≤ x ∧ Bd x
  pn : prs.length = ts.length
  pl : ∀ k, k < ts.length → (prs.getD k []).length = (tb ts k).2.length
  pb : ∀ p ∈ prs, ∀ x ∈ p, 0 ≤ x ∧ Bd x
  caps : ∀ t ∈ ts, ∀ j, j < t.2.length → (smsF fr xs t).getD j 0 ≤ t.2.getD j 0 * s
  cover : ∀ i, i < (rowsR fr).length → s * ws.getD i 0 ≤ comeAt fr ts prs (rw_ fr i)
  same : (sm (rowsR fr).length fun i => ws.getD i 0 * xs.getD i 0) = wcF ts prs
theorem prsF_get {ps : List Int} {k : Nat} (h : k < ts.length) : (prsF ts ps).getD k [] = (ps.drop (off (lens ts) k)).take (tb ts k).2.length := by
  unfold prsF; rw [List.getD_eq_getElem?_getD]; simp [h]
theorem prsF_at {ps : List Int} {k j : Nat} (h : k < ts.length) (hj : j < (tb ts k).2.length) : pr2 (prsF ts ps) k j = ps.getD (off (lens ts) k + j) 0 := by
  unfold pr2
  rw [prsF_get h, List.getD_eq_getElem?_getD, List.getElem?_take, if_pos hj, List.getElem?_drop, List.getD_eq_getElem?_getD]
theorem sms_get {t : Tab} (ht : TabOk fr w t) (hx : xs.length = (rowsR fr).length) {j : Nat} (hj : j < t.2.length) :
    (smsF fr xs t).getD j 0 = sm (rowsR fr).length fun i => if plN fr t (rw_ fr i) = j then xs.getD i 0 else 0 := by
  have hj2 : j < (rowsR (kindsR fr t.1)).length := by have := ht.len; unfold volR at this; omega
  have e := List.getElem?_eq_getElem hj2
  have h1 := sumsF_get (g := rgI fr.length) (p := t.1) (rs := rowsR fr) (cs := xs) e
  unfold smsF
  rw [List.getD_eq_getElem?_getD, h1, Option.getD_some, sumAt_sm hx]
  refine sm_congr fun i hi => ?_
  have nd := rowsR_nodup (kindsR fr t.1)
  have : plN fr t (rw_ fr i) = j ↔ seenF (rgI fr.length) ((rowsR fr).getD i []) t.1 = (rowsR (kindsR fr t.1))[j] := by
    unfold plN
    exact idx_iff nd (see_mem (t := t) ht.gr.mem (rw_mem hi)) e
  by_cases hh : plN fr t (rw_ fr i) = j
  · rw [if_pos hh, if_pos (this.mp hh)]
  · rw [if_neg hh, if_neg fun z => hh (this.mpr z)]
theorem part_ok (fam : FamOk fr w ts) {ws : List Int} {s : Int} {ps : List Int} (b : Best (memsF fr ts) (capsF ts) ws s xs ps) : PtOk fr ts ws s xs (prsF ts ps) := by
  have ml : (memsF fr ts).length = (rowsR fr).length := by simp [memsF]
  have cl := capsF_len (ts := ts)
  have o := b.opt
  have pl : ps.length = (lens ts).sum := by rw [b.pl, cl]
  have xl : xs.length = (rowsR fr).length := by rw [b.xl, ml]
  have row : ∀ {k j i : Nat}, k < ts.length → j < (tb ts k).2.length → i < (rowsR fr).length → Mx (memsF fr ts) (capsF ts) (off (lens ts) k + j) i = if plN fr (tb ts k) (rw_ fr i) = j then 1 else 0 := fun {k j i} hk hj hi => by
    rw [Mx_row (by omega), mems_get hi]
    have := mem_iff fam (rw_mem hi) hk hj
    by_cases hh : plN fr (tb ts k) (rw_ fr i) = j
    · rw [if_pos hh, if_pos (this.mpr hh)]
    · rw [if_neg hh, if_neg fun z => hh (this.mp z)]
  have inb : ∀ {k j : Nat}, k < ts.length → j < (tb ts k).2.length → off (lens ts) k + j < (capsF ts).length := fun {k j} hk hj => by
    have := off_le (ls := lens ts) (k := k) (by rw [lens_len]; exact hk)
    rw [lens_get hk] at this
    omega
  have capd : ∀ {k j : Nat}, k < ts.length → j < (tb ts k).2.length → Mx (memsF fr ts) (capsF ts) (off (lens ts) k + j) ((memsF fr ts).length + (capsF ts).length) = (tb ts k).2.getD j 0 := fun {k j} hk hj => by
    rw [Mx_cap, List.getD_eq_getElem?_getD, caps_get hk hj, ← List.getD_eq_getElem?_getD]
  refine ⟨o.pos, b.sb, xl, b.xb, by simp [prsF], fun k hk => ?_, fun p hp x hx => ?_, fun t ht j hj => ?_, fun i hi => ?_, ?_⟩
  · rw [prsF_get hk, List.length_take, List.length_drop]
    have := off_le (ls := lens ts) (k := k) (by rw [lens_len]; exact hk)
    rw [lens_get hk] at this
    omega
  · obtain ⟨k, hk, rfl⟩ := List.mem_map.mp hp
    exact b.pb x (List.mem_of_mem_drop (List.mem_of_mem_take hx))
  · obtain ⟨k, hk, e⟩ := List.getElem_of_mem ht
    have et : tb ts k = t := tb_of (by rw [List.getElem?_eq_getElem hk, e])
    subst et
    rw [sms_get (fam.tabs _ ht) xl hj, Int.mul_comm]
    have := o.caps (off (lens ts) k + j) (inb hk hj)
    rw [capd hk hj, ml] at this
    refine Int.le_trans (Int.le_of_eq (sm_congr fun i hi => ?_)) this
    rw [row hk hj hi]
    by_cases hh : plN fr (tb ts k) (rw_ fr i) = j
    · rw [if_pos hh, if_pos hh, Int.one_mul]
    · rw [if_neg hh, if_neg hh, Int.zero_mul]
  · have := o.cover i (by rw [ml]; exact hi)
    refine Int.le_trans this (Int.le_of_eq ?_)
    rw [cl, sm_parts, lens_len]
    refine sm_congr fun k hk => ?_
    rw [lens_get hk]
    have hp := plN_lt (fam.tabs _ (tb_mem hk)) (rw_mem hi)
    rw [prsF_at hk hp, sm_one _ hp fun j hj ne => by rw [row hk hj hi, if_neg (fun z => ne z.symm), Int.mul_zero], row hk hp hi, if_pos rfl, Int.mul_one]
  · have := o.same
    rw [ml] at this
    rw [this, ← ml, cl, sm_parts, lens_len]
    refine sm_congr fun k hk => ?_
    rw [lens_get hk]
    refine sm_congr fun j hj => ?_
    rw [prsF_at hk hj, ← capd hk hj, ml, cl]
/-- a part with prices, as it is walked -/
structure PartP (fr : List Int) (ts : List Tab) (xs : List Int) (t : Int) (prs : List (List Int)) (s : Int) : Prop where
  xl : xs.length = (rowsR fr).length
  t1 : 1 ≤ t
  s1 : 1 ≤ s
  xn : ∀ x ∈ xs, 0 ≤ x
  pl : prs.map (·.length) = lens ts
  pn : ∀ p ∈ prs, ∀ x ∈ p, 0 ≤ x
  caps : ∀ a ∈ ts, ∀ j, j < a.2.length → (smsF fr xs a).getD j 0 ≤ a.2.getD j 0 * t
  cover : ∀ r ∈ rowsR fr, s ≤ comeAt fr ts prs r
  same : wcF ts prs * t = s * xs.sum
theorem PtOk.part {s : Int} (p : PtOk fr ts (List.replicate (rowsR fr).length 1) s xs prs) : PartP fr ts xs s prs s where
  xl := p.xl
  t1 := p.sp
  s1 := p.sp
  xn := fun x hx => (p.xb x hx).1
  pl := by
    refine List.ext_getElem? fun k => ?_
    by_cases hk : k < ts.length
    · have e : prs[k]? = some (prs.getD k []) := by rw [List.getD_eq_getElem?_getD, List.getElem?_eq_getElem (by rw [p.pn]; exact hk)]; rfl
      unfold lens
      rw [List.getElem?_map, List.getElem?_map, e, tb_get hk, Option.map_some, Option.map_some, p.pl k hk]
    · rw [List.getElem?_eq_none (by rw [List.length_map, p.pn]; omega), List.getElem?_eq_none (by rw [lens_len]; omega)]
  pn := fun q hq x hx => (p.pb q hq x hx).1
  caps := p.caps
  cover := fun r hr => by
    obtain ⟨i, hi, e⟩ := List.getElem_of_mem hr
    have := p.cover i hi
    rw [show rw_ fr i = r by unfold rw_; rw [List.getD_eq_getElem?_getD, List.getElem?_eq_getElem hi, e]; rfl] at this
    rw [List.getD_eq_getElem?_getD, List.getElem?_replicate, if_pos hi, Option.getD_some, Int.mul_one] at this
    exact this
  same := by
    rw [← p.same, Int.mul_comm]
    congr 1
    rw [sm_congr fun i hi => by rw [List.getD_eq_getElem?_getD, List.getElem?_replicate, if_pos hi, Option.getD_some, Int.one_mul], ← p.xl, ← fl_sum, fl_of]
end
end GM

/-! GPb: what the drawing of families of k25 and later leans on. -/
namespace GL
/-- the state: a cell, and the way its digits are taken -/
abbrev stB (c b : Int) : AO := .lst [.d (.int c), .d (.int b)]
theorem pass_sb {c b : Int} {r : Lo} : PassOk [0] (stB c b :: r) [stB c b] := ⟨rfl, by decide, fun j o e => by
  cases j with
  | zero => simp at e; subst e; exact ⟨(by intro z; cases z), 0, rfl, rfl⟩
  | succ j => simp at e⟩
theorem pass_s1 {c b c2 b2 : Int} {r : Lo} : PassOk [1] (stB c b :: stB c2 b2 :: r) [stB c2 b2] := ⟨rfl, by decide, fun j o e => by
  cases j with
  | zero => simp at e; subst e; exact ⟨(by intro z; cases z), 1, rfl, rfl⟩
  | succ j => simp at e⟩
theorem mrgB {c b c2 b2 : Int} {r : Lo} : mrg [0] (stB c b :: r) [stB c2 b2] = stB c2 b2 :: r := by
  show (stB c2 b2 :: r) ++ [] = _
  rw [List.append_nil]
/-- a dict by rows, in their order -/
def kvF (ds : List (List Int)) (f : List Int → Int) : List (List L2.Key × A) := ds.map fun r => (kI r, .d (.int (f r)))
theorem kv_any {ds : List (List Int)} {f : List Int → Int} {r : List Int} : ((kvF ds f).any fun kv => decide (kv.1 = kI r)) = decide (r ∈ ds) := by
  induction ds with
  | nil => simp [kvF]
  | cons d ds ih =>
    show (decide (kI d = kI r) || _) = _
    have e : (List.map (fun r => (kI r, A.d (.int (f r)))) ds).any (fun kv => decide (kv.1 = kI r)) = decide (r ∈ ds) := ih
    rw [e, Bool.eq_iff_iff]
    simp only [Bool.or_eq_true, decide_eq_true_eq, List.mem_cons]
    constructor
    · rintro (h | h)
      · exact .inl (kI_inj h).symm
      · exact .inr h
    · rintro (h | h)
      · exact .inl (by rw [h])
      · exact .inr h
theorem kv_new {ds : List (List Int)} {f : List Int → Int} {r : List Int} (h : r ∉ ds) : putA (kvF ds f) (kI r) (.d (.int (f r))) = kvF (ds ++ [r]) f := by
  unfold putA
  rw [kv_any, decide_eq_false h, if_neg (by decide)]
  simp [kvF]
theorem kv_upd {ds : List (List Int)} {f g : List Int → Int} {r : List Int} {v : Int} (h : r ∈ ds) (hv : g r = v) (ho : ∀ t, t ≠ r → g t = f t) : putA (kvF ds f) (kI r) (.d (.int v)) = kvF ds g := by
  unfold putA
  rw [kv_any, decide_eq_true h, if_pos rfl]
  unfold kvF
  rw [List.map_map]
  refine List.map_congr_left fun t ht => ?_
  show (if kI t = kI r then (kI t, A.d (.int v)) else (kI t, .d (.int (f t)))) = _
  by_cases e : kI t = kI r
  · rw [if_pos e, kI_inj e, hv]
  · rw [if_neg e, ho t fun z => e (by rw [z])]
theorem kv_val {ds : List (List Int)} {f : List Int → Int} {r : List Int} (h : r ∈ ds) : valA (kvF ds f) (kI r) = some (.d (.int (f r))) := by
  induction ds with
  | nil => simp at h
  | cons d ds ih =>
    show valA ((kI d, .d (.int (f d))) :: kvF ds f) (kI r) = _
    rw [valA_cons]
    by_cases e : kI d = kI r
    · rw [if_pos e, kI_inj e]
    · rw [if_neg e]
      rcases List.mem_cons.mp h with z | z
      · exact absurd (by rw [z]) e
      · exact ih z
theorem kv_len {ds : List (List Int)} {f : List Int → Int} : (kvF ds f).length = ds.length := by simp [kvF]
theorem kv_snd {ds : List (List Int)} {f : List Int → Int} : (kvF ds f).map (·.2) = (nts (ds.map f)).map .d := by simp [kvF, nts, Function.comp_def]
end GL
namespace GM
open GL PySem L2 SX
theorem vol_le {fr g : List Int} (ok : FrOk fr) (hg : GrOk fr.length g) (hs : g.Sublist (rgI fr.length)) : (volR fr g : Int) ≤ prod fr := by
  rw [volR_prod ok.kinds hg.mem]
  have h1 : (kindsR fr g).Sublist (kindsR fr (rgI fr.length)) := hs.map _
  rw [kindsR_all] at h1
  exact (prod_sub h1 fun k hk => by have := ok.kinds k hk; omega).2
theorem vol_one {fr : List Int} (ok : FrOk fr) {m : Int} (h0 : 0 ≤ m) (h1 : m < fr.length) : volR fr [m] ≤ 3 := by
  have h2 := volR_prod (g := [m]) ok.kinds fun x hx => by rw [List.mem_singleton.mp hx]; exact ⟨h0, h1⟩
  obtain ⟨j, rfl⟩ : ∃ j : Nat, m = j := ⟨m.toNat, by omega⟩
  have h3 := ok.kinds (fr.getD j 0) (by rw [List.getD_eq_getElem?_getD, List.getElem?_eq_getElem (by omega)]; exact List.getElem_mem _)
  have e : prod (kindsR fr [(j : Int)]) = fr.getD j 0 := by simp [kindsR, prod]
  rw [e] at h2
  omega
theorem grs_end2 {fr : List Int} (ok : FrOk fr) (n5 : fr.length ≤ 5) {gs : List (List Int)} {left : List Int} (hg : ∀ g ∈ gs, GrOk fr.length g) (h0 : 0 < gs.length) (h4 : gs.length ≤ 4) (hsum : (gs.map fun g => volR fr g).sum ≤ 40) (hl : left.Sublist (rgI fr.length))
    (hin : ∀ m : Int, 0 ≤ m → m < fr.length → (m ∉ left ↔ ∃ g ∈ gs, m ∈ g)) : GrsOk fr (gs ++ left.map fun m => [m]) := by
  have l4 : left.length ≤ 4 := by
    have h1 := hl.length_le
    rw [rgI_len] at h1
    by_cases e : left.length = 5
    · exfalso
      have e2 := hl.eq_of_length (by rw [rgI_len]; omega)
      cases gs with
      | nil => exact absurd h0 (Nat.lt_irrefl 0)
      | cons g r =>
        have hgg := hg g List.mem_cons_self
        cases g with
        | nil => exact hgg.ne rfl
        | cons m g =>
          have hm := hgg.mem m List.mem_cons_self
          exact (hin m hm.1 hm.2).mpr ⟨m :: g, List.mem_cons_self, List.mem_cons_self⟩ (by rw [e2]; exact rgI_mem.mpr hm)
    · omega
  have lm : ∀ m ∈ left, 0 ≤ m ∧ m < (fr.length : Int) := fun m hm => rgI_mem.mp (hl.subset hm)
  refine ⟨fun g hg' => ?_, by simp; omega, by simp; omega, ?_, fun m m0 m1 => ?_⟩
  · rcases List.mem_append.mp hg' with h | h
    · exact hg g h
    · obtain ⟨m, hm, rfl⟩ := List.mem_map.mp h
      exact ⟨by simp, by simp, fun x hx => by rw [List.mem_singleton.mp hx]; exact lm m hm⟩
  · rw [List.map_append, List.sum_append, List.map_map]
    have go : ∀ l : List Int, (∀ m ∈ l, 0 ≤ m ∧ m < (fr.length : Int)) → (l.map ((fun g => volR fr g) ∘ fun m => [m])).sum ≤ 3 * l.length := fun l => by
      induction l with
      | nil => simp
      | cons m l ih =>
        intro h
        have h1 := ih fun x hx => h x (List.mem_cons_of_mem _ hx)
        have h2 := h m List.mem_cons_self
        have h3 := vol_one ok h2.1 h2.2
        rw [List.map_cons, List.sum_cons, List.length_cons]
        show volR fr [m] + _ ≤ _
        omega
    have := go left lm
    omega
  · by_cases h : m ∈ left
    · exact ⟨[m], List.mem_append_right _ (List.mem_map.mpr ⟨m, h, rfl⟩), List.mem_singleton.mpr rfl⟩
    · obtain ⟨g, h1, h2⟩ := (hin m m0 m1).mp h
      exact ⟨g, List.mem_append_left _ h1, h2⟩
theorem eqv_nilL (l : List D) : PyData.eqv (D.py (.list l)) (D.py (.list [])) = decide (l = []) := by
  cases l with
  | nil => exact (Sh.list (k := 0) (ds := []) (by simp)).refl
  | cons a l => exact eqv_nil_cons

theorem see_map {n : Nat} {g r : List Int} (h : ∀ m ∈ g, 0 ≤ m ∧ m < (n : Int)) : seenF (rgI n) r g = g.map fun m => r.getD m.toNat 0 := by
  refine List.map_congr_left fun m hm => ?_
  obtain ⟨h1, h2⟩ := h m hm
  have e : (rgI n)[m.toNat]? = some m := by
    unfold rgI
    rw [List.getElem?_map, List.getElem?_range (by omega)]
    simp; omega
  have := (idx_iff (rgI_nodup n) (rgI_mem.mpr ⟨h1, h2⟩) e).mpr rfl
  rw [this]
/-- the sums of numbers on a group -/
def smsG (fr xs g : List Int) : List Int := sumsF (rgI fr.length) g (rowsR fr) xs (rowsR (kindsR fr g))
theorem smsG_len {fr xs g : List Int} : (smsG fr xs g).length = volR fr g := by simp [smsG, sumsF, volR]
/-- tables drawn: counts' cells, and the list behind them -/
def prT (b : Nat) (gs : List (List Int)) : List GL.A := gs.zipIdx.map fun p => .tup [.d (.grp (nts p.1)), .own (b + p.2)]
theorem prT_len {b : Nat} {gs : List (List Int)} : (prT b gs).length = gs.length := by simp [prT]
theorem prT_get {b : Nat} {gs : List (List Int)} {i : Nat} {g : List Int} (h : gs[i]? = some g) : (prT b gs)[i]? = some (.tup [.d (.grp (nts g)), .own (b + i)]) := by
  unfold prT; rw [List.getElem?_map, List.getElem?_zipIdx, h]; simp
theorem prT_el {b : Nat} {gs : List (List Int)} {i : Nat} {a : GL.A} (h : (prT b gs)[i]? = some a) : ∃ g, gs[i]? = some g ∧ a = .tup [.d (.grp (nts g)), .own (b + i)] := by
  have hi : i < gs.length := by
    have := (List.getElem?_eq_some_iff.mp h).1
    rwa [prT_len] at this
  have e := List.getElem?_eq_getElem hi
  rw [prT_get e] at h
  cases h
  exact ⟨_, e, rfl⟩
theorem prT_snoc {b : Nat} {gs : List (List Int)} {g : List Int} : prT b (gs ++ [g]) = prT b gs ++ [.tup [.d (.grp (nts g)), .own (b + gs.length)]] := by
  simp [prT, List.zipIdx_append]
/-- tables that stand to be read: groups, and counts in lists of any kind -/
def TabR (L : Lo) (ta : GL.A) (gs css : List (List Int)) : Prop := ∃ ths, lsOf L ta = some ths ∧ ths.length = gs.length ∧ css.length = gs.length ∧ ∀ (i : Nat) (g cs : List Int), gs[i]? = some g → css[i]? = some cs →
  ∃ a q, ths[i]? = some a ∧ tpOf a = some [.d (.grp (nts g)), q] ∧ lsOf L q = some ((nts cs).map .d)
def tblL (t : Tab) : D := .tuple [.grp (nts t.1), .list (nts t.2)]
theorem smsG_lin {fr xs g : List Int} {by_ : Int} (hx : xs.length = (rowsR fr).length) : (smsG fr xs g).map (· * by_) = smsG fr (xs.map (· * by_)) g := by
  unfold smsG sumsF
  rw [List.map_map]
  refine List.map_congr_left fun r hr => ?_
  show sumAt _ _ _ _ r * by_ = _
  rw [sumAt_sm hx, sumAt_sm (by rw [List.length_map]; exact hx), ← sm_mulR]
  refine sm_congr fun i hi => ?_
  by_cases e : seenF (rgI fr.length) ((rowsR fr).getD i []) g = r
  · rw [if_pos e, if_pos e, List.getD_eq_getElem?_getD, List.getD_eq_getElem?_getD, List.getElem?_map]
    rw [List.getElem?_eq_getElem (by omega)]; rfl
  · rw [if_neg e, if_neg e, Int.zero_mul]
theorem sum_all {cs : List Int} (h : ∀ x ∈ cs, 0 ≤ x) : 0 ≤ cs.sum ∧ ∀ x ∈ cs, x ≤ cs.sum := by
  induction cs with
  | nil => simp
  | cons c cs ih =>
    have ⟨h1, h2⟩ := ih fun x hx => h x (List.mem_cons_of_mem c hx)
    have hc := h c List.mem_cons_self
    rw [List.sum_cons]
    refine ⟨by omega, fun x hx => ?_⟩
    rcases List.mem_cons.mp hx with rfl | hx
    · omega
    · have := h2 x hx; omega
theorem sum_top {cs : List Int} {k : Int} (h : ∀ x ∈ cs, x ≤ k) : cs.sum ≤ k * cs.length := by
  induction cs with
  | nil => simp
  | cons c cs ih =>
    have h1 := ih fun x hx => h x (List.mem_cons_of_mem c hx)
    have hc := h c List.mem_cons_self
    rw [List.sum_cons, List.length_cons]
    have : k * ((cs.length + 1 : Nat) : Int) = k * cs.length + k := by rw [Int.natCast_add, Int.mul_add]; simp
    omega
theorem sum_mulL {cs : List Int} {b : Int} : (cs.map (· * b)).sum = cs.sum * b := by
  induction cs with
  | nil => simp
  | cons c cs ih => rw [List.map_cons, List.sum_cons, List.sum_cons, ih, Int.add_mul]
theorem smsG_sum {fr xs g : List Int} (hg : ∀ m ∈ g, 0 ≤ m ∧ m < (fr.length : Int)) (hx : xs.length = (rowsR fr).length) : (smsG fr xs g).sum = xs.sum :=
  sumsF_sum (rowsR_nodup _) (fun r hr => see_mem (t := (g, [])) hg hr) hx.symm
theorem smsG_nn {fr xs g : List Int} (hx : ∀ x ∈ xs, 0 ≤ x) : ∀ x ∈ smsG fr xs g, 0 ≤ x := fun x h => by
  obtain ⟨r, _, rfl⟩ := List.mem_map.mp h
  exact sumAt_nn hx r
end GM
namespace GL
/-- an own list at the end, frozen, what stands behind L left out -/
theorem Wk.frzL {L J : Lo} {ds : List D} (h : belLo (L ++ J).length (L ++ J) = true) (hL : belLo L.length L = true) : Wk L.length [some (.own (L ++ J).length)] ((L ++ J) ++ [.lst (ds.map .d)]) [some (.d (.list ds))] L := by
  have k1 := Wk.frz (b := L.length) (s := [some (.own (L ++ J).length)]) (ds := ds) h
  have e : frzS (L ++ J).length ds [some (.own (L ++ J).length)] = [some (.d (.list ds))] := by
    show [some (A.frz (L ++ J).length ds (.own (L ++ J).length))] = _
    unfold A.frz
    rw [if_pos rfl]
  rw [e] at k1
  exact Wk.trans k1 (Wk.pop (by rfl) hL) (by simp)
theorem cel_more {L J : Lo} {n : Nat} {as : List A} (h : cel L n = some as) : cel (L ++ J) n = some as := by
  unfold cel at h ⊢
  cases e : L[n]? with
  | none => rw [e] at h; cases h
  | some o =>
    rw [List.getElem?_append_left (List.getElem?_eq_some_iff.mp e).1]
    exact h
theorem pl_more {L J : Lo} {a : A} {as : List A} (h : plOf L a = some as) : plOf (L ++ J) a = some as := by
  unfold plOf at h ⊢
  split at h
  · exact h
  · exact cel_more h
  · cases h
end GL

/-! GPc: parts as they stand in a store. -/
namespace GM
open GL PySem L2 SX
def whA (b n : Nat) : List GL.A := (List.range n).map fun k => .own (b + k)
theorem whA_len {b n : Nat} : (whA b n).length = n := by simp [whA]
theorem whA_get {b n k : Nat} (h : k < n) : (whA b n)[k]? = some (.own (b + k)) := by simp [whA, h]
theorem whA_snoc {b n : Nat} : whA b (n + 1) = whA b n ++ [.own (b + n)] := by simp [whA, List.range_succ]
theorem itLastO {L : Lo} {n : Nat} {l : List Int} (h : L[n]? = some (.lst ((nts l).map .d))) (h0 : 0 < l.length) : itemA L (.own n) (.d (.int (-1))) = some (.d (.int (l.getD (l.length - 1) 0))) := by
  have h1 : itemA L (.own n) (.d (.int (-1))) = itemA L (.d (.list (nts l))) (.d (.int (-1))) := by
    unfold itemA
    have e1 := sq_own h
    have e2 : sqOf L (.d (.list (nts l))) = some ((nts l).map .d) := rfl
    simp only [e1, e2]
  rw [h1]; exact itLast h0
theorem belL_app {k : Nat} : ∀ {as bs : List GL.A}, belL k as = true → belL k bs = true → belL k (as ++ bs) = true
  | [], _, _, h => h
  | a :: as, bs, h1, h2 => by
    have e : bel k a = true ∧ belL k as = true := by simpa [belL] using h1
    show (bel k a && belL k (as ++ bs)) = true
    rw [e.1, belL_app e.2 h2]; rfl
theorem bel_whA {k b : Nat} : ∀ n : Nat, b + n ≤ k → belL k (whA b n) = true
  | 0, _ => rfl
  | n + 1, h => by
    rw [whA_snoc]
    exact belL_app (bel_whA n (by omega)) (by simp [belL, bel]; omega)
/-- the places of a table's rows -/
def dcT (fr : List Int) (t : Tab) : AO := .dT (kvF (rowsR (kindsR fr t.1)) fun r => (((rowsR (kindsR fr t.1)).idxOf r : Nat) : Int))
theorem bel_dcs {k : Nat} {fr : List Int} : ∀ ts : List Tab, belLo k (ts.map (dcT fr)) = true
  | [] => rfl
  | t :: ts => by
    show (belO k (dcT fr t) && belLo k (ts.map (dcT fr))) = true
    rw [bel_dcs ts, Bool.and_true]
    show belL k ((kvF _ _).map (·.2)) = true
    rw [kv_snd]
    exact bel_ds _
/-- numbers in a list of their own -/
def NmIn (L : Lo) (a : GL.A) (xs : List Int) : Prop := ∃ n, a = .own n ∧ L[n]? = some (.lst ((nts xs).map .d))
def PrIn (L : Lo) (a : GL.A) (prs : List (List Int)) : Prop := ∃ n as, a = .own n ∧ L[n]? = some (.lst as) ∧ as.length = prs.length ∧ ∀ (k : Nat) (p : List Int), prs[k]? = some p → ∃ m, as[k]? = some (.own m) ∧ L[m]? = some (.lst ((nts p).map .d))
/-- lists of numbers, to be read -/
def RdIn (L : Lo) (a : GL.A) (prs : List (List Int)) : Prop := ∃ as, plOf L a = some as ∧ as.length = prs.length ∧ ∀ (k : Nat) (p : List Int), prs[k]? = some p → ∃ x, as[k]? = some x ∧ plOf L x = some ((nts p).map .d)
theorem RdIn.more {L J : Lo} {a : GL.A} {prs : List (List Int)} (h : RdIn L a prs) : RdIn (L ++ J) a prs := by
  obtain ⟨as, h1, h2, h3⟩ := h
  exact ⟨as, pl_more h1, h2, fun k p e => let ⟨x, e1, e2⟩ := h3 k p e; ⟨x, e1, pl_more e2⟩⟩
theorem PrIn.rd {L : Lo} {a : GL.A} {prs : List (List Int)} (h : PrIn L a prs) : RdIn L a prs := by
  obtain ⟨n, as, rfl, h1, h2, h3⟩ := h
  exact ⟨as, pl_own h1, h2, fun k p e => let ⟨m, e1, e2⟩ := h3 k p e; ⟨_, e1, pl_own e2⟩⟩
theorem NmIn.pl {L : Lo} {a : GL.A} {xs : List Int} (h : NmIn L a xs) : plOf L a = some ((nts xs).map .d) := by
  obtain ⟨n, rfl, h1⟩ := h
  exact pl_own h1
theorem NmIn.more {L J : Lo} {a : GL.A} {xs : List Int} (h : NmIn L a xs) : NmIn (L ++ J) a xs := by
  obtain ⟨n, rfl, h1⟩ := h
  exact ⟨n, rfl, by rw [List.getElem?_append_left (List.getElem?_eq_some_iff.mp h1).1]; exact h1⟩
def stT (ts : List Tab) (i : Nat) : List Int := (List.range (i + 1)).map fun k => ((off (lens ts) k : Nat) : Int)
theorem stT_len {ts : List Tab} {i : Nat} : (stT ts i).length = i + 1 := by simp [stT]
theorem stT_get {ts : List Tab} {i k : Nat} (h : k ≤ i) : (stT ts i)[k]? = some ((off (lens ts) k : Nat) : Int) := by simp [stT, show k < i + 1 by omega]
theorem stT_snoc {ts : List Tab} {i : Nat} : stT ts (i + 1) = stT ts i ++ [((off (lens ts) (i + 1) : Nat) : Int)] := by simp [stT, List.range_succ]
end GM

/-! GPd: glued tables and bets. -/
namespace GM
open GL PySem L2 SX
section
variable {fr : List Int} {w : Int} {ts : List Tab} {xs : List Int} {prs : List (List Int)}
/-- numbers, each sum of them with what the tables' rows come to: the sums with the prices -/
theorem come_sums (fam : FamOk fr w ts) (hx : xs.length = (rowsR fr).length) :
    (sm (rowsR fr).length fun i => xs.getD i 0 * comeAt fr ts prs (rw_ fr i)) = sm ts.length fun k => sm (tb ts k).2.length fun j => pr2 prs k j * (smsF fr xs (tb ts k)).getD j 0 := by
  have e1 : (sm (rowsR fr).length fun i => xs.getD i 0 * comeAt fr ts prs (rw_ fr i)) = sm (rowsR fr).length fun i => sm ts.length fun k => xs.getD i 0 * pr2 prs k (plN fr (tb ts k) (rw_ fr i)) :=
    sm_congr fun i hi => by unfold comeAt; rw [← sm_mul]
  rw [e1, sm_swap]
  refine sm_congr fun k hk => ?_
  have ht := fam.tabs _ (tb_mem hk)
  have e2 : (sm (rowsR fr).length fun i => xs.getD i 0 * pr2 prs k (plN fr (tb ts k) (rw_ fr i))) = sm (rowsR fr).length fun i => sm (tb ts k).2.length fun j => pr2 prs k j * (if plN fr (tb ts k) (rw_ fr i) = j then xs.getD i 0 else 0) := by
    refine sm_congr fun i hi => ?_
    have hp := plN_lt ht (rw_mem hi)
    rw [sm_one (plN fr (tb ts k) (rw_ fr i)) hp fun j hj ne => by rw [if_neg (fun z => ne z.symm), Int.mul_zero], if_pos rfl, Int.mul_comm]
  rw [e2, sm_swap]
  refine sm_congr fun j hj => ?_
  rw [sms_get ht hx hj, ← sm_mul]
/-- the sums of a table come to the numbers' sum -/
theorem sms_sum (fam : FamOk fr w ts) (hx : xs.length = (rowsR fr).length) {t : Tab} (ht : t ∈ ts) : (sm t.2.length fun j => (smsF fr xs t).getD j 0) = xs.sum := by
  have h := fam.tabs t ht
  have e : (smsF fr xs t).length = t.2.length := by rw [show smsF fr xs t = smsG fr xs t.1 from rfl, smsG_len, h.len]
  rw [← e, ← fl_sum, fl_of]
  exact smsG_sum h.gr.mem hx
theorem cnt_sm {t : Tab} (ht : TabOk fr w t) : (sm t.2.length fun j => t.2.getD j 0) = w := by
  rw [← fl_sum, fl_of]; exact ht.sum
/-- a glued table -/
structure GlP (fr : List Int) (ts : List Tab) (xs : List Int) (t : Int) : Prop where
  xl : xs.length = (rowsR fr).length
  t1 : 1 ≤ t
  xn : ∀ x ∈ xs, 0 ≤ x
  sums : ∀ a ∈ ts, ∀ j, j < a.2.length → (smsF fr xs a).getD j 0 = a.2.getD j 0 * t
/-- a bet -/
structure BtP (fr : List Int) (ts : List Tab) (bet : List (List Int)) : Prop where
  pl : bet.map (·.length) = lens ts
  nn : ∀ r ∈ rowsR fr, 0 ≤ comeAt fr ts bet r
  neg : wcF ts bet < 0
theorem pl_of (hl : prs.length = ts.length) (hk : ∀ k, k < ts.length → (prs.getD k []).length = (tb ts k).2.length) : prs.map (·.length) = lens ts := by
  refine List.ext_getElem? fun k => ?_
  by_cases hk2 : k < ts.length
  · have e : prs[k]? = some (prs.getD k []) := by rw [List.getD_eq_getElem?_getD, List.getElem?_eq_getElem (by rw [hl]; exact hk2)]; rfl
    unfold lens
    rw [List.getElem?_map, List.getElem?_map, e, tb_get hk2, Option.map_some, Option.map_some, hk k hk2]
  · rw [List.getElem?_eq_none (by rw [List.length_map, hl]; omega), List.getElem?_eq_none (by rw [lens_len]; omega)]
theorem of_pl (h : prs.map (·.length) = lens ts) : prs.length = ts.length ∧ ∀ k, k < ts.length → (prs.getD k []).length = (tb ts k).2.length := by
  have plen : prs.length = ts.length := by have := congrArg List.length h; simpa [lens] using this
  refine ⟨plen, fun k hk => ?_⟩
  have h := congrArg (fun l => l[k]?) h
  have ep : prs[k]? = some (prs.getD k []) := by rw [List.getD_eq_getElem?_getD, List.getElem?_eq_getElem (by omega)]; rfl
  simp only [lens, List.getElem?_map, ep, tb_get hk, Option.map_some] at h
  exact Option.some.inj h
/-- glued, or a bet: not both -/
theorem GlP.noBet (fam : FamOk fr w ts) {t : Int} (g : GlP fr ts xs t) {bet : List (List Int)} (b : BtP fr ts bet) : False := by
  have h1 := come_sums (prs := bet) fam g.xl
  have h2 : (sm ts.length fun k => sm (tb ts k).2.length fun j => pr2 bet k j * (smsF fr xs (tb ts k)).getD j 0) = t * wcF ts bet := by
    unfold wcF
    rw [← sm_mul]
    refine sm_congr fun k hk => ?_
    rw [← sm_mul]
    refine sm_congr fun j hj => ?_
    rw [g.sums _ (tb_mem hk) j hj, Int.mul_comm t, Int.mul_assoc]
  have h3 : 0 ≤ sm (rowsR fr).length fun i => xs.getD i 0 * comeAt fr ts bet (rw_ fr i) := sm_nn fun i hi => by
    have := g.xn (xs.getD i 0) (List.mem_of_getElem? (getD_some (by rw [g.xl]; exact hi)))
    exact Int.mul_nonneg this (b.nn _ (rw_mem hi))
  rw [h1, h2] at h3
  have h4 := Int.mul_neg_of_pos_of_neg (show 0 < t by have := g.t1; omega) b.neg
  omega
def betF (n s : Int) (prs : List (List Int)) : List (List Int) := prs.map fun p => p.map fun x => n * x - s
theorem betF_at {n s : Int} {k j : Nat} (hk : k < prs.length) (hj : j < (prs.getD k []).length) : pr2 (betF n s prs) k j = n * pr2 prs k j - s := by
  have ep : prs[k]? = some (prs.getD k []) := by rw [List.getD_eq_getElem?_getD, List.getElem?_eq_getElem hk]; rfl
  unfold pr2 betF
  rw [List.getD_eq_getElem?_getD (l := prs.map _), List.getElem?_map, ep, Option.map_some, Option.getD_some, List.getD_eq_getElem?_getD, List.getElem?_map, getD_some hj]; rfl
theorem betF_come (fam : FamOk fr w ts) {s : Int} (hl : prs.length = ts.length) (hk : ∀ k, k < ts.length → (prs.getD k []).length = (tb ts k).2.length) {n : Int} {r : List Int} (hr : r ∈ rowsR fr) :
    comeAt fr ts (betF n s prs) r = n * comeAt fr ts prs r - ts.length * s := by
  unfold comeAt
  rw [sm_congr fun k hk2 => betF_at (by omega) (by rw [hk k hk2]; exact plN_lt (fam.tabs _ (tb_mem hk2)) hr), sm_sub, sm_mul, sm_const]
theorem betF_wc (fam : FamOk fr w ts) {s : Int} (hl : prs.length = ts.length) (hk : ∀ k, k < ts.length → (prs.getD k []).length = (tb ts k).2.length) {n : Int} :
    wcF ts (betF n s prs) = n * wcF ts prs - ts.length * (s * w) := by
  unfold wcF
  rw [← sm_mul, ← sm_const, ← sm_sub]
  refine sm_congr fun k hk2 => ?_
  rw [← sm_mul]
  have e : s * w = sm (tb ts k).2.length fun j => s * (tb ts k).2.getD j 0 := by rw [sm_mul, cnt_sm (fam.tabs _ (tb_mem hk2))]
  rw [e, ← sm_sub]
  refine sm_congr fun j hj => ?_
  rw [betF_at (by omega) (by rw [hk k hk2]; exact hj), Int.sub_mul, Int.mul_assoc]
/-- a greatest part that has the whole is a glued table -/
theorem PtOk.glued (fam : FamOk fr w ts) {s : Int} (p : PtOk fr ts (List.replicate (rowsR fr).length 1) s xs prs) (h : xs.sum = s * w) : GlP fr ts xs s where
  xl := p.xl
  t1 := p.sp
  xn := fun x hx => (p.xb x hx).1
  sums := fun a ha j hj => by
    have h1 := sms_sum fam p.xl ha
    have h2 := cnt_sm (fam.tabs a ha)
    have h3 : (sm a.2.length fun j => a.2.getD j 0 * s - (smsF fr xs a).getD j 0) = 0 := by
      rw [sm_sub, sm_mulR, h1, h2, h, Int.mul_comm]; omega
    have := sm_nn0 (fun i hi => by have := p.caps a ha i hi; omega) h3 j hj
    omega
/-- the greatest part's whole is the whole at most -/
theorem PtOk.le (fam : FamOk fr w ts) {s : Int} (p : PtOk fr ts (List.replicate (rowsR fr).length 1) s xs prs) : xs.sum ≤ s * w := by
  obtain ⟨t0, h0⟩ : ∃ t, ts[0]? = some t := ⟨_, List.getElem?_eq_getElem fam.ne⟩
  have ht := List.mem_of_getElem? h0
  have h1 := sms_sum fam p.xl ht
  have h2 := cnt_sm (fam.tabs t0 ht)
  have h3 : 0 ≤ (sm t0.2.length fun j => t0.2.getD j 0 * s - (smsF fr xs t0).getD j 0) := sm_nn fun i hi => by have := p.caps t0 ht i hi; omega
  rw [sm_sub, sm_mulR, h1, h2, Int.mul_comm] at h3
  omega
theorem ones_sum {n : Nat} (h : xs.length = n) : (sm n fun i => (List.replicate n (1 : Int)).getD i 0 * xs.getD i 0) = xs.sum := by
  rw [sm_congr fun i hi => by rw [List.getD_eq_getElem?_getD, List.getElem?_replicate, if_pos hi, Option.getD_some, Int.one_mul], ← h, ← fl_sum, fl_of]
/-- .. and else its prices are a bet -/
theorem PtOk.bet (fam : FamOk fr w ts) {s : Int} (p : PtOk fr ts (List.replicate (rowsR fr).length 1) s xs prs) (h : xs.sum ≠ s * w) : BtP fr ts (betF ts.length s prs) := by
  have hle := p.le fam
  have sm1 := p.same
  rw [ones_sum p.xl] at sm1
  refine ⟨?_, fun r hr => ?_, ?_⟩
  · have h1 := pl_of p.pn p.pl
    unfold betF
    rw [List.map_map, ← h1]
    exact List.map_congr_left fun q _ => by simp
  · rw [betF_come fam p.pn p.pl hr, ← Int.mul_sub]
    obtain ⟨i, hi, e⟩ := List.getElem_of_mem hr
    have h2 := p.cover i hi
    rw [show rw_ fr i = r by unfold rw_; rw [List.getD_eq_getElem?_getD, List.getElem?_eq_getElem hi, e]; rfl] at h2
    rw [List.getD_eq_getElem?_getD, List.getElem?_replicate, if_pos hi, Option.getD_some, Int.mul_one] at h2
    exact Int.mul_nonneg (by omega) (by omega)
  · rw [betF_wc fam p.pn p.pl, ← sm1, ← Int.mul_sub]
    have h0 : (0 : Int) < ts.length := by have := fam.ne; omega
    exact Int.mul_neg_of_pos_of_neg h0 (by omega)
end
end GM
namespace GM
open GL PySem L2 SX
/-- what is told: a glued table, or never and a bet -/
def ToldIn (L : Lo) (fr : List Int) (ts : List Tab) (told : GL.A) : Prop :=
  (∃ na xs s, told = .tup [.d (.str "glued"), .tup [na, .d (.int s)]] ∧ NmIn L na xs ∧ GlP fr ts xs s ∧ Bd s ∧ ∀ x ∈ xs, Bd x) ∨
  (∃ ba bet, told = .tup [.d (.str "never"), ba] ∧ PrIn L ba bet ∧ BtP fr ts bet ∧ ∀ p ∈ bet, ∀ x ∈ p, x.natAbs < 2 ^ 4100)
theorem PrIn.more {L J : Lo} {a : GL.A} {prs : List (List Int)} (h : PrIn L a prs) : PrIn (L ++ J) a prs := by
  obtain ⟨n, as, rfl, h1, h2, h3⟩ := h
  have g : ∀ {m : Nat} {o : AO}, L[m]? = some o → (L ++ J)[m]? = some o := fun e => by rw [List.getElem?_append_left (List.getElem?_eq_some_iff.mp e).1]; exact e
  exact ⟨n, as, rfl, g h1, h2, fun k p e => let ⟨m, e1, e2⟩ := h3 k p e; ⟨m, e1, g e2⟩⟩
theorem ToldIn.more {L J : Lo} {fr : List Int} {ts : List Tab} {told : GL.A} (h : ToldIn L fr ts told) : ToldIn (L ++ J) fr ts told := by
  rcases h with ⟨na, xs, s, rfl, h, r⟩ | ⟨ba, bet, rfl, h, r⟩
  · exact .inl ⟨na, xs, s, rfl, h.more, r⟩
  · exact .inr ⟨ba, bet, rfl, h.more, r⟩
end GM

/-! GPe: small facts that the laws' walks share. -/
namespace GM
open GL PySem L2 SX
theorem tblL_get {ts : List Tab} {i : Nat} {a : GL.A} (h : ((ts.map tblL).map GL.A.d)[i]? = some a) : ∃ t, ts[i]? = some t ∧ a = .d (tblL t) := by
  obtain ⟨d, h1, rfl⟩ := mapd_get h
  rw [List.getElem?_map] at h1
  cases e : ts[i]? with
  | none => rw [e] at h1; cases h1
  | some t => rw [e] at h1; cases h1; exact ⟨t, rfl, rfl⟩
theorem cnt_top {fr : List Int} {w : Int} {ts : List Tab} (fam : FamOk fr w ts) {t : Tab} (ht : t ∈ ts) : ∀ c ∈ t.2, 0 ≤ c ∧ c ≤ 1000000000 := fun c hc => by
  have h := fam.tabs t ht
  have h2 := (sum_all h.nn).2 c hc
  rw [h.sum] at h2
  have := fam.w9
  exact ⟨h.nn c hc, by omega⟩
theorem pl_rds {L : Lo} {a : GL.A} {ds : List D} (h : plOf L a = some (ds.map .d)) : Rds L a (.list ds) := by
  unfold plOf at h
  split at h
  · have e := congrArg allD (Option.some.inj h)
    rw [allD_map, allD_map] at e
    cases e; exact .d
  · exact .own (cel_eq h)
  · cases h
theorem wide5 {i j : Int} (h1 : i.natAbs < 2 ^ 6000) (h2 : j.natAbs < 2 ^ 6000) : CMulW i j := wide_mul h1 h2 (by decide) (by decide) (by decide)
theorem sum_abs {xs : List Int} {B : Nat} (h : ∀ x ∈ xs, x.natAbs ≤ B) : xs.sum.natAbs ≤ xs.length * B := by
  rw [← fl_of (l := xs), fl_sum, fl_len]
  refine sm_abs fun i hi => h _ (List.mem_of_getElem? (getD_some hi))
theorem up6 {n B : Nat} (hn : n < 2 ^ 50) (hB : B ≤ 2 ^ 5100) : n * B < 2 ^ 6000 := by
  have h1 : n * B ≤ 2 ^ 50 * 2 ^ 5100 := Nat.mul_le_mul (Nat.le_of_lt hn) hB
  rw [← Nat.pow_add] at h1
  exact Nat.lt_of_le_of_lt h1 (Nat.pow_lt_pow_right (by decide) (by decide))
theorem up6' {x : Int} (h : x.natAbs < 2 ^ 5000) : x.natAbs < 2 ^ 6000 := Nat.lt_of_lt_of_le h (Nat.pow_le_pow_right (by decide) (by decide))
theorem wc_abs {ts : List Tab} {prs : List (List Int)} (ht : ts.length ≤ 100) (hk : ∀ k, k < ts.length → (prs.getD k []).length = (tb ts k).2.length) (hc : ∀ t ∈ ts, t.2.length ≤ 1000 ∧ ∀ c ∈ t.2, 0 ≤ c ∧ c ≤ 1000000000) (hb : ∀ p ∈ prs, ∀ x ∈ p, x.natAbs < 2 ^ 5000) (hpl : prs.length = ts.length) : (wcF ts prs).natAbs < 2 ^ 6000 := by
  have h1 : (wcF ts prs).natAbs ≤ ts.length * (1000 * (2 ^ 5000 * 1000000000)) := by
    refine sm_abs fun k hk2 => ?_
    obtain ⟨c1, c2⟩ := hc _ (tb_mem hk2)
    refine Nat.le_trans (sm_abs (B := 2 ^ 5000 * 1000000000) fun j hj => ?_) (Nat.mul_le_mul_right _ c1)
    rw [Int.natAbs_mul]
    have h2 := c2 _ (List.mem_of_getElem? (getD_some hj))
    have ep : prs[k]? = some (prs.getD k []) := by rw [List.getD_eq_getElem?_getD, List.getElem?_eq_getElem (by omega)]; rfl
    have h3 := hb _ (List.mem_of_getElem? ep) _ (List.mem_of_getElem? (getD_some (b := j) (by rw [hk k hk2]; exact hj)))
    exact Nat.mul_le_mul (Nat.le_of_lt h3) (by omega)
  refine Nat.lt_of_le_of_lt h1 ?_
  have h4 : ts.length * (1000 * (2 ^ 5000 * 1000000000)) = (ts.length * 1000000000000) * 2 ^ 5000 := by
    rw [Nat.mul_comm (2 ^ 5000) 1000000000, ← Nat.mul_assoc, ← Nat.mul_assoc, show ts.length * 1000 * 1000000000 = ts.length * 1000000000000 by omega]
  rw [h4]
  exact up6 (by omega) (Nat.pow_le_pow_right (by decide) (by decide))
theorem natC_inj : ∀ {a b : List Nat}, (a.map fun n : Nat => (n : Int)) = (b.map fun n : Nat => (n : Int)) → a = b
  | [], [], _ => rfl
  | [], _ :: _, h => by simp at h
  | _ :: _, [], h => by simp at h
  | x :: a, y :: b, h => by
    rw [List.map_cons, List.map_cons, List.cons.injEq] at h
    rw [natC_inj h.2, show x = y by omega]
theorem ct_ok {fr : List Int} {w : Int} {ts : List Tab} (fam : FamOk fr w ts) : ∀ t ∈ ts, t.2.length ≤ 1000 ∧ ∀ c ∈ t.2, 0 ≤ c ∧ c ≤ 1000000000 := fun a ha => by
  have hta := fam.tabs a ha
  have hcl : a.2.length ≤ 729 := by rw [hta.len]; exact rowsR_le (kindsR_bd fam.frame.kinds hta.gr.mem) (by rw [kindsR_len]; have := hta.gr.len; have := fam.frame.six; omega)
  exact ⟨by omega, cnt_top fam ha⟩
def HasL (L : Lo) (p : Nat) : Prop := ∃ as, L[p]? = some (.lst as) ∧ as ≠ []
theorem HasL.set {L : Lo} {p n : Nat} {bs : List GL.A} (h : HasL L p) (hb : bs ≠ []) : HasL (L.set n (.lst bs)) p := by
  obtain ⟨as, h1, h2⟩ := h
  by_cases e : n = p
  · subst e
    exact ⟨bs, List.getElem?_set_self (List.getElem?_eq_some_iff.mp h1).1, hb⟩
  · exact ⟨as, by rw [List.getElem?_set_ne e]; exact h1, h2⟩
theorem drawn_handed {L : Lo} {ts : List Tab} : Handed L (.d (.list (ts.map tblL))) ts :=
  ⟨(ts.map tblL).map .d, rfl, by simp, fun i t e => ⟨.d (tblL t), .d (.grp (nts t.1)), .d (.list (nts t.2)), by rw [List.getElem?_map, List.getElem?_map, e]; rfl, rfl, .inr rfl, .inl rfl⟩⟩
theorem listed_handed {L : Lo} {ts : List Tab} : Handed L (.d (.list (ts.map fun t => D.tuple [.list (nts t.1), .list (nts t.2)]))) ts :=
  ⟨(ts.map fun t => D.tuple [.list (nts t.1), .list (nts t.2)]).map .d, rfl, by simp, fun i t e => ⟨.d (.tuple [.list (nts t.1), .list (nts t.2)]), .d (.list (nts t.1)), .d (.list (nts t.2)), by rw [List.getElem?_map, List.getElem?_map, e]; rfl, rfl, .inl rfl, .inl rfl⟩⟩

theorem pass_at {L : Lo} {n : Nat} {c b : Int} (h : L[n]? = some (stB c b)) : PassOk [n] L [stB c b] := pass1 (ds := [.int c, .int b]) h
theorem mrg_at {L : Lo} {n : Nat} {c b : Int} : mrg [n] L [stB c b] = L.set n (stB c b) := mrg1 (ds := [.int c, .int b])
end GM

/-! GPf: lists within lists compared; lists of lists of numbers that are changed. -/
namespace GL
open PySem PySem.Spec L2
mutual
/-- what a value reads as, through own lists and tuples -/
inductive Rdn (L : Lo) : A → D → Prop
  | d {x : D} : Rdn L (.d x) x
  | own {n : Nat} {as : List A} {ds : List D} : L[n]? = some (.lst as) → RdnL L as ds → Rdn L (.own n) (.list ds)
  | tup {as : List A} {ds : List D} : RdnL L as ds → Rdn L (.tup as) (.tuple ds)
inductive RdnL (L : Lo) : List A → List D → Prop
  | nil : RdnL L [] []
  | cons {a : A} {x : D} {as : List A} {ds : List D} : Rdn L a x → RdnL L as ds → RdnL L (a :: as) (x :: ds)
end
section
variable {K : PySem.W.Frag} {W : Wd}
mutual
theorem Rdn.dp (ok : W.Ok K) : ∀ {a : A} {x : D}, Rdn W.L a x → ∀ {v : V}, At K W a v → Dp K W.H v x.py
  | _, _, .d, _, h => ((h.d_iff).mono ok.base).dp
  | _, _, .own e r2, v, h => by
    obtain ⟨rfl, _⟩ := h.own_iff
    obtain ⟨u, e1, ⟨vs, rfl, q⟩, _⟩ := ok.own _ _ e (by intro z; cases z)
    exact .lst (SqL.of e1) (RdnL.dp ok r2 q)
  | _, _, .tup r2, v, h => by
    cases h with
    | tup e1 q => exact .tup (SqT.of (ok.base _ _ e1)) (RdnL.dp ok r2 q)
theorem RdnL.dp (ok : W.Ok K) : ∀ {as : List A} {ds : List D}, RdnL W.L as ds → ∀ {vs : List V}, AtL K W as vs → DpAll K W.H vs (D.pyL ds)
  | _, _, .nil, _, h => by cases h; exact .nil
  | _, _, .cons r1 r2, _, h => by
    cases h with
    | cons h1 h2 => exact .cons (Rdn.dp ok r1 h1) (RdnL.dp ok r2 h2)
end
end
def gEqN : G2 := fun a b L R => ∃ x y, Rdn L a x ∧ Rdn L b y ∧ SeqAt.shaped x.py = true ∧ SeqAt.shaped y.py = true ∧ R (.d (.bool (PyData.eqv x.py y.py))) L
def gNeN : G2 := fun a b L R => ∃ x y, Rdn L a x ∧ Rdn L b y ∧ SeqAt.shaped x.py = true ∧ SeqAt.shaped y.py = true ∧ R (.d (.bool (!PyData.eqv x.py y.py))) L
section
variable {X : Cx}
theorem c_eqN (hu : X.A.units + 64 < cLine) : OpG X (compareOp .Eq) gEqN := opr_imp (op_eqD hu) fun x y H Q h => by
    obtain ⟨W, a, b, R, e, ok, a1, a2, ⟨z, z', r1, r2, s1, s2, h⟩, fin⟩ := h
    subst e
    exact ⟨z.py, _, Rdn.dp ok r1 a1, Rdn.dp ok r2 a2, s1, s2, fin _ W _ h Grow.refl ok (.d (.bl _))⟩
theorem c_neN (hu : X.A.units + 64 < cLine) : OpG X (compareOp .NotEq) gNeN := opr_imp (op_neD hu) fun x y H Q h => by
    obtain ⟨W, a, b, R, e, ok, a1, a2, ⟨z, z', r1, r2, s1, s2, h⟩, fin⟩ := h
    subst e
    exact ⟨z.py, _, Rdn.dp ok r1 a1, Rdn.dp ok r2 a2, s1, s2, fin _ W _ h Grow.refl ok (.d (.bl _))⟩
/-- max(a, b) -/
def gMax2 : GC := fun as L R => on2 as fun a b => onI a fun i => onI b fun j => R (.d (.int (if j > i then j else i))) L
theorem k_max2 (hc : X.calm = true) : CallG X (.builtin "max") gMax2 := callr_imp (call_max2 hc) fun vs H Q h => by
  obtain ⟨W, as, R, e, ok, ats, h0, fin⟩ := h
  obtain ⟨a, b, ea, h1⟩ := on2_el h0
  obtain ⟨i, ei, h2⟩ := onI_el h1
  obtain ⟨j, ej, h3⟩ := onI_el h2
  subst ea e ei ej
  obtain ⟨v, u, rfl, a1, a2⟩ := ats.two
  exact ⟨i, j, by rw [a1.int, a2.int], fin _ W _ h3 Grow.refl ok (.d (.int _))⟩
end
theorem rdnL_of {L : Lo} : ∀ {as : List A} {ds : List D}, as.length = ds.length → (∀ (k : Nat) (d : D), ds[k]? = some d → ∃ a, as[k]? = some a ∧ Rdn L a d) → RdnL L as ds
  | [], [], _, _ => .nil
  | [], _ :: _, h, _ => by simp at h
  | _ :: _, [], h, _ => by simp at h
  | a :: as, d :: ds, h, g => by
    obtain ⟨b, e, r⟩ := g 0 d rfl
    cases e
    exact .cons r (rdnL_of (by simpa using h) fun k d e => g (k + 1) d e)
theorem rdnL_d {L : Lo} : ∀ {ds : List D}, RdnL L (ds.map .d) ds
  | [] => .nil
  | _ :: _ => .cons .d rdnL_d
end GL
namespace GM
open GL PySem L2 SX
theorem pl_rdn {L : Lo} {a : GL.A} {ds : List D} (h : plOf L a = some (ds.map .d)) : Rdn L a (.list ds) := by
  unfold plOf at h
  split at h
  · have e := congrArg allD (Option.some.inj h)
    rw [allD_map, allD_map] at e
    cases e; exact .d
  · exact .own (cel_eq h) rdnL_d
  · cases h
theorem RdIn.rdn {L : Lo} {a : GL.A} {prs : List (List Int)} (h : RdIn L a prs) : Rdn L a (.list (lnsD prs)) := by
  obtain ⟨as, h1, h2, h3⟩ := h
  unfold plOf at h1
  split at h1
  · rename_i ds
    have e : as = ds.map .d := (Option.some.inj h1).symm
    subst e
    have e2 : ds = lnsD prs := by
      refine List.ext_getElem? fun k => ?_
      by_cases hk : k < prs.length
      · have e := List.getElem?_eq_getElem hk
        obtain ⟨x, e1, e3⟩ := h3 k _ e
        rw [List.getElem?_map] at e1
        unfold lnsD
        rw [List.getElem?_map, e]
        cases h : ds[k]? with
        | none => rw [h] at e1; cases e1
        | some d =>
          rw [h] at e1
          cases e1
          cases d with
          | list l =>
            have e4 := congrArg allD (Option.some.inj (show some (l.map GL.A.d) = _ from e3))
            rw [allD_map, allD_map] at e4
            cases e4; rfl
          | _ => cases e3
      · rw [List.getElem?_eq_none (by rw [List.length_map] at h2; omega), List.getElem?_eq_none (by rw [List.length_map]; omega)]
    rw [e2]; exact .d
  · refine .own (cel_eq h1) (rdnL_of (by rw [h2, List.length_map]) fun k d e => ?_)
    unfold lnsD at e
    rw [List.getElem?_map] at e
    cases h : prs[k]? with
    | none => rw [h] at e; cases e
    | some p =>
      rw [h] at e; cases e
      obtain ⟨x, e1, e3⟩ := h3 k p h
      exact ⟨x, e1, pl_rdn e3⟩
  · cases h1
theorem shLns {ls : List (List Int)} : Sh 2 (.list (lnsD ls)) := Sh.list fun d hd => by
  obtain ⟨l, _, rfl⟩ := List.mem_map.mp hd
  exact Sh.ntsL
/-- some list of some lists of numbers -/
def LsIn (L : Lo) (lo hi : Nat) (a : GL.A) : Prop := ∃ prs, RdIn L a prs ∧ lo ≤ prs.length ∧ prs.length ≤ hi ∧ ∀ p ∈ prs, lo ≤ p.length ∧ p.length ≤ hi
theorem LsIn.wide {L : Lo} {lo hi lo2 hi2 : Nat} {a : GL.A} (h : LsIn L lo hi a) (h1 : lo2 ≤ lo) (h2 : hi ≤ hi2) : LsIn L lo2 hi2 a := by
  obtain ⟨prs, r, l1, l2, l3⟩ := h
  exact ⟨prs, r, by omega, by omega, fun p hp => by have := l3 p hp; omega⟩
theorem LsIn.more {L J : Lo} {lo hi : Nat} {a : GL.A} (h : LsIn L lo hi a) : LsIn (L ++ J) lo hi a := by
  obtain ⟨prs, r, h⟩ := h
  exact ⟨prs, r.more, h⟩
theorem all_pick {β : Type} {P : Nat → β → Prop} : ∀ n : Nat, (∀ k, k < n → ∃ y, P k y) → ∃ l : List β, l.length = n ∧ ∀ k y, l[k]? = some y → P k y
  | 0, _ => ⟨[], rfl, fun k y e => by simp at e⟩
  | n + 1, h => by
    obtain ⟨l, h1, h2⟩ := all_pick n fun k hk => h k (by omega)
    obtain ⟨y, hy⟩ := h n (by omega)
    refine ⟨l ++ [y], by simp [h1], fun k z e => ?_⟩
    by_cases hk : k < n
    · rw [List.getElem?_append_left (by omega)] at e; exact h2 k z e
    · have hk2 : k = n := by
        have := (List.getElem?_eq_some_iff.mp e).1
        simp at this; omega
      subst hk2
      rw [List.getElem?_append_right (by omega), h1, Nat.sub_self] at e
      cases e; exact hy
theorem pl_set {L : Lo} {n : Nat} {o : AO} {a : GL.A} (h : a ≠ .own n) : plOf (L.set n o) a = plOf L a := by
  cases a with
  | own m =>
    show cel _ m = cel L m
    unfold cel
    rw [List.getElem?_set_ne fun e => h (by rw [e])]
  | d x => cases x <;> rfl
  | _ => rfl
theorem LsIn.set {L : Lo} {lo hi n : Nat} {c b c2 b2 : Int} {a : GL.A} (hn : L[n]? = some (stB c b)) (h : LsIn L lo hi a) : LsIn (L.set n (stB c2 b2)) lo hi a := by
  obtain ⟨prs, ⟨as, r1, r2, r3⟩, l1, l2, l3⟩ := h
  have hna : a ≠ .own n := by
    rintro rfl
    rw [pl_own hn] at r1
    have e := Option.some.inj r1
    have e0 : as[0]? = some (.d (.int c)) := by rw [← e]; rfl
    have hl : 0 < prs.length := by rw [← r2, ← e]; exact Nat.zero_lt_succ _
    obtain ⟨x, e1, e2⟩ := r3 0 _ (List.getElem?_eq_getElem hl)
    rw [e0] at e1; cases e1; cases e2
  have key : ∀ k, k < prs.length → ∃ q : List Int, lo ≤ q.length ∧ q.length ≤ hi ∧ ∃ x, as[k]? = some x ∧ plOf (L.set n (stB c2 b2)) x = some ((nts q).map .d) := fun k hk => by
    have e := List.getElem?_eq_getElem hk
    obtain ⟨x, e1, e2⟩ := r3 k _ e
    have hb := l3 _ (List.mem_of_getElem? e)
    by_cases hx : x = .own n
    · subst hx
      rw [pl_own hn] at e2
      have e3 := congrArg List.length (Option.some.inj e2)
      simp at e3
      exact ⟨[c2, b2], by simp; omega, by simp; omega, _, e1, pl_own (by rw [List.getElem?_set_self (List.getElem?_eq_some_iff.mp hn).1]; rfl)⟩
    · exact ⟨_, hb.1, hb.2, x, e1, by rw [pl_set hx]; exact e2⟩
  obtain ⟨l, h1, h2⟩ := all_pick prs.length key
  refine ⟨l, ⟨as, by rw [pl_set hna]; exact r1, by omega, fun k p e => ?_⟩, by omega, by omega, fun p hp => ?_⟩
  · obtain ⟨_, _, x, e1, e2⟩ := h2 k p e
    exact ⟨x, e1, e2⟩
  · obtain ⟨k, hk, e⟩ := List.getElem_of_mem hp
    have := h2 k p (by rw [List.getElem?_eq_getElem hk, e])
    exact ⟨this.1, this.2.1⟩
/-- .. of its own data -/
theorem LsIn.of {L : Lo} {lo hi : Nat} {prs : List (List Int)} (h1 : lo ≤ prs.length) (h2 : prs.length ≤ hi) (h3 : ∀ p ∈ prs, lo ≤ p.length ∧ p.length ≤ hi) : LsIn L lo hi (.d (.list (lnsD prs))) :=
  ⟨prs, ⟨(lnsD prs).map .d, rfl, by simp, fun k p e => ⟨.d (.list (nts p)), by rw [List.getElem?_map, List.getElem?_map, e]; rfl, rfl⟩⟩, h1, h2, h3⟩
end GM

/-! GPg: is True; lists copied within lists. -/
namespace GL
open PySem PySem.Spec L2
section
variable {X : Cx}
theorem op_isB : OpR X (compareOp .Is) (fun x y H Q => ∃ i j, x = .bl i ∧ y = .bl j ∧ Q (.bl (decide (i = j))) H) := by
  intro pins s σ H x y v u Q I rx ry h
  obtain ⟨i, j, rfl, rfl, q⟩ := h
  cases rx
  cases ry
  exact wpAny_is_plain rfl (fin_bl I q (by cases i <;> cases j <;> rfl))
theorem op_notB : OpR X (compareOp .IsNot) (fun x y H Q => ∃ i j, x = .bl i ∧ y = .bl j ∧ Q (.bl (!decide (i = j))) H) := by
  intro pins s σ H x y v u Q I rx ry h
  obtain ⟨i, j, rfl, rfl, q⟩ := h
  cases rx
  cases ry
  exact wpAny_isNot_plain rfl (fin_bl I q (by cases i <;> cases j <;> rfl))
theorem c_isB : OpG X (compareOp .Is) (fun a b L R => onB a fun x => onB b fun y => R (.d (.bool (decide (x = y)))) L) := opr_imp op_isB fun x y H Q h => by
    obtain ⟨W, a, b, R, e, ok, a1, a2, h, fin⟩ := h
    obtain ⟨i, ea, h1⟩ := onB_el h
    subst ea
    obtain ⟨j, eb, h2⟩ := onB_el h1
    subst eb
    exact ⟨i, j, a1.bl, a2.bl, e ▸ fin _ W _ h2 Grow.refl ok (.d (.bl _))⟩
theorem c_notB : OpG X (compareOp .IsNot) (fun a b L R => onB a fun x => onB b fun y => R (.d (.bool (!decide (x = y)))) L) := opr_imp op_notB fun x y H Q h => by
    obtain ⟨W, a, b, R, e, ok, a1, a2, h, fin⟩ := h
    obtain ⟨i, ea, h1⟩ := onB_el h
    subst ea
    obtain ⟨j, eb, h2⟩ := onB_el h1
    subst eb
    exact ⟨i, j, a1.bl, a2.bl, e ▸ fin _ W _ h2 Grow.refl ok (.d (.bl _))⟩
end
end GL
namespace GM
open GL PySem L2 SX
/-- a list of lists copied: the cells of the lists, and the list's -/
def cpJ (b : Nat) (prs : List (List Int)) : Lo := (prs.map fun p => AO.lst ((nts p).map .d)) ++ [.lst (whA b prs.length)]
section
variable {L J : Lo} {prs : List (List Int)}
theorem cp_out : (L ++ cpJ L.length prs ++ J)[L.length + prs.length]? = some (.lst (whA L.length prs.length)) := by
  unfold cpJ
  rw [papp, List.getElem?_append_right (by omega), papp, List.getElem?_append_right (by rw [List.length_map]; omega), List.length_map]
  rw [show L.length + prs.length - L.length - prs.length = 0 by omega]; rfl
theorem cp_in {k : Nat} (h : k < prs.length) : (L ++ cpJ L.length prs ++ J)[L.length + k]? = some (.lst ((nts (prs.getD k [])).map .d)) := by
  unfold cpJ
  rw [papp, List.getElem?_append_right (by omega), papp, show L.length + k - L.length = k by omega, List.getElem?_append_left (by rw [List.length_map]; exact h), List.getElem?_map, List.getD_eq_getElem?_getD, List.getElem?_eq_getElem h]; rfl
theorem cp_rd0 (k : Nat) (p : List Int) (e : prs[k]? = some p) : ∃ x, (whA L.length prs.length)[k]? = some x ∧ plOf (L ++ cpJ L.length prs ++ J) x = some ((nts p).map .d) := by
  have hk := (List.getElem?_eq_some_iff.mp e).1
  refine ⟨_, whA_get hk, pl_own ?_⟩
  rw [cp_in hk, List.getD_eq_getElem?_getD, e]; rfl
theorem cp_rd : RdIn (L ++ cpJ L.length prs ++ J) (.own (L.length + prs.length)) prs :=
  ⟨_, pl_own cp_out, whA_len, fun k p e => cp_rd0 k p e⟩
theorem cp_len : (cpJ L.length prs).length = prs.length + 1 := by simp [cpJ]
theorem cset {x y : AO} {n : Nat} (h : n < L.length) : (L.set n x ++ J).set n y = L.set n y ++ J := by
  rw [List.set_append_left _ _ (by rw [List.length_set]; exact h), List.set_set]
theorem cset0 {y : AO} {n : Nat} (h : n < L.length) : (L ++ J).set n y = L.set n y ++ J := List.set_append_left _ _ h
end
end GM
namespace GM
theorem len_set {bet : List (List Int)} {k : Nat} {q : List Int} (h : k < bet.length) (e : q.length = (bet.getD k []).length) : (bet.set k q).map (·.length) = bet.map (·.length) := by
  refine List.ext_getElem? fun j => ?_
  rw [List.getElem?_map, List.getElem?_map]
  by_cases hj : j = k
  · subst hj
    rw [List.getElem?_set_self h, List.getElem?_eq_getElem h, Option.map_some, Option.map_some, e, List.getD_eq_getElem?_getD, List.getElem?_eq_getElem h]; rfl
  · rw [List.getElem?_set_ne (Ne.symm hj)]
theorem lnsD_get {bet : List (List Int)} {k : Nat} (h : k < bet.length) : ((lnsD bet).map GL.A.d)[k]? = some (.d (.list (GL.nts (bet.getD k [])))) := by
  rw [List.getElem?_map, List.getElem?_map, List.getD_eq_getElem?_getD, List.getElem?_eq_getElem h]; rfl
end GM
namespace GM
open GL
theorem bel_lns {k : Nat} {c b : Int} {ds : List D} : belLo k [stB c b, .lst (ds.map .d)] = true := by
  show (belO k (stB c b) && (belL k (ds.map .d) && true)) = true
  rw [bel_ds]; rfl
theorem take_getD {α : Type} {l : List (List α)} {i : Nat} (h : i < l.length) : l.take (i + 1) = l.take i ++ [l.getD i []] := by
  rw [List.take_add_one, List.getD_eq_getElem?_getD, List.getElem?_eq_getElem h]; rfl
end GM
namespace GM
open GL PySem L2 SX
section
variable {L2 J : Lo} {b : Nat} {prs : List (List Int)}
theorem cpo (h : L2.length = b) : (L2 ++ cpJ b prs ++ J)[b + prs.length]? = some (.lst (whA b prs.length)) := by
  subst h; exact cp_out
theorem cpi (h : L2.length = b) {k : Nat} (hk : k < prs.length) : (L2 ++ cpJ b prs ++ J)[b + k]? = some (.lst ((nts (prs.getD k [])).map .d)) := by
  subst h; exact cp_in hk
theorem cpo0 (h : L2.length = b) : (L2 ++ cpJ b prs)[b + prs.length]? = some (.lst (whA b prs.length)) := by
  have := cpo (J := []) (prs := prs) h
  rwa [List.append_nil] at this
theorem cpi0 (h : L2.length = b) {k : Nat} (hk : k < prs.length) : (L2 ++ cpJ b prs)[b + k]? = some (.lst ((nts (prs.getD k [])).map .d)) := by
  have := cpi (J := []) (prs := prs) h hk
  rwa [List.append_nil] at this
theorem cpr0 (h : L2.length = b) : RdIn (L2 ++ cpJ b prs) (.own (b + prs.length)) prs := by
  subst h
  have := cp_rd (L := L2) (J := []) (prs := prs)
  rwa [List.append_nil] at this
theorem cp_set {k : Nat} {p : List Int} (hk : k < prs.length) : (cpJ b prs).set k (.lst ((nts p).map .d)) = cpJ b (prs.set k p) := by
  unfold cpJ
  rw [List.set_append_left _ _ (by rw [List.length_map]; exact hk), List.map_set, List.length_set]
theorem cp_iset (h : L2.length = b) {k : Nat} {p : List Int} (hk : k < prs.length) : (L2 ++ cpJ b prs).set (b + k) (.lst ((nts p).map .d)) = L2 ++ cpJ b (prs.set k p) := by
  rw [List.set_append_right _ _ (by omega), show b + k - L2.length = k by omega, cp_set hk]
theorem cp_oset (h : L2.length = b) {k : Nat} {p : List Int} (hk : k < prs.length) : ∃ J, (L2 ++ cpJ b prs).set (b + prs.length) (.lst ((whA b prs.length).set k (.d (.list (nts p))))) = L2 ++ J ∧ RdIn (L2 ++ J) (.own (b + prs.length)) (prs.set k p) := by
  refine ⟨(cpJ b prs).set prs.length (.lst ((whA b prs.length).set k (.d (.list (nts p))))), ?_, ?_⟩
  · rw [List.set_append_right _ _ (by omega), show b + prs.length - L2.length = prs.length by omega]
  have e : (cpJ b prs).set prs.length (.lst ((whA b prs.length).set k (.d (.list (nts p))))) = (prs.map fun p => AO.lst ((nts p).map .d)) ++ [.lst ((whA b prs.length).set k (.d (.list (nts p))))] := by
    unfold cpJ
    rw [List.set_append_right _ _ (by rw [List.length_map]; omega), List.length_map, Nat.sub_self]; rfl
  rw [e]
  refine ⟨(whA b prs.length).set k (.d (.list (nts p))), pl_own ?_, by rw [List.length_set, List.length_set, whA_len], fun j r ej => ?_⟩
  · rw [List.getElem?_append_right (by omega), List.getElem?_append_right (by rw [List.length_map]; omega), List.length_map, show b + prs.length - L2.length - prs.length = 0 by omega]; rfl
  · by_cases hjk : k = j
    · subst hjk
      rw [List.getElem?_set_self hk] at ej
      cases ej
      exact ⟨_, List.getElem?_set_self (by rw [whA_len]; exact hk), rfl⟩
    · rw [List.getElem?_set_ne hjk] at ej
      have hj := (List.getElem?_eq_some_iff.mp ej).1
      refine ⟨_, by rw [List.getElem?_set_ne hjk]; exact whA_get hj, pl_own ?_⟩
      rw [List.getElem?_append_right (by omega), show b + j - L2.length = j by omega, List.getElem?_append_left (by rw [List.length_map]; exact hj), List.getElem?_map, ej]; rfl
theorem cp_drop (h : L2.length = b) {m : Nat} (e : (L2 ++ cpJ b prs ++ J)[m]? = some (.lst ((whA b prs.length).drop 1))) : RdIn (L2 ++ cpJ b prs ++ J) (.own m) (prs.drop 1) := by
  subst h
  refine ⟨_, pl_own e, by simp [whA_len], fun k p ek => ?_⟩
  rw [List.getElem?_drop] at ek
  obtain ⟨x, h1, h2⟩ := cp_rd0 (J := J) _ _ ek
  exact ⟨x, by rw [List.getElem?_drop]; exact h1, h2⟩
theorem cp_app (h : L2.length = b) {m : Nat} {q : List Int} (e : (L2 ++ cpJ b prs ++ J)[m]? = some (.lst (whA b prs.length ++ [.d (.list (nts q))]))) : RdIn (L2 ++ cpJ b prs ++ J) (.own m) (prs ++ [q]) := by
  subst h
  refine ⟨_, pl_own e, by simp [whA_len], fun k p ek => ?_⟩
  by_cases hk : k < prs.length
  · rw [List.getElem?_append_left hk] at ek
    obtain ⟨x, h1, h2⟩ := cp_rd0 (J := J) _ _ ek
    exact ⟨x, by rw [List.getElem?_append_left (by rw [whA_len]; exact hk)]; exact h1, h2⟩
  · have hk2 : k = prs.length := by
      have := (List.getElem?_eq_some_iff.mp ek).1
      simp at this; omega
    subst hk2
    rw [List.getElem?_append_right (Nat.le_refl _), Nat.sub_self] at ek
    cases ek
    exact ⟨_, by rw [List.getElem?_append_right (by rw [whA_len]; exact Nat.le_refl _), whA_len, Nat.sub_self]; rfl, rfl⟩
theorem rd_lns {L : Lo} : RdIn L (.d (.list (lnsD prs))) prs :=
  ⟨(lnsD prs).map .d, rfl, by simp, fun k p e => ⟨.d (.list (nts p)), by rw [List.getElem?_map, List.getElem?_map, e]; rfl, rfl⟩⟩
theorem ls_set {lo hi k : Nat} {p : List Int} (h : ∀ q ∈ prs, lo ≤ q.length ∧ q.length ≤ hi) (hp : lo ≤ p.length ∧ p.length ≤ hi) : ∀ q ∈ prs.set k p, lo ≤ q.length ∧ q.length ≤ hi := fun q hq => by
  rcases List.mem_or_eq_of_mem_set hq with z | z
  · exact h q z
  · rw [z]; exact hp
theorem ls_rng {lo hi m : Nat} {f : Nat → List Int} (h : ∀ k, k < m → lo ≤ (f k).length ∧ (f k).length ≤ hi) : ∀ q ∈ (List.range m).map f, lo ≤ q.length ∧ q.length ≤ hi := fun q hq => by
  obtain ⟨k, hk, rfl⟩ := List.mem_map.mp hq
  exact h k (List.mem_range.mp hk)
end
theorem cut1 {α : Type} {l : List α} : cutL l (some 1) none = l.drop 1 := by
  unfold cutL
  cases l with
  | nil => rfl
  | cons a l =>
    have e1 : HT.sIx (a :: l).length 0 (some 1) = 1 := by
      unfold HT.sIx; simp
    have e2 : HT.sIx (a :: l).length (a :: l).length none = (a :: l).length := rfl
    rw [e1, e2]; simp
end GM

/-! GPh: tuples told of two, own or not. -/
namespace GM
open GL PySem L2 SX
theorem tpo_sq {L : Lo} {a : GL.A} {as : List GL.A} (h : tpOf a = some as) : sqOf L a = some as := by
  cases a with
  | d x => cases x <;> first | exact h | cases h
  | tup xs => exact h
  | _ => cases h
theorem rdnL_d {L : Lo} : ∀ {ds es : List D}, RdnL L (ds.map .d) es → ds = es
  | [], _, h => by cases h; rfl
  | d :: ds, _, h => by
    cases h with
    | cons h1 h2 =>
      cases h1
      rw [rdnL_d h2]
theorem tp_rdn {L : Lo} {a : GL.A} {as : List GL.A} {ds : List D} (h : tpOf a = some as) (h2 : RdnL L as ds) : ∃ z, Rdn L a z ∧ z.py = (D.tuple ds).py := by
  cases a with
  | d x =>
    cases x with
    | tuple es => cases h; exact ⟨_, .d, by rw [rdnL_d h2]⟩
    | grp es => cases h; exact ⟨.grp es, .d, by rw [rdnL_d h2]; rfl⟩
    | _ => cases h
  | tup xs => cases h; exact ⟨_, .tup h2, rfl⟩
  | _ => cases h
theorem Sh.str {k : Nat} {w : Str} (hw : PyData.strOk w = true) : Sh k (.str w) := ⟨by show PyData.canLay0 (.str w) = true; simp [PyData.canLay0, hw], by show PyData.depth (.str w) ≤ k; simp [PyData.depth]⟩
theorem Sh.py {k : Nat} {x y : D} (h : Sh k x) (e : y.py = x.py) : Sh k y := by unfold Sh at h ⊢; rw [e]; exact h
/-- a table told: numbers, and times -/
def TbIn (L : Lo) (lo hi : Nat) (tb : GL.A) : Prop := ∃ na xs s, tpOf tb = some [na, .d (.int s)] ∧ plOf L na = some ((nts xs).map .d) ∧ lo ≤ xs.length ∧ xs.length ≤ hi
theorem TbIn.more {L J : Lo} {lo hi : Nat} {a : GL.A} (h : TbIn L lo hi a) : TbIn (L ++ J) lo hi a := by
  obtain ⟨na, xs, s, h1, h2, h⟩ := h
  exact ⟨na, xs, s, h1, pl_more h2, h⟩
theorem TbIn.wide {L : Lo} {lo hi lo2 hi2 : Nat} {a : GL.A} (h : TbIn L lo hi a) (h1 : lo2 ≤ lo) (h2 : hi ≤ hi2) : TbIn L lo2 hi2 a := by
  obtain ⟨na, xs, s, h3, h4, h5, h6⟩ := h
  exact ⟨na, xs, s, h3, h4, by omega, by omega⟩
/-- .. and a word with it -/
def TIn (L : Lo) (told : GL.A) : Prop := (∃ tb, tpOf told = some [.d (.str "glued"), tb] ∧ TbIn L 0 1000 tb) ∨ (∃ ba, tpOf told = some [.d (.str "never"), ba] ∧ LsIn L 0 1000 ba)
theorem TIn.more {L J : Lo} {a : GL.A} (h : TIn L a) : TIn (L ++ J) a := by
  rcases h with ⟨tb, h1, h2⟩ | ⟨ba, h1, h2⟩
  · exact .inl ⟨tb, h1, h2.more⟩
  · exact .inr ⟨ba, h1, h2.more⟩
theorem tb_rdn {L : Lo} {na tb : GL.A} {xs : List Int} {s : Int} (h1 : tpOf tb = some [na, .d (.int s)]) (h2 : plOf L na = some ((nts xs).map .d)) : ∃ z, Rdn L tb z ∧ z.py = (D.tuple [.list (nts xs), .int s]).py := tp_rdn h1 (.cons (pl_rdn h2) (.cons .d .nil))
theorem td_rdn {L : Lo} {told x : GL.A} {w : Str} {d z : D} (h1 : tpOf told = some [.d (.str w), x]) (h2 : Rdn L x z) (e : z.py = d.py) : ∃ z, Rdn L told z ∧ z.py = (D.tuple [.str w, d]).py := by
  obtain ⟨y, h3, h4⟩ := tp_rdn h1 (.cons .d (.cons h2 .nil))
  refine ⟨y, h3, h4.trans ?_⟩
  show PyData.tuple [_, z.py] = PyData.tuple [_, d.py]
  rw [e]
theorem sh_tb {xs : List Int} {s : Int} {w : Str} (hw : PyData.strOk w = true) : Sh 3 (.tuple [.str w, .tuple [.list (nts xs), .int s]]) := Sh.tuple fun d hd => by
  rcases List.mem_cons.mp hd with rfl | hd
  · exact Sh.str hw
  rw [List.mem_singleton.mp hd]
  refine Sh.tuple fun d hd => ?_
  rcases List.mem_cons.mp hd with rfl | hd
  · exact Sh.ntsL
  rw [List.mem_singleton.mp hd]; exact Sh.int
theorem sh_bt {ls : List (List Int)} {w : Str} (hw : PyData.strOk w = true) : Sh 3 (.tuple [.str w, .list (lnsD ls)]) := Sh.tuple fun d hd => by
  rcases List.mem_cons.mp hd with rfl | hd
  · exact Sh.str hw
  rw [List.mem_singleton.mp hd]; exact shLns
end GM
namespace GM
theorem sum_in {k : Int} : ∀ {ns : List Int}, (∀ x ∈ ns, 0 ≤ x ∧ x ≤ k) → 0 ≤ ns.sum ∧ ns.sum ≤ k * ns.length
  | [], _ => by simp
  | x :: ns, h => by
    have h1 := h x (List.mem_cons_self ..)
    have h2 := sum_in fun y hy => h y (List.mem_cons_of_mem _ hy)
    rw [List.sum_cons, List.length_cons]
    have e : k * ((ns.length + 1 : Nat) : Int) = k * ns.length + k := by rw [Int.natCast_add, Int.mul_add]; simp
    rw [e]; omega
end GM
namespace GM
open PySem
theorem ok_gl : PyData.strOk (Str.ofString "glued") = true := by
  unfold PyData.strOk; decide +kernel
theorem ok_nv : PyData.strOk (Str.ofString "never") = true := by
  unfold PyData.strOk; decide +kernel
end GM
namespace GM
open GL PySem L2 SX
theorem ToldIn.says {L : Lo} {fr : List Int} {ts : List Tab} {w : Int} {told : GL.A} (fam : FamOk fr w ts) (h : ToldIn L fr ts told) :
    (∃ x na xs t, tpOf told = some [.d (.str "glued"), x] ∧ tpOf x = some [na, .d (.int t)] ∧ plOf L na = some ((nts xs).map .d) ∧ 1 ≤ xs.length ∧ xs.length ≤ 900 ∧ GlP fr ts xs t) ∨ (∃ x bet, tpOf told = some [.d (.str "never"), x] ∧ RdIn L x bet ∧ LsIn L 1 900 x ∧ BtP fr ts bet) := by
  have hN := all_n fam.frame
  rcases h with ⟨na, xs, s, rfl, hn, gl, _⟩ | ⟨ba, bet, rfl, hp, bt, _⟩
  · exact .inl ⟨_, na, xs, s, rfl, rfl, hn.pl, by rw [gl.xl]; omega, by rw [gl.xl]; omega, gl⟩
  · refine .inr ⟨ba, bet, rfl, hp.rd, ⟨bet, hp.rd, ?_⟩, bt⟩
    have h8 := fam.eight
    have h0 := fam.ne
    obtain ⟨h1, h2⟩ := of_pl bt.pl
    refine ⟨by omega, by omega, fun p hp => ?_⟩
    obtain ⟨k, hk, e⟩ := List.getElem_of_mem hp
    have h3 := h2 k (by omega)
    rw [List.getD_eq_getElem?_getD, List.getElem?_eq_getElem hk, e] at h3
    have h4 := fam.tabs _ (tb_mem (ts := ts) (k := k) (by omega))
    have h5 := plN_lt h4 (rw_mem hN.2)
    have h6 : (tb ts k).2.length ≤ 729 := by rw [h4.len]; exact rowsR_le (kindsR_bd fam.frame.kinds h4.gr.mem) (by rw [kindsR_len]; have := h4.gr.len; have := fam.frame.six; omega)
    simp at h3; omega
theorem ToldIn.tin {L : Lo} {fr : List Int} {ts : List Tab} {w : Int} {told : GL.A} (fam : FamOk fr w ts) (h : ToldIn L fr ts told) : TIn L told := by
  rcases h.says fam with ⟨x, na, xs, t, h1, h2, h3, h4, h5, _⟩ | ⟨x, bet, h1, h2, h3, _⟩
  · exact .inl ⟨x, h1, na, xs, t, h2, h3, Nat.zero_le _, by omega⟩
  · exact .inr ⟨x, h1, h3.wide (by decide) (by decide)⟩
end GM

/-! GPi: sums told row by row. -/
namespace GM
open GL PySem L2 SX
/-- sums of the first i numbers, and of one more on the tables ahead of k -/
def SU (fr : List Int) (ts : List Tab) (xs : List Int) (i k : Nat) (prs : List (List Int)) : Prop := prs.length = ts.length ∧ ∀ k', k' < ts.length → (prs.getD k' []).length = (tb ts k').2.length ∧ ∀ j, j < (tb ts k').2.length → (prs.getD k' []).getD j 0 = sm (if k' < k then i + 1 else i) fun r => if plN fr (tb ts k') (rw_ fr r) = j then xs.getD r 0 else 0
section
variable {fr : List Int} {ts : List Tab} {xs : List Int} {prs : List (List Int)} {i k : Nat}
theorem SU.zero : SU fr ts xs 0 0 (ts.map fun t => List.replicate t.2.length (0 : Int)) := by
  refine ⟨by simp, fun k hk => ?_⟩
  have e : (ts.map fun t => List.replicate t.2.length (0 : Int)).getD k [] = List.replicate (tb ts k).2.length 0 := by
    rw [List.getD_eq_getElem?_getD, List.getElem?_map, tb_get hk]; rfl
  rw [e]
  refine ⟨by simp, fun j hj => ?_⟩
  rw [List.getD_eq_getElem?_getD, List.getElem?_replicate, if_pos hj]; rfl
theorem SU.next (h : SU fr ts xs i ts.length prs) : SU fr ts xs (i + 1) 0 prs := by
  refine ⟨h.1, fun k hk => ⟨(h.2 k hk).1, fun j hj => ?_⟩⟩
  rw [(h.2 k hk).2 j hj, if_pos hk, if_neg (Nat.not_lt_zero _)]
theorem set_ne' {α : Type} {l : List (List α)} {k j : Nat} {q : List α} (h : j ≠ k) : (l.set k q).getD j [] = l.getD j [] := by
  rw [List.getD_eq_getElem?_getD, List.getD_eq_getElem?_getD, List.getElem?_set_ne (Ne.symm h)]
theorem set_eq' {α : Type} {l : List (List α)} {k : Nat} {q : List α} (h : k < l.length) : (l.set k q).getD k [] = q := by
  rw [List.getD_eq_getElem?_getD, List.getElem?_set_self h]; rfl
theorem setI_ne {l : List Int} {k j : Nat} {q : Int} (h : j ≠ k) : (l.set k q).getD j 0 = l.getD j 0 := by
  rw [List.getD_eq_getElem?_getD, List.getD_eq_getElem?_getD, List.getElem?_set_ne (Ne.symm h)]
theorem setI_eq {l : List Int} {k : Nat} {q : Int} (h : k < l.length) : (l.set k q).getD k 0 = q := by
  rw [List.getD_eq_getElem?_getD, List.getElem?_set_self h]; rfl
theorem SU.step (h : SU fr ts xs i k prs) (hk : k < ts.length) (hp : plN fr (tb ts k) (rw_ fr i) < (tb ts k).2.length) :
    SU fr ts xs i (k + 1) (prs.set k ((prs.getD k []).set (plN fr (tb ts k) (rw_ fr i)) ((prs.getD k []).getD (plN fr (tb ts k) (rw_ fr i)) 0 + xs.getD i 0))) := by
  have hl := h.1
  have h1 := h.2 k hk
  refine ⟨by rw [List.length_set]; exact h.1, fun k' hk' => ?_⟩
  by_cases e : k' = k
  · subst e
    rw [set_eq' (by omega)]
    refine ⟨by rw [List.length_set]; exact h1.1, fun j hj => ?_⟩
    rw [if_pos (Nat.lt_succ_self _)]
    have h2 := h1.2 j hj
    rw [if_neg (Nat.lt_irrefl _)] at h2
    show _ = sm i _ + (if _ then _ else _)
    by_cases ej : j = plN fr (tb ts k') (rw_ fr i)
    · subst ej
      rw [setI_eq (by omega), if_pos rfl, h2]
    · rw [setI_ne ej, if_neg (fun z => ej z.symm), h2, Int.add_zero]
  · rw [set_ne' e]
    have h2 := h.2 k' hk'
    refine ⟨h2.1, fun j hj => ?_⟩
    rw [h2.2 j hj]
    by_cases z : k' < k
    · rw [if_pos z, if_pos (by omega)]
    · rw [if_neg z, if_neg (by omega)]
theorem plF_get {r : List Int} {k : Nat} (hk : k < ts.length) : (plF fr ts r)[k]? = some ((plN fr (tb ts k) r : Nat) : Int) := by
  unfold plF
  rw [List.getElem?_map, tb_get hk]; rfl
end
end GM
namespace GM
open GL PySem L2 SX
/-- a part told -/
def P4 (L : Lo) (lo hi B : Nat) (a : GL.A) : Prop := ∃ na xs t pa prs s, tpOf a = some [na, .d (.int t), pa, .d (.int s)] ∧ plOf L na = some ((nts xs).map .d) ∧ RdIn L pa prs ∧ lo ≤ xs.length ∧ xs.length ≤ hi ∧ lo ≤ prs.length ∧ prs.length ≤ hi ∧ (∀ p ∈ prs, lo ≤ p.length ∧ p.length ≤ hi) ∧ (∀ x ∈ xs, x.natAbs < 2 ^ B) ∧ (∀ p ∈ prs, ∀ x ∈ p, x.natAbs < 2 ^ B) ∧ t.natAbs < 2 ^ B ∧ s.natAbs < 2 ^ B
theorem P4.more {L J : Lo} {lo hi B : Nat} {a : GL.A} (h : P4 L lo hi B a) : P4 (L ++ J) lo hi B a := by
  obtain ⟨na, xs, t, pa, prs, s, h1, h2, h3, h⟩ := h
  exact ⟨na, xs, t, pa, prs, s, h1, pl_more h2, h3.more, h⟩
theorem up2 {n B C : Nat} (h : n < 2 ^ B) (h2 : B ≤ C) : n < 2 ^ C := Nat.lt_of_lt_of_le h (Nat.pow_le_pow_right (by decide) h2)
theorem P4.wide {L : Lo} {lo hi B lo2 hi2 B2 : Nat} {a : GL.A} (h : P4 L lo hi B a) (h1 : lo2 ≤ lo) (h2 : hi ≤ hi2) (h3 : B ≤ B2) : P4 L lo2 hi2 B2 a := by
  obtain ⟨na, xs, t, pa, prs, s, e1, e2, e3, e4, e5, e6, e7, e8, e9, e10, e11, e12⟩ := h
  exact ⟨na, xs, t, pa, prs, s, e1, e2, e3, by omega, by omega, by omega, by omega, fun p hp => by have := e8 p hp; omega, fun x hx => up2 (e9 x hx) h3, fun p hp x hx => up2 (e10 p hp x hx) h3, up2 e11 h3, up2 e12 h3⟩
theorem p4_rdn {L : Lo} {a na pa : GL.A} {xs : List Int} {t s : Int} {prs : List (List Int)} (h1 : tpOf a = some [na, .d (.int t), pa, .d (.int s)]) (h2 : plOf L na = some ((nts xs).map .d)) (h3 : RdIn L pa prs) : ∃ z, Rdn L a z ∧ z.py = (D.tuple [.list (nts xs), .int t, .list (lnsD prs), .int s]).py := tp_rdn h1 (.cons (pl_rdn h2) (.cons .d (.cons h3.rdn (.cons .d .nil))))
theorem sh_p4 {xs : List Int} {t s : Int} {prs : List (List Int)} : Sh 3 (.tuple [.list (nts xs), .int t, .list (lnsD prs), .int s]) := Sh.tuple fun d hd => by
  rcases List.mem_cons.mp hd with rfl | hd
  · exact ⟨Sh.ntsL.1, Nat.le_succ_of_le (Sh.ntsL.2)⟩
  rcases List.mem_cons.mp hd with rfl | hd
  · exact Sh.int
  rcases List.mem_cons.mp hd with rfl | hd
  · exact shLns
  rw [List.mem_singleton.mp hd]; exact Sh.int
theorem small {x : Int} {B : Nat} (h : x.natAbs < 2 ^ 40) (hB : 40 ≤ B := by decide) : x.natAbs < 2 ^ B := up2 h hB
theorem pow49 : (2 : Nat) ^ 4910 ≤ 2 ^ 5000 := Nat.pow_le_pow_right (by decide) (by decide)
theorem pw49 : (2 : Nat) ^ 4910 = 1024 * 2 ^ 4900 := by rw [show 4910 = 10 + 4900 by rfl, Nat.pow_add]
theorem p49 : 1 ≤ 2 ^ 4900 := Nat.pow_pos (by decide)
/-- a number changed by little -/
theorem chg {x y : Int} (h : x.natAbs < 2 ^ 4900) (hy : y.natAbs ≤ 4 * x.natAbs + 4) : y.natAbs < 2 ^ 5000 := by
  refine Nat.lt_of_lt_of_le ?_ pow49
  rw [pw49]
  have := p49
  generalize 2 ^ 4900 = n at *
  omega
end GM

/-! GPj: the greatest part's share of the whole. -/
namespace GL
open PySem PySem.Spec PyProof.Rows L2
section
variable {X : Cx} {Wx : WX}
/-- a, b = e1, e2 -/
def gPar (i j : Nat) (gs : GTA) : GTS := fun D s L => gs s L fun as L1 => on2 as fun a b => D.nx ((s.set i (some a)).set j (some b)) L1
theorem s_par {i j : Nat} {x y : Str} {a b : Expr} {gs : GTA} {px py pt pos : Pos} {kt k2 pt2} (hc : X.calm = true) (hN : X.N.Nodup) (hi : X.N[i]? = some x) (hj : X.N[j]? = some y) (hij : i ≠ j)
    (hx : X.env.scope.names.lookup x = some .local) (hy : X.env.scope.names.lookup y = some .local) (ha : GA X [a, b] gs)
    (hw : swappedStores [.Tuple [.Name x px, .Name y py] kt pt] (.Tuple [a, b] k2 pt2) X.env = pure (some [x, y]))
    (hs : swapsWithSole [.Tuple [.Name x px, .Name y py] kt pt] (.Tuple [a, b] k2 pt2) pos.line X.env = pure false := by rfl) :
    GS X Wx (.Assign [.Tuple [.Name x px, .Name y py] kt pt] (.Tuple [a, b] k2 pt2) pos) (gPar i j gs) := ⟨fun W0 => ps_imp (ps_par hc hN hi hj hij hx hy ha.pa hw hs) fun D σ H h => by
  obtain ⟨W, s, E, e, ok, ats, gr, h, fin⟩ := h
  refine ⟨W, s, _, e, ok, ats, h, fun as W1 vs q g1 ok1 at1 => ?_⟩
  obtain ⟨c, d, rfl, q⟩ := on2_el q
  obtain ⟨v, u, rfl, av, au⟩ := at1.two
  exact ⟨v, u, rfl, fin.nx _ W1 _ q (gr.trans g1) ok1 (((ats.mono g1).set i av).set j au)⟩⟩
end
end GL
namespace GM
open GL PySem L2 SX
section
variable {fr : List Int} {w : Int} {ts : List Tab} {xs : List Int} {prs : List (List Int)}
/-- numbers that the counts let in, times t -/
structure Fs (fr : List Int) (ts : List Tab) (ys : List Int) (t : Int) : Prop where
  xl : ys.length = (rowsR fr).length
  nn : ∀ x ∈ ys, 0 ≤ x
  caps : ∀ a ∈ ts, ∀ j, j < a.2.length → (smsF fr ys a).getD j 0 ≤ a.2.getD j 0 * t
theorem PtOk.fs {ws : List Int} {s : Int} (p : PtOk fr ts ws s xs prs) : Fs fr ts xs s := ⟨p.xl, fun x hx => (p.xb x hx).1, p.caps⟩
/-- any such numbers come to no more than what the prices with the counts come to -/
theorem PtOk.topW (fam : FamOk fr w ts) {ws : List Int} {s : Int} (p : PtOk fr ts ws s xs prs) {ys : List Int} {t : Int} (f : Fs fr ts ys t) :
    (sm (rowsR fr).length fun i => ws.getD i 0 * ys.getD i 0) * s ≤ (sm (rowsR fr).length fun i => ws.getD i 0 * xs.getD i 0) * t := by
  have h1 := come_sums (prs := prs) fam f.xl
  have h2 : (sm (rowsR fr).length fun i => ws.getD i 0 * ys.getD i 0) * s ≤ sm (rowsR fr).length fun i => ys.getD i 0 * comeAt fr ts prs (rw_ fr i) := by
    rw [← sm_mulR]
    refine sm_le fun i hi => ?_
    have hy := f.nn (ys.getD i 0) (List.mem_of_getElem? (getD_some (by rw [f.xl]; exact hi)))
    have := Int.mul_le_mul_of_nonneg_left (p.cover i hi) hy
    rw [show ws.getD i 0 * ys.getD i 0 * s = ys.getD i 0 * (s * ws.getD i 0) by rw [Int.mul_comm (ws.getD i 0), Int.mul_assoc, Int.mul_comm s]]
    exact this
  have h3 : (sm ts.length fun k => sm (tb ts k).2.length fun j => pr2 prs k j * (smsF fr ys (tb ts k)).getD j 0) ≤ wcF ts prs * t := by
    unfold wcF
    rw [← sm_mulR]
    refine sm_le fun k hk => ?_
    rw [← sm_mulR]
    refine sm_le fun j hj => ?_
    have hp : 0 ≤ pr2 prs k j := by
      have ep : prs[k]? = some (prs.getD k []) := by rw [List.getD_eq_getElem?_getD, List.getElem?_eq_getElem (by rw [p.pn]; exact hk)]; rfl
      exact (p.pb _ (List.mem_of_getElem? ep) _ (List.mem_of_getElem? (getD_some (by rw [p.pl k hk]; exact hj)))).1
    have := Int.mul_le_mul_of_nonneg_left (f.caps _ (tb_mem hk) j hj) hp
    rw [Int.mul_assoc]; exact this
  rw [p.same]
  exact Int.le_trans h2 (by rw [h1]; exact h3)
theorem PtOk.top (fam : FamOk fr w ts) {s : Int} (p : PtOk fr ts (List.replicate (rowsR fr).length 1) s xs prs) {ys : List Int} {t : Int} (f : Fs fr ts ys t) : ys.sum * s ≤ xs.sum * t := by
  have := p.topW fam f
  rwa [ones_sum f.xl, ones_sum p.xl] at this
/-- a fraction in lowest terms -/
def Low (a b : Int) : Prop := 0 ≤ a ∧ 1 ≤ b ∧ Int.gcd a b = 1
theorem Low.uniq {a b c d : Int} (h : Low a b) (k : Low c d) (e : a * d = c * b) : a = c ∧ b = d := by
  obtain ⟨a0, b1, g1⟩ := h
  obtain ⟨c0, d1, g2⟩ := k
  obtain ⟨a, rfl⟩ := Int.eq_ofNat_of_zero_le a0
  obtain ⟨b, rfl⟩ := Int.eq_ofNat_of_zero_le (show 0 ≤ b by omega)
  obtain ⟨c, rfl⟩ := Int.eq_ofNat_of_zero_le c0
  obtain ⟨d, rfl⟩ := Int.eq_ofNat_of_zero_le (show 0 ≤ d by omega)
  have g1 : Nat.gcd a b = 1 := g1
  have g2 : Nat.gcd c d = 1 := g2
  have e : a * d = c * b := by exact_mod_cast e
  have h1 : b ∣ d := (Nat.Coprime.dvd_of_dvd_mul_left (show Nat.Coprime b a from (Nat.gcd_comm b a).trans g1) (show b ∣ a * d from ⟨c, by rw [e, Nat.mul_comm]⟩))
  have h2 : d ∣ b := (Nat.Coprime.dvd_of_dvd_mul_left (show Nat.Coprime d c from (Nat.gcd_comm d c).trans g2) (show d ∣ c * b from ⟨a, by rw [← e, Nat.mul_comm]⟩))
  have hbd : b = d := Nat.dvd_antisymm h1 h2
  subst hbd
  have hb : 0 < b := by omega
  have := Nat.eq_of_mul_eq_mul_right hb e
  subst this
  exact ⟨rfl, rfl⟩
theorem Low.of {x y : Int} (hx : 0 ≤ x) (hy : 0 < y) : Low (x / (Int.gcd x y : Nat)) (y / (Int.gcd x y : Nat)) ∧ 0 < Int.gcd x y ∧ x = x / (Int.gcd x y : Nat) * (Int.gcd x y : Nat) ∧ y = y / (Int.gcd x y : Nat) * (Int.gcd x y : Nat) := by
  have hg : 0 < Int.gcd x y := Int.gcd_pos_of_ne_zero_right _ (by omega)
  have d1 : ((Int.gcd x y : Nat) : Int) ∣ x := Int.gcd_dvd_left x y
  have d2 : ((Int.gcd x y : Nat) : Int) ∣ y := Int.gcd_dvd_right x y
  have e1 := Int.ediv_mul_cancel d1
  have e2 := Int.ediv_mul_cancel d2
  refine ⟨⟨Int.ediv_nonneg hx (by omega), ?_, ?_⟩, hg, e1.symm, e2.symm⟩
  · have h0 : 0 ≤ y / (Int.gcd x y : Nat) := Int.ediv_nonneg (by omega) (by omega)
    by_cases z : y / (Int.gcd x y : Nat) = 0
    · rw [z, Int.zero_mul] at e2; omega
    · omega
  · rw [Int.gcd_ediv d1 d2, Int.natAbs_natCast, Nat.div_self hg]
/-- what the share is -/
structure IsShr (fr : List Int) (ts : List Tab) (w a b : Int) : Prop where
  low : Low a b
  ex : ∃ ys t, Fs fr ts ys t ∧ 1 ≤ t ∧ ys.sum * b = a * (t * w)
  top : ∀ ys t, Fs fr ts ys t → ys.sum * b ≤ a * (t * w)
theorem PtOk.shr (fam : FamOk fr w ts) {s : Int} (p : PtOk fr ts (List.replicate (rowsR fr).length 1) s xs prs) {a b g : Int} (hg : 0 < g) (low : Low a b) (e1 : xs.sum = a * g) (e2 : s * w = b * g) : IsShr fr ts w a b := by
  have w1 := fam.w1
  have sp := p.sp
  refine ⟨low, ⟨xs, s, p.fs, sp, by rw [e1, e2, Int.mul_assoc, Int.mul_comm b]⟩, fun ys t f => ?_⟩
  have h := p.top fam f
  have h2 : (ys.sum * b) * (g * s) ≤ (a * (t * w)) * (g * s) := by
    have h3 := Int.mul_le_mul_of_nonneg_right h (show 0 ≤ s * w from Int.mul_nonneg (by omega) (by omega))
    have h4 : ys.sum * s * (s * w) = (ys.sum * b) * (g * s) := by rw [e2]; simp only [Int.mul_assoc, Int.mul_comm, Int.mul_left_comm]
    have h5 : xs.sum * t * (s * w) = (a * (t * w)) * (g * s) := by rw [e1]; simp only [Int.mul_assoc, Int.mul_comm, Int.mul_left_comm]
    rw [h4, h5] at h3
    exact h3
  exact Int.le_of_mul_le_mul_right h2 (Int.mul_pos hg sp)
end
/-- .. the same of two families, where numbers go over both ways -/
theorem IsShr.same {fr fr' : List Int} {ts ts' : List Tab} {w w' a b a' b' : Int} (h : IsShr fr ts w a b) (h' : IsShr fr' ts' w' a' b') (w1 : 1 ≤ w) (w1' : 1 ≤ w')
    (go : ∀ ys t, Fs fr ts ys t → 1 ≤ t → ∃ ys' t', Fs fr' ts' ys' t' ∧ ys.sum * (t' * w') ≤ ys'.sum * (t * w) ∧ 1 ≤ t')
    (back : ∀ ys t, Fs fr' ts' ys t → 1 ≤ t → ∃ ys' t', Fs fr ts ys' t' ∧ ys.sum * (t' * w) ≤ ys'.sum * (t * w') ∧ 1 ≤ t') : a = a' ∧ b = b' := by
  have half : ∀ {fr fr' : List Int} {ts ts' : List Tab} {w w' a b a' b' : Int}, IsShr fr ts w a b → IsShr fr' ts' w' a' b' → 1 ≤ w → 1 ≤ w' → (∀ ys t, Fs fr ts ys t → 1 ≤ t → ∃ ys' t', Fs fr' ts' ys' t' ∧ ys.sum * (t' * w') ≤ ys'.sum * (t * w) ∧ 1 ≤ t') → a * b' ≤ a' * b := fun {fr fr' ts ts' w w' a b a' b'} h h' w1 w1' go => by
    obtain ⟨ys, t, f, t1, e⟩ := h.ex
    obtain ⟨ys', t', f', le, t1'⟩ := go ys t f t1
    have e' := h'.top ys' t' f'
    have hb := h.low.2.1
    have hb' := h'.low.2.1
    have p1 : 0 < t * w := Int.mul_pos (by omega) (by omega)
    have p2 : 0 < t' * w' := Int.mul_pos (by omega) (by omega)
    refine Int.le_of_mul_le_mul_right ?_ (Int.mul_pos p1 p2)
    -- a b' (tw)(t'w') = ys.sum b b' (t'w') ≤ ys'.sum (tw) b b' ≤ a' (t'w') (tw) b
    have s1 : a * b' * (t * w * (t' * w')) = ys.sum * (t' * w') * (b * b') := by
      rw [show a * b' * (t * w * (t' * w')) = (a * (t * w)) * (b' * (t' * w')) by simp only [Int.mul_assoc, Int.mul_left_comm], ← e]
      simp only [Int.mul_assoc, Int.mul_comm, Int.mul_left_comm]
    have s2 := Int.mul_le_mul_of_nonneg_right le (show 0 ≤ b * b' from Int.mul_nonneg (by omega) (by omega))
    have s3 := Int.mul_le_mul_of_nonneg_right e' (show 0 ≤ t * w * b from Int.mul_nonneg (by omega) (by omega))
    have s4 : ys'.sum * b' * (t * w * b) = ys'.sum * (t * w) * (b * b') := by simp only [Int.mul_assoc, Int.mul_comm, Int.mul_left_comm]
    have s5 : a' * (t' * w') * (t * w * b) = a' * b * (t * w * (t' * w')) := by simp only [Int.mul_assoc, Int.mul_comm, Int.mul_left_comm]
    rw [s1]
    rw [s4] at s3
    rw [s5] at s3
    exact Int.le_trans s2 s3
  have h1 := half h h' w1 w1' go
  have h2 := half h' h w1' w1 back
  exact h.low.uniq h'.low (by omega)
theorem gcd_step {x y : Int} (hx : 0 ≤ x) (hy : 0 < y) : Int.gcd y (x % y) = Int.gcd x y := by
  obtain ⟨n, rfl⟩ := Int.eq_ofNat_of_zero_le hx
  obtain ⟨m, rfl⟩ := Int.eq_ofNat_of_zero_le (show 0 ≤ y by omega)
  show Nat.gcd m (n % m) = Nat.gcd n m
  rw [Nat.gcd_comm m, ← Nat.gcd_rec, Nat.gcd_comm]
theorem grs_sum2 {fr : List Int} (ok : FrOk fr) (n5 : fr.length ≤ 5) {gs : List (List Int)} {left : List Int} (hg : ∀ g ∈ gs, GrOk fr.length g) (h0 : 0 < gs.length) (hl : left.Sublist (rgI fr.length))
    (hin : ∀ m : Int, 0 ≤ m → m < fr.length → (m ∉ left ↔ ∃ g ∈ gs, m ∈ g)) : ((gs ++ left.map fun m => [m]).map fun g => volR fr g).sum ≤ (gs.map fun g => volR fr g).sum + 12 := by
  have l4 : left.length ≤ 4 := by
    have h1 := hl.length_le
    rw [rgI_len] at h1
    by_cases e : left.length = 5
    · exfalso
      have e2 := hl.eq_of_length (by rw [rgI_len]; omega)
      cases gs with
      | nil => exact absurd h0 (Nat.lt_irrefl 0)
      | cons g r =>
        have hgg := hg g List.mem_cons_self
        cases g with
        | nil => exact hgg.ne rfl
        | cons m g =>
          have hm := hgg.mem m List.mem_cons_self
          exact (hin m hm.1 hm.2).mpr ⟨m :: g, List.mem_cons_self, List.mem_cons_self⟩ (by rw [e2]; exact rgI_mem.mpr hm)
    · omega
  have lm : ∀ m ∈ left, 0 ≤ m ∧ m < (fr.length : Int) := fun m hm => rgI_mem.mp (hl.subset hm)
  rw [List.map_append, List.sum_append, List.map_map]
  have go : ∀ l : List Int, (∀ m ∈ l, 0 ≤ m ∧ m < (fr.length : Int)) → (l.map ((fun g => volR fr g) ∘ fun m => [m])).sum ≤ 3 * l.length := fun l => by
    induction l with
    | nil => simp
    | cons m l ih =>
      intro h
      have h1 := ih fun x hx => h x (List.mem_cons_of_mem _ hx)
      have h2 := h m List.mem_cons_self
      have h3 := vol_one ok h2.1 h2.2
      rw [List.map_cons, List.sum_cons, List.length_cons]
      show volR fr [m] + _ ≤ _
      omega
  have := go left lm
  omega
end GM

/-! GPk: families changed, of one share. -/
namespace GM
open GL PySem L2 SX
theorem sqi {k n : Nat} (h : k < n) : seqIndex? (k : Int) n = some k := by
  unfold seqIndex?
  simp only [if_neg (show ¬ ((k : Int) < 0) by omega)]
  rw [if_pos (by simp; omega)]; simp
theorem perm_erase {α : Type} {l : List α} {k : Nat} {a : α} (h : l[k]? = some a) : (a :: l.eraseIdx k).Perm l := by
  obtain ⟨h1, h2⟩ := List.getElem?_eq_some_iff.mp h
  subst h2
  have e : l = l.take k ++ l[k] :: l.drop (k + 1) := by
    have := List.take_append_drop k l
    rw [List.drop_eq_getElem_cons h1] at this
    exact this.symm
  rw [List.eraseIdx_eq_take_drop_succ]
  conv => rhs; rw [e]
  exact List.perm_middle.symm
section
variable {fr : List Int} {w : Int} {ts us : List Tab}
theorem FamOk.perm (fam : FamOk fr w ts) (p : us.Perm ts) : FamOk fr w us where
  frame := fam.frame
  w1 := fam.w1
  w9 := fam.w9
  tabs := fun t ht => fam.tabs t (p.mem_iff.mp ht)
  ne := by rw [p.length_eq]; exact fam.ne
  eight := by rw [p.length_eq]; exact fam.eight
  room := by rw [(p.map _).sum_nat]; exact fam.room
  all := fun m h0 h1 => let ⟨t, ht, h⟩ := fam.all m h0 h1; ⟨t, p.mem_iff.mpr ht, h⟩
theorem FamOk.more (fam : FamOk fr w ts) {t : Tab} (ht : TabOk fr w t) (h8 : ts.length < 8) (hr : (ts.map fun t => volR fr t.1).sum + volR fr t.1 ≤ 60) (hs : us.Perm (t :: ts)) : FamOk fr w us := by
  have h : FamOk fr w (t :: ts) := ⟨fam.frame, fam.w1, fam.w9, fun a ha => by
    rcases List.mem_cons.mp ha with rfl | ha
    · exact ht
    · exact fam.tabs a ha, by simp, by simp; omega, by rw [List.map_cons, List.sum_cons]; omega, fun m h0 h1 => let ⟨t, ht, h⟩ := fam.all m h0 h1; ⟨t, List.mem_cons_of_mem _ ht, h⟩⟩
  exact h.perm hs
theorem shr_iff {a b a' b' : Int} (w1 : 1 ≤ w) (h : ∀ ys t, Fs fr ts ys t ↔ Fs fr us ys t) (s : IsShr fr ts w a b) (s' : IsShr fr us w a' b') : a' = a ∧ b' = b := by
  obtain ⟨h1, h2⟩ := s.same s' w1 w1 (fun ys t f t1 => ⟨ys, t, (h ys t).mp f, Int.le_refl _, t1⟩) (fun ys t f t1 => ⟨ys, t, (h ys t).mpr f, Int.le_refl _, t1⟩)
  exact ⟨h1.symm, h2.symm⟩
theorem fs_mem {ys : List Int} {t : Int} (h : ∀ a, a ∈ ts ↔ a ∈ us) : Fs fr ts ys t ↔ Fs fr us ys t :=
  ⟨fun f => ⟨f.xl, f.nn, fun a ha => f.caps a ((h a).mpr ha)⟩, fun f => ⟨f.xl, f.nn, fun a ha => f.caps a ((h a).mp ha)⟩⟩
/-- all counts some times -/
def timF (k : Int) (ts : List Tab) : List Tab := ts.map fun t => (t.1, t.2.map (· * k))
theorem getD_mul {l : List Int} {k : Int} {j : Nat} : (l.map (· * k)).getD j 0 = l.getD j 0 * k := by
  rw [List.getD_eq_getElem?_getD, List.getD_eq_getElem?_getD, List.getElem?_map]
  cases l[j]? with
  | none => simp
  | some x => rfl
theorem FamOk.tim (fam : FamOk fr w ts) {k : Int} (k1 : 1 ≤ k) (h9 : w * k ≤ 1000000000) : FamOk fr (w * k) (timF k ts) where
  frame := fam.frame
  w1 := by have := Int.mul_le_mul fam.w1 k1 (by decide) (by have := fam.w1; omega); omega
  w9 := h9
  tabs := fun a ha => by
    obtain ⟨t, ht, rfl⟩ := List.mem_map.mp ha
    have h := fam.tabs t ht
    refine ⟨h.gr, by rw [List.length_map]; exact h.len, fun c hc => ?_, by rw [sum_mulL, h.sum]⟩
    obtain ⟨x, hx, rfl⟩ := List.mem_map.mp hc
    exact Int.mul_nonneg (h.nn x hx) (by omega)
  ne := by unfold timF; rw [List.length_map]; exact fam.ne
  eight := by simp [timF]; exact fam.eight
  room := by simp only [timF, List.map_map]; exact fam.room
  all := fun m h0 h1 => let ⟨t, ht, h⟩ := fam.all m h0 h1; ⟨_, List.mem_map.mpr ⟨t, ht, rfl⟩, h⟩
theorem shr_tim {a b a' b' : Int} (fam : FamOk fr w ts) {k : Int} (k1 : 1 ≤ k) (s : IsShr fr ts w a b) (s' : IsShr fr (timF k ts) (w * k) a' b') : a' = a ∧ b' = b := by
  have w1 := fam.w1
  have wk : 1 ≤ w * k := by have := Int.mul_le_mul fam.w1 k1 (by decide) (by omega); omega
  suffices h : a = a' ∧ b = b' from ⟨h.1.symm, h.2.symm⟩
  refine s.same s' w1 wk (fun ys t f t1 => ?_) (fun ys t f t1 => ?_)
  · refine ⟨ys.map (· * k), t, ⟨by rw [List.length_map]; exact f.xl, fun x hx => ?_, fun c hc j hj => ?_⟩, ?_, t1⟩
    · obtain ⟨y, hy, rfl⟩ := List.mem_map.mp hx
      exact Int.mul_nonneg (f.nn y hy) (by omega)
    · obtain ⟨u, hu, rfl⟩ := List.mem_map.mp hc
      rw [List.length_map] at hj
      show (smsG fr (ys.map (· * k)) u.1).getD j 0 ≤ (u.2.map (· * k)).getD j 0 * t
      rw [← smsG_lin f.xl, getD_mul, getD_mul, show u.2.getD j 0 * k * t = u.2.getD j 0 * t * k by simp only [Int.mul_assoc, Int.mul_comm, Int.mul_left_comm]]
      exact Int.mul_le_mul_of_nonneg_right (f.caps u hu j hj) (by omega)
    · rw [sum_mulL]
      refine Int.le_of_eq ?_
      simp only [Int.mul_assoc, Int.mul_comm, Int.mul_left_comm]
  · refine ⟨ys, t * k, ⟨f.xl, f.nn, fun u hu j hj => ?_⟩, ?_, by have := Int.mul_le_mul t1 k1 (by decide) (by omega); omega⟩
    · have := f.caps _ (List.mem_map.mpr ⟨u, hu, rfl⟩) j (by rw [List.length_map]; exact hj)
      have e : (u.2.map (· * k)).getD j 0 * t = u.2.getD j 0 * (t * k) := by rw [getD_mul]; simp only [Int.mul_assoc, Int.mul_comm, Int.mul_left_comm]
      rw [← e]; exact this
    · refine Int.le_of_eq ?_
      simp only [Int.mul_assoc, Int.mul_comm, Int.mul_left_comm]
/-- the sums of a table on a part of its group -/
def margF (fr : List Int) (t : Tab) (p : List Int) : Tab := (p, sumsF t.1 p (rowsR (kindsR fr t.1)) t.2 (rowsR (kindsR fr p)))
theorem marg_ok {t : Tab} {p : List Int} (hf : FrOk fr) (ht : TabOk fr w t) (hp : GrOk fr.length p) (hm : ∀ m ∈ p, m ∈ t.1) : TabOk fr w (margF fr t p) where
  gr := hp
  len := sumsF_len ..
  nn := fun c hc => by
    obtain ⟨r, _, rfl⟩ := List.mem_map.mp hc
    exact sumAt_nn ht.nn r
  sum := by
    unfold margF
    rw [sumsF_sum (rowsR_nodup _) (fun r hr => rowsR_mem.mpr (seen_ok (rowsR_mem.mp hr) hm)) ht.len.symm]
    exact ht.sum
theorem sms_marg {ys : List Int} {t : Tab} {p : List Int} {c : List Int} (ht : ∀ m ∈ t.1, 0 ≤ m ∧ m < (fr.length : Int)) (hm : ∀ m ∈ p, m ∈ t.1) : smsF fr ys (p, c) = sumsF t.1 p (rowsR (kindsR fr t.1)) (smsF fr ys t) (rowsR (kindsR fr p)) :=
  (sums_sums (rowsR_nodup _) (fun r hr => see_mem (t := t) ht hr) hm).symm
theorem sumAt_le {g p : List Int} {r : List Int} : ∀ {rs : List (List Int)} {xs ys : List Int} {k : Int}, xs.length = rs.length → ys.length = rs.length → (∀ j, j < rs.length → xs.getD j 0 ≤ ys.getD j 0 * k) → sumAt g p rs xs r ≤ sumAt g p rs ys r * k := fun {rs xs ys k} h1 h2 h => by
  rw [sumAt_sm h1, sumAt_sm h2, ← sm_mulR]
  refine sm_le fun i hi => ?_
  by_cases e : seenF g (rs.getD i []) p = r
  · rw [if_pos e, if_pos e]; exact h i hi
  · rw [if_neg e, if_neg e, Int.zero_mul]; exact Int.le_refl _
theorem marg_cap {ys : List Int} {t : Tab} {p : List Int} {k : Int} (hf : FrOk fr) (ht : TabOk fr w t) (hm : ∀ m ∈ p, m ∈ t.1) (h : ∀ j, j < t.2.length → (smsF fr ys t).getD j 0 ≤ t.2.getD j 0 * k) :
    ∀ j, j < (margF fr t p).2.length → (smsF fr ys (margF fr t p)).getD j 0 ≤ (margF fr t p).2.getD j 0 * k := fun j hj => by
  have hl : (margF fr t p).2.length = (rowsR (kindsR fr p)).length := sumsF_len ..
  have hj2 : j < (rowsR (kindsR fr p)).length := by omega
  have er := List.getElem?_eq_getElem hj2
  unfold margF
  rw [sms_marg ht.gr.mem hm]
  show (sumsF t.1 p _ _ _).getD j 0 ≤ (sumsF t.1 p _ _ _).getD j 0 * k
  rw [List.getD_eq_getElem?_getD, List.getD_eq_getElem?_getD, sumsF_get er, sumsF_get er]
  refine sumAt_le ?_ ht.len fun j hj => h j (by rw [ht.len]; exact hj)
  rw [show smsF fr ys t = smsG fr ys t.1 from rfl, smsG_len]; rfl
theorem fs_marg {ys : List Int} {t : Tab} {k : Int} {p : List Int} (fam : FamOk fr w ts) (ht : t ∈ ts) (hm : ∀ m ∈ p, m ∈ t.1) : Fs fr ts ys k ↔ Fs fr (margF fr t p :: ts) ys k :=
  ⟨fun f => ⟨f.xl, f.nn, fun a ha => by
    rcases List.mem_cons.mp ha with rfl | ha
    · exact marg_cap fam.frame (fam.tabs t ht) hm (f.caps t ht)
    · exact f.caps a ha⟩, fun f => ⟨f.xl, f.nn, fun a ha => f.caps a (List.mem_cons_of_mem _ ha)⟩⟩
theorem vol_sub (hf : FrOk fr) {t : Tab} (ht : TabOk fr w t) {p : List Int} (hp : p.Sublist t.1) : volR fr p ≤ volR fr t.1 := by
  have h1 := volR_prod hf.kinds ht.gr.mem
  have h2 := volR_prod (g := p) hf.kinds fun m hm => ht.gr.mem m (hp.subset hm)
  have h3 : (kindsR fr p).Sublist (kindsR fr t.1) := hp.map _
  have := (prod_sub h3 fun k hk => by have := kindsR_bd hf.kinds ht.gr.mem k hk; omega).2
  omega
/-- some marks of a group, by places -/
theorem pick_ok {n : Nat} {g ks : List Int} (hg : GrOk n g) (hk : ks.Sublist (rgI g.length)) (ne : ks ≠ []) : GrOk n (ks.map fun k => g.getD k.toNat 0) ∧ (ks.map fun k => g.getD k.toNat 0).Sublist g := by
  have e : g = (rgI g.length).map fun k => g.getD k.toNat 0 := by
    refine List.ext_getElem? fun i => ?_
    by_cases hi : i < g.length
    · simp [rgI, hi]
    · rw [List.getElem?_eq_none (by omega), List.getElem?_eq_none (by simp [rgI]; omega)]
  have hs : (ks.map fun k => g.getD k.toNat 0).Sublist g := by
    conv => rhs; rw [e]
    exact hk.map _
  exact ⟨⟨by simpa using ne, hg.rise.sublist hs, fun m hm => hg.mem m (hs.subset hm)⟩, hs⟩
end
theorem zip_vol {fr : List Int} : ∀ {gs css : List (List Int)}, css.length = gs.length → (gs.zip css).map (fun t => volR fr t.1) = gs.map fun g => volR fr g
  | [], _, _ => by simp
  | g :: gs, [], h => by simp at h
  | g :: gs, c :: css, h => by
    rw [List.zip_cons_cons, List.map_cons, List.map_cons, zip_vol (by simpa using h)]
theorem erase_map {α β : Type} {f : α → β} : ∀ {l : List α} {k : Nat}, (l.map f).eraseIdx k = (l.eraseIdx k).map f
  | [], _ => rfl
  | a :: l, 0 => rfl
  | a :: l, k + 1 => by
    show f a :: (l.map f).eraseIdx k = f a :: (l.eraseIdx k).map f
    rw [erase_map]
/-- a rising group is a part of all marks, in order -/
theorem rise_sub0 : ∀ (n : Nat) (lo : Nat) (g : List Int), g.Pairwise (· < ·) → (∀ m ∈ g, (lo : Int) ≤ m ∧ m < ((lo + n : Nat) : Int)) → g.Sublist ((List.range' lo n).map fun k : Nat => (k : Int))
  | 0, lo, g, _, h => by
    cases g with
    | nil => exact List.Sublist.slnil
    | cons m g => have := h m (List.mem_cons_self ..); omega
  | n + 1, lo, [], _, _ => List.nil_sublist _
  | n + 1, lo, m :: g, hp, h => by
    have hm := h m (List.mem_cons_self ..)
    have hp2 := List.pairwise_cons.mp hp
    rw [List.range'_succ, List.map_cons]
    by_cases e : m = (lo : Int)
    · subst e
      refine List.Sublist.cons_cons _ (rise_sub0 n (lo + 1) g hp2.2 fun x hx => ?_)
      have h1 := hp2.1 x hx
      have h2 := h x (List.mem_cons_of_mem _ hx)
      omega
    · refine List.Sublist.cons _ (rise_sub0 n (lo + 1) (m :: g) hp fun x hx => ?_)
      have h2 := h x hx
      rcases List.mem_cons.mp hx with rfl | hx
      · omega
      · have h1 := hp2.1 x hx; omega
theorem rise_sub {n : Nat} {g : List Int} (hg : GrOk n g) : g.Sublist (rgI n) := by
  have := rise_sub0 n 0 g hg.rise fun m hm => by have := hg.mem m hm; omega
  unfold rgI
  rw [List.range_eq_range']
  exact this
end GM

/-! GPl: the scale of a greatest sum is small; bounds of happenings. -/
namespace SX
theorem iw_bdF (m : Nat) {A : Type} (f : A → Nat → Int) (C : A → Nat) (hC : ∀ a, nrm m (f a) ≤ C a) : ∀ (l : List A) (S : List Bool), (iw m (l.map f) S).natAbs ≤ (l.map C).foldr (· * ·) 1
  | [], S => by show (one S).natAbs ≤ 1; unfold one; split <;> decide
  | a :: l, S => wd_bd m (f a) (iw m (l.map f)) _ _ S (fun S => iw_bdF m f C hC l S) (hC a)
theorem nodup_lt : ∀ {n : Nat} {l : List Nat}, l.Nodup → (∀ x ∈ l, x < n) → l.length ≤ n
  | 0, [], _, _ => Nat.le_refl _
  | 0, x :: l, _, h => absurd (h x List.mem_cons_self) (Nat.not_lt_zero _)
  | n + 1, l, nd, h => by
    by_cases hn : n ∈ l
    · have h1 : (l.erase n).length ≤ n := nodup_lt (nd.erase n) fun x hx => by
        have h2 := (nd.mem_erase_iff).mp hx
        have := h x h2.2; omega
      have := List.length_erase_of_mem hn
      have h3 : 0 < l.length := List.length_pos_of_mem hn
      omega
    · have h1 : l.length ≤ n := nodup_lt nd fun x hx => by
        have := h x hx
        by_cases e : x = n
        · subst e; exact absurd hx hn
        · omega
      omega
theorem pow_fold {n : Nat} : ∀ l : List Nat, (l.map fun j => if j < n then 8 else 1).foldr (· * ·) 1 = 8 ^ (l.filter fun j => decide (j < n)).length
  | [] => rfl
  | j :: l => by
    rw [List.map_cons, List.foldr_cons, pow_fold l]
    by_cases h : j < n
    · rw [if_pos h, List.filter_cons_of_pos (by simpa using h), List.length_cons, Nat.pow_succ, Nat.mul_comm]
    · rw [if_neg h, List.filter_cons_of_neg (by simpa using h), Nat.one_mul]
theorem sm_ind : ∀ (l : List Int) (m : Nat), (sm m fun k => if (k : Int) ∈ l then (1 : Int) else 0) ≤ l.length
  | [], m => by
    rw [sm_zero fun i _ => by simp]; simp
  | a :: l, m => by
    have h1 := sm_ind l m
    have h2 : (sm m fun k => if (k : Int) = a then (1 : Int) else 0) ≤ 1 := by
      by_cases h : ∃ k, k < m ∧ (k : Int) = a
      · obtain ⟨k, hk, e⟩ := h
        rw [sm_one k hk fun j hj ne => if_neg fun z => ne (by omega), if_pos e]; exact Int.le_refl _
      · rw [sm_zero fun k hk => if_neg fun z => h ⟨k, hk, z⟩]; decide
    have h3 : (sm m fun k => if (k : Int) ∈ a :: l then (1 : Int) else 0) ≤ (sm m fun k => if (k : Int) = a then (1 : Int) else 0) + sm m fun k => if (k : Int) ∈ l then (1 : Int) else 0 := by
      rw [← sm_add]
      refine sm_le fun k _ => ?_
      by_cases e : (k : Int) = a
      · rw [if_pos (by rw [e]; exact List.mem_cons_self), if_pos e]; split <;> omega
      · by_cases e2 : (k : Int) ∈ l
        · rw [if_pos (List.mem_cons_of_mem _ e2), if_pos e2, if_neg e]; omega
        · rw [if_neg (fun z => by rcases List.mem_cons.mp z with h | h; exact e h; exact e2 h), if_neg e, if_neg e2]; omega
    rw [List.length_cons]; omega
section
open GM
variable {mems : List (List Int)} {caps w : List Int} {os : List Nat}
/-- the scale, where each row is in eight tables at most -/
theorem Dt_few (f : Feas caps.length (mems.length + caps.length) (Mx mems caps) os) (few : ∀ mem ∈ mems, mem.length ≤ 8) : Dt caps.length (Mx mems caps) os ≤ ((8 ^ mems.length : Nat) : Int) := by
  have nd : os.Nodup := by
    refine List.pairwise_iff_getElem.mpr fun i j hi hj hij e => ?_
    have h := f.nd (i := i) (l := j) (by rw [← f.len]; exact hi) (by rw [← f.len]; exact hj) (by unfold ow; rw [List.getD_eq_getElem?_getD, List.getD_eq_getElem?_getD, List.getElem?_eq_getElem hi, List.getElem?_eq_getElem hj, e])
    omega
  have h := iw_bdF caps.length (fun j => if j < mems.length + caps.length then col (Mx mems caps) j else fun _ => 0) (fun j => if j < mems.length then 8 else 1) (fun j => ?_) os (List.replicate caps.length true)
  · have e : os.map (fun j => if j < mems.length + caps.length then col (Mx mems caps) j else fun _ => 0) = os.map (col (Mx mems caps)) := List.map_congr_left fun j hj => by
      obtain ⟨i, hi, rfl⟩ := f.ex hj
      rw [if_pos (f.lt i hi)]
    rw [e, pow_fold] at h
    have h2 : (os.filter fun j => decide (j < mems.length)).length ≤ mems.length := nodup_lt (nd.filter _) fun x hx => by simpa using (List.mem_filter.mp hx).2
    have h3 := Nat.le_trans h (Nat.pow_le_pow_right (show 0 < 8 by decide) h2)
    have : (Dt caps.length (Mx mems caps) os).natAbs ≤ 8 ^ mems.length := h3
    omega
  · by_cases h1 : j < mems.length + caps.length
    · rw [if_pos h1]
      by_cases h2 : j < mems.length
      · rw [if_pos h2]
        have h4 : nrm caps.length (col (Mx mems caps) j) = sm caps.length fun k => if (k : Int) ∈ mems.getD j [] then (1 : Int) else 0 := sm_congr fun k hk => by
          show ((Mx mems caps k j).natAbs : Int) = _
          rw [Mx_row h2]; split <;> rfl
        have h5 := sm_ind (mems.getD j []) caps.length
        have h6 := few (mems.getD j []) (by rw [List.getD_eq_getElem?_getD, List.getElem?_eq_getElem h2]; exact List.getElem_mem h2)
        rw [h4]; omega
      · rw [if_neg h2]
        have h4 : nrm caps.length (col (Mx mems caps) j) = 1 := by
          have e : nrm caps.length (col (Mx mems caps) j) = sm caps.length fun k => if k = j - mems.length then 1 else 0 := sm_congr fun k hk => by
            show ((Mx mems caps k j).natAbs : Int) = _
            rw [show j = mems.length + (j - mems.length) by omega, Mx_un (by omega)]
            rw [show mems.length + (j - mems.length) - mems.length = j - mems.length by omega]
            split <;> rfl
          rw [e, sm_one (j - mems.length) (by omega) fun i hi ne => if_neg ne, if_pos rfl]
        rw [h4]; decide
    · rw [if_neg h1]
      have h4 : nrm caps.length (fun _ => 0) = 0 := sm_zero fun _ _ => rfl
      rw [h4]; split <;> decide
end
end SX
namespace GM
open GL PySem L2 SX
section
variable {fr : List Int} {w : Int} {ts : List Tab} {xs : List Int} {prs : List (List Int)}
/-- how many of the numbers are on some rows -/
def thereF (fr : List Int) (some_ : List (List Int)) (xs : List Int) : Int := sm (rowsR fr).length fun i => if rw_ fr i ∈ some_ then xs.getD i 0 else 0
def ind_ (some_ : List (List Int)) (r : List Int) : Int := if r ∈ some_ then 1 else 0
/-- the weights of a happening -/
def wsF (fr : List Int) (some_ : List (List Int)) (far way : Int) : List Int := (rowsR fr).map fun r => far + way * ind_ some_ r
theorem wsF_get {some_ : List (List Int)} {far way : Int} {i : Nat} (h : i < (rowsR fr).length) : (wsF fr some_ far way).getD i 0 = far + way * ind_ some_ (rw_ fr i) := by
  unfold wsF; rw [List.getD_eq_getElem?_getD, List.getElem?_map, rw_get h]; rfl
theorem ws_sum {some_ : List (List Int)} {far way : Int} (hx : xs.length = (rowsR fr).length) : (sm (rowsR fr).length fun i => (wsF fr some_ far way).getD i 0 * xs.getD i 0) = far * xs.sum + way * thereF fr some_ xs := by
  have e : xs.sum = sm (rowsR fr).length fun i => xs.getD i 0 := by rw [← hx, ← fl_sum, fl_of]
  rw [e, ← sm_mul]
  unfold thereF
  rw [← sm_mul, ← sm_add]
  refine sm_congr fun i hi => ?_
  rw [wsF_get hi, Int.add_mul]
  unfold ind_
  split
  · rw [Int.mul_one]
  · rw [Int.mul_zero, Int.zero_mul]
theorem there_le (hx : xs.length = (rowsR fr).length) (hn : ∀ x ∈ xs, 0 ≤ x) {some_ : List (List Int)} : 0 ≤ thereF fr some_ xs ∧ thereF fr some_ xs ≤ xs.sum := by
  have e : xs.sum = sm (rowsR fr).length fun i => xs.getD i 0 := by rw [← hx, ← fl_sum, fl_of]
  have g : ∀ i, i < (rowsR fr).length → 0 ≤ xs.getD i 0 := fun i hi => hn _ (List.mem_of_getElem? (getD_some (by omega)))
  unfold thereF
  refine ⟨sm_nn fun i hi => by have := g i hi; split <;> omega, ?_⟩
  rw [e]
  exact sm_le fun i hi => by have := g i hi; split <;> omega
/-- numbers within the counts that come to the whole are glued -/
theorem Fs.glued (fam : FamOk fr w ts) {s : Int} (f : Fs fr ts xs s) (s1 : 1 ≤ s) (h : xs.sum = s * w) : GlP fr ts xs s where
  xl := f.xl
  t1 := s1
  xn := f.nn
  sums := fun a ha j hj => by
    have h1 := sms_sum fam f.xl ha
    have h2 := cnt_sm (fam.tabs a ha)
    have h3 : (sm a.2.length fun j => a.2.getD j 0 * s - (smsF fr xs a).getD j 0) = 0 := by
      rw [sm_sub, sm_mulR, h1, h2, h, Int.mul_comm]; omega
    have := sm_nn0 (fun i hi => by have := f.caps a ha i hi; omega) h3 j hj
    omega
theorem Fs.le (fam : FamOk fr w ts) {s : Int} (p : Fs fr ts xs s) : xs.sum ≤ s * w := by
  obtain ⟨t0, h0⟩ : ∃ t, ts[0]? = some t := ⟨_, List.getElem?_eq_getElem fam.ne⟩
  have ht := List.mem_of_getElem? h0
  have h1 := sms_sum fam p.xl ht
  have h2 := cnt_sm (fam.tabs t0 ht)
  have h3 : 0 ≤ (sm t0.2.length fun j => t0.2.getD j 0 * s - (smsF fr xs t0).getD j 0) := sm_nn fun i hi => by have := p.caps t0 ht i hi; omega
  rw [sm_sub, sm_mulR, h1, h2, Int.mul_comm] at h3
  omega
theorem GlP.fs {t : Int} (g : GlP fr ts xs t) : Fs fr ts xs t := ⟨g.xl, g.xn, fun a ha j hj => Int.le_of_eq (g.sums a ha j hj)⟩
theorem GlP.whole (fam : FamOk fr w ts) {t : Int} (g : GlP fr ts xs t) : xs.sum = t * w := by
  obtain ⟨t0, h0⟩ : ∃ t, ts[0]? = some t := ⟨_, List.getElem?_eq_getElem fam.ne⟩
  have ht := List.mem_of_getElem? h0
  have h1 := sms_sum fam g.xl ht
  have h2 := cnt_sm (fam.tabs t0 ht)
  rw [sm_congr fun j hj => g.sums t0 ht j hj, sm_mulR, h2] at h1
  rw [← h1, Int.mul_comm]
/-- the far weight: the whole is told where some numbers have it -/
theorem PtOk.farW (fam : FamOk fr w ts) {some_ : List (List Int)} {far way s : Int} (hw : way = 1 ∨ way = -1) (hf : far = 10 ^ 40 * w) (p : PtOk fr ts (wsF fr some_ far way) s xs prs) (hs : s ≤ 10 ^ 39) {ys : List Int} {t : Int} (g : GlP fr ts ys t) : xs.sum = s * w := by
  have w1 := fam.w1
  have t1 := g.t1
  have sp := p.sp
  have h := p.topW fam g.fs
  rw [ws_sum g.xl, ws_sum p.xl] at h
  have hle := Fs.le fam p.fs
  have gw := g.whole fam
  obtain ⟨a1, a2⟩ := there_le (some_ := some_) g.xl g.xn
  obtain ⟨b1, b2⟩ := there_le (some_ := some_) p.xl fun x hx => (p.xb x hx).1
  refine Decidable.by_contra fun ne => ?_
  have hlt : xs.sum ≤ s * w - 1 := by omega
  have f1 : 0 ≤ far := by rw [hf]; exact Int.mul_nonneg (by decide) (by omega)
  -- below: (far - 1) (t w) s; above: (far + 1) (s w - 1) t
  have l1 : (far - 1) * (t * w) ≤ far * ys.sum + way * thereF fr some_ ys := by
    rw [gw, Int.sub_mul, Int.one_mul]
    rcases hw with rfl | rfl <;> omega
  have r1 : far * xs.sum + way * thereF fr some_ xs ≤ (far + 1) * (s * w - 1) := by
    have h1 := Int.mul_le_mul_of_nonneg_left hlt (show 0 ≤ far + 1 by omega)
    have h2 : far * xs.sum + way * thereF fr some_ xs ≤ (far + 1) * xs.sum := by
      rw [Int.add_mul, Int.one_mul]
      rcases hw with rfl | rfl <;> omega
    omega
  have l2 := Int.mul_le_mul_of_nonneg_right l1 (show 0 ≤ s by omega)
  have r2 := Int.mul_le_mul_of_nonneg_right r1 (show 0 ≤ t by omega)
  have k : (far - 1) * (t * w) * s ≤ (far + 1) * (s * w - 1) * t := Int.le_trans l2 (Int.le_trans h r2)
  have k1 : (far - 1) * (t * w) * s = ((far - 1) * (s * w)) * t := by simp only [Int.mul_assoc, Int.mul_comm, Int.mul_left_comm]
  rw [k1] at k
  have k2 := Int.le_of_mul_le_mul_right k (show 0 < t by omega)
  have k3 : (far - 1) * (s * w) = far * (s * w) - s * w := by rw [Int.sub_mul, Int.one_mul]
  have k4 : (far + 1) * (s * w - 1) = far * (s * w) - far + s * w - 1 := by rw [Int.mul_sub, Int.add_mul, Int.mul_one, Int.one_mul]; omega
  rw [k3, k4] at k2
  have k5 : s * w ≤ 10 ^ 39 * w := Int.mul_le_mul_of_nonneg_right hs (by omega)
  rw [show (10 : Int) ^ 39 = 1000000000000000000000000000000000000000 by decide] at k5
  rw [show (10 : Int) ^ 40 = 10000000000000000000000000000000000000000 by decide] at hf
  omega
/-- a share told with what bounds it -/
structure BndP (fr : List Int) (ts : List Tab) (w : Int) (some_ : List (List Int)) (way a b : Int) (xs : List Int) (t : Int) (bet : List (List Int)) (S : Int) : Prop where
  b1 : 1 ≤ b
  low : Int.gcd a b = 1
  gl : GlP fr ts xs t
  there : thereF fr some_ xs * b = a * w * t
  S1 : 1 ≤ S
  pl : bet.map (·.length) = lens ts
  bnd : ∀ r ∈ rowsR fr, 0 ≤ way * (comeAt fr ts bet r - S * ind_ some_ r)
  same : wcF ts bet * b = S * a * w
def betW (way n far s : Int) (prs : List (List Int)) : List (List Int) := prs.map fun p => p.map fun x => way * (n * x - far * s)
theorem betW_F {way n far s : Int} : betW way n far s prs = (betF n (far * s) prs).map fun p => p.map fun x => way * x := by
  unfold betW betF
  rw [List.map_map]
  refine List.map_congr_left fun p _ => ?_
  simp
theorem pr2_way {way : Int} {qs : List (List Int)} {k j : Nat} : pr2 (qs.map fun p => p.map fun x => way * x) k j = way * pr2 qs k j := by
  unfold pr2
  rw [List.getD_eq_getElem?_getD (l := qs.map _), List.getElem?_map, List.getD_eq_getElem?_getD (l := qs)]
  cases qs[k]? with
  | none => simp
  | some p =>
    show (p.map fun x => way * x).getD j 0 = way * p.getD j 0
    rw [List.getD_eq_getElem?_getD, List.getElem?_map, List.getD_eq_getElem?_getD]
    cases p[j]? with
    | none => simp
    | some x => rfl
theorem come_way {way : Int} {qs : List (List Int)} {r : List Int} : comeAt fr ts (qs.map fun p => p.map fun x => way * x) r = way * comeAt fr ts qs r := by
  unfold comeAt
  rw [← sm_mul]
  exact sm_congr fun k _ => pr2_way
theorem wc_way {way : Int} {qs : List (List Int)} : wcF ts (qs.map fun p => p.map fun x => way * x) = way * wcF ts qs := by
  unfold wcF
  rw [← sm_mul]
  refine sm_congr fun k _ => ?_
  rw [← sm_mul]
  refine sm_congr fun j _ => ?_
  rw [pr2_way, Int.mul_assoc]
theorem PtOk.bnd (fam : FamOk fr w ts) {some_ : List (List Int)} {far way s : Int} (hw : way = 1 ∨ way = -1) (p : PtOk fr ts (wsF fr some_ far way) s xs prs) (h : xs.sum = s * w) {a b g : Int} (hg : 0 < g) (low : Low a b) (e1 : thereF fr some_ xs = a * g) (e2 : s * w = b * g) :
    BndP fr ts w some_ way a b xs s (betW way ts.length far s prs) (ts.length * s) := by
  have sp := p.sp
  have n0 : (1 : Int) ≤ ts.length := by have := fam.ne; omega
  have ww : way * way = 1 := by rcases hw with rfl | rfl <;> rfl
  refine ⟨low.2.1, low.2.2, p.fs.glued fam sp h, ?_, ?_, ?_, fun r hr => ?_, ?_⟩
  · rw [e1, Int.mul_assoc, Int.mul_comm g, ← e2, Int.mul_assoc, Int.mul_comm w]
  · have := Int.mul_le_mul n0 (show 1 ≤ s by omega) (by decide) (by omega); omega
  · have h1 := pl_of p.pn p.pl
    unfold betW
    rw [List.map_map, ← h1]
    exact List.map_congr_left fun q _ => by simp
  · rw [betW_F, come_way, betF_come fam p.pn p.pl hr]
    obtain ⟨i, hi, e⟩ := List.getElem_of_mem hr
    have h2 := p.cover i hi
    rw [wsF_get hi, show rw_ fr i = r by unfold rw_; rw [List.getD_eq_getElem?_getD, List.getElem?_eq_getElem hi, e]; rfl] at h2
    have e3 : way * (way * (ts.length * comeAt fr ts prs r - ts.length * (far * s)) - ts.length * s * ind_ some_ r) = ts.length * (comeAt fr ts prs r - s * (far + way * ind_ some_ r)) := by
      rw [Int.mul_sub way, ← Int.mul_assoc way way, ww, Int.one_mul, Int.mul_sub, Int.mul_add, Int.mul_add]
      have : way * (ts.length * s * ind_ some_ r) = ts.length * (s * (way * ind_ some_ r)) := by simp only [Int.mul_assoc, Int.mul_comm, Int.mul_left_comm]
      rw [this, Int.mul_comm far s]; omega
    rw [e3]
    exact Int.mul_nonneg (by omega) (by omega)
  · rw [betW_F, wc_way, betF_wc fam p.pn p.pl]
    have sm1 := p.same
    rw [ws_sum p.xl, h] at sm1
    rw [← sm1, Int.mul_add]
    have e3 : way * (ts.length * (far * (s * w)) + ts.length * (way * thereF fr some_ xs) - ts.length * (far * s * w)) = ts.length * thereF fr some_ xs := by
      rw [show (ts.length : Int) * (far * (s * w)) = ts.length * (far * s * w) by rw [Int.mul_assoc far]]
      rw [show (ts.length : Int) * (far * s * w) + ts.length * (way * thereF fr some_ xs) - ts.length * (far * s * w) = ts.length * (way * thereF fr some_ xs) by omega]
      rw [show way * (ts.length * (way * thereF fr some_ xs)) = (way * way) * (ts.length * thereF fr some_ xs) by simp only [Int.mul_assoc, Int.mul_left_comm], ww, Int.one_mul]
    rw [e3, e1]
    rw [show (ts.length : Int) * (a * g) * b = ts.length * a * (b * g) by simp only [Int.mul_assoc, Int.mul_comm, Int.mul_left_comm], ← e2]
    simp only [Int.mul_assoc, Int.mul_comm, Int.mul_left_comm]
end
theorem in_rows {r : List Int} : ∀ {ss : List (List Int)}, ((D.pyL (rws ss)).any fun z => PyData.eqv z (D.tuple (nts r)).py) = decide (r ∈ ss)
  | [] => by simp [rws, D.pyL]
  | s :: ss => by
    show (PyData.eqv (D.tuple (nts s)).py (D.tuple (nts r)).py || (D.pyL (rws ss)).any fun z => PyData.eqv z (D.tuple (nts r)).py) = _
    rw [in_rows, show PyData.eqv (D.tuple (nts s)).py (D.tuple (nts r)).py = decide (s = r) from eqv_ntsT s r]
    by_cases h : s = r
    · subst h; simp
    · rw [decide_eq_false h, Bool.false_or]
      have : (r ∈ s :: ss) ↔ r ∈ ss := by
        rw [List.mem_cons]
        exact ⟨fun z => z.resolve_left fun e => h e.symm, .inr⟩
      simp only [this]
theorem shRows {ss : List (List Int)} : Sh 2 (.list (rws ss)) := Sh.list fun d hd => by
  obtain ⟨l, _, rfl⟩ := List.mem_map.mp hd
  exact Sh.ntsT
/-- a bound told, as it stands in a store, its cells from lo on -/
def BdIn (L : Lo) (lo : Nat) (fr : List Int) (ts : List Tab) (w : Int) (some_ : List (List Int)) (way : Int) (told : GL.A) : Prop :=
  ∃ a b n1 xs s n2 bet S, told = .tup [.d (.tuple [.int a, .int b]), .tup [.own n1, .d (.int s)], .own n2, .d (.int S)] ∧ NmIn L (.own n1) xs ∧ PrIn L (.own n2) bet ∧ BndP fr ts w some_ way a b xs s bet S ∧ 0 ≤ a ∧ a ≤ b ∧ (∀ x ∈ xs, Bd x) ∧ Bd s ∧ (∀ p ∈ bet, ∀ x ∈ p, x.natAbs < 2 ^ 4400) ∧ S.natAbs < 2 ^ 4400 ∧ b.natAbs < 2 ^ 4200 ∧
  lo ≤ n1 ∧ lo ≤ n2 ∧ ∃ as m, L[n2]? = some (.lst as) ∧ as[0]? = some (.own m) ∧ lo ≤ m
theorem BdIn.more {L J : Lo} {lo : Nat} {fr : List Int} {ts : List Tab} {w : Int} {some_ : List (List Int)} {way : Int} {told : GL.A} (h : BdIn L lo fr ts w some_ way told) : BdIn (L ++ J) lo fr ts w some_ way told := by
  obtain ⟨a, b, n1, xs, s, n2, bet, S, h1, h2, h3, h4, h5, h6, h7, h8, h9, h10, hb, h11, h12, as, m, e1, e2, e3⟩ := h
  exact ⟨a, b, n1, xs, s, n2, bet, S, h1, h2.more, h3.more, h4, h5, h6, h7, h8, h9, h10, hb, h11, h12, as, m, by rw [List.getElem?_append_left (List.getElem?_eq_some_iff.mp e1).1]; exact e1, e2, e3⟩
/-- where some table has all the counts -/
def Glued (fr : List Int) (ts : List Tab) : Prop := ∃ ys t, GlP fr ts ys t
theorem PtOk.farG {fr : List Int} {w : Int} {ts : List Tab} {xs : List Int} {prs : List (List Int)} (fam : FamOk fr w ts) {some_ : List (List Int)} {far way s : Int} (hw : way = 1 ∨ way = -1) (hf : far = 10 ^ 40 * w) (p : PtOk fr ts (wsF fr some_ far way) s xs prs) (h24 : (rowsR fr).length ≤ 24) (hs : s ≤ ((8 ^ (rowsR fr).length : Nat) : Int)) (g : Glued fr ts) : xs.sum = s * w := by
  obtain ⟨ys, t, g⟩ := g
  refine p.farW fam hw hf (Int.le_trans hs ?_) g
  have := Nat.pow_le_pow_right (show 0 < 8 by decide) h24
  exact Int.le_trans (Int.ofNat_le.mpr this) (by decide)
/-- a told bound's lists, that can be changed -/
def BdMut (L : Lo) (lo hi : Nat) (told : GL.A) : Prop := ∃ x n1 y n2 z m xs as ms, told = .tup [x, .tup [.own n1, y], .own n2, z] ∧ L[n1]? = some (.lst xs) ∧ xs.length ≤ 1000 ∧ L[n2]? = some (.lst as) ∧ as[0]? = some (.own m) ∧ L[m]? = some (.lst ms) ∧ ms ≠ [] ∧ n1 ≠ n2 ∧ m ≠ n2 ∧ lo ≤ n1 ∧ lo ≤ n2 ∧ lo ≤ m ∧ n1 < hi ∧ n2 < hi ∧ m < hi
theorem BdIn.mut {L : Lo} {lo : Nat} {fr : List Int} {ts : List Tab} {w : Int} {some_ : List (List Int)} {way : Int} {told : GL.A} (fam : FamOk fr w ts) (h : BdIn L lo fr ts w some_ way told) : BdMut L lo L.length told := by
  obtain ⟨a, b, n1, xs, s, n2, bet, S, rfl, ⟨_, e0, h2⟩, ⟨_, as2, e1, p1, p2, p3⟩, h4, h5, h6, h7, h8, h9, h10, _, h11, h12, as, m, q1, q2, q3⟩ := h
  cases e0; cases e1
  rw [p1] at q1; cases q1
  obtain ⟨bl, bk⟩ := of_pl h4.pl
  have h0 := fam.ne
  have e0 : bet[0]? = some (bet.getD 0 []) := by rw [List.getD_eq_getElem?_getD, List.getElem?_eq_getElem (by omega)]; rfl
  obtain ⟨m', a0, c0⟩ := p3 0 _ e0
  rw [q2] at a0; cases a0
  have l0 : 1 ≤ (bet.getD 0 []).length := by
    rw [bk 0 h0]
    have := plN_lt (fam.tabs _ (tb_mem h0)) (rw_mem (all_n fam.frame).2)
    omega
  have noD : ∀ {ns : List Int}, as2 ≠ (nts ns).map GL.A.d := fun {ns} e => by
    rw [e, List.getElem?_map] at q2
    cases e1 : (nts ns)[0]? with
    | none => rw [e1] at q2; cases q2
    | some d => rw [e1] at q2; cases q2
  have hN := all_n fam.frame
  refine ⟨_, n1, _, n2, _, m, _, as2, _, rfl, h2, by rw [List.length_map, nts_len, h4.gl.xl]; omega, p1, q2, c0, fun z => ?_, fun e => ?_, fun e => ?_, h11, h12, q3, (List.getElem?_eq_some_iff.mp h2).1, (List.getElem?_eq_some_iff.mp p1).1, (List.getElem?_eq_some_iff.mp c0).1⟩
  · have e := congrArg List.length z
    rw [List.length_map, nts_len, List.length_nil] at e
    omega
  · subst e
    rw [h2] at p1
    exact noD (AO.lst.inj (Option.some.inj p1)).symm
  · subst e
    rw [c0] at p1
    exact noD (AO.lst.inj (Option.some.inj p1)).symm
theorem BdMut.keep {L U : Lo} {lo hi : Nat} {told : GL.A} (h : BdMut L lo hi told) (hk : ∀ n, lo ≤ n → n < hi → U[n]? = L[n]?) : BdMut U lo hi told := by
  obtain ⟨x, n1, y, n2, z, m, xs, as, ms, e, h1, h2, h3, h4, h5, h6, h7, h8, h9, h10, h11, h12, h13, h14⟩ := h
  exact ⟨x, n1, y, n2, z, m, xs, as, ms, e, by rw [hk n1 h9 h12]; exact h1, h2, by rw [hk n2 h10 h13]; exact h3, h4, by rw [hk m h11 h14]; exact h5, h6, h7, h8, h9, h10, h11, h12, h13, h14⟩
/-- in lowest terms -/
theorem low_self {a b : Int} (h : Low a b) : Int.gcd a b = 1 := h.2.2
theorem mulB {x y : Int} {a b : Nat} (h1 : x.natAbs < 2 ^ a) (h2 : y.natAbs < 2 ^ b) : (x * y).natAbs < 2 ^ (a + b) := by
  rw [Int.natAbs_mul, Nat.pow_add]
  exact Nat.mul_lt_mul_of_lt_of_lt h1 h2
theorem wdm {x y : Int} (h1 : x.natAbs < 2 ^ 9000) (h2 : y.natAbs < 2 ^ 9000) : CMulW x y := wide_mul h1 h2 (by decide) (by decide) (by decide)
theorem w30 {w : Int} (h : 0 ≤ w) (h9 : w ≤ 1000000000) : w.natAbs < 2 ^ 40 := by
  rw [show (2 : Nat) ^ 40 = 1099511627776 by decide]; omega
theorem keepPre {L J U : Lo} (h : ∀ n, n < L.length → U[n]? = (L ++ J)[n]?) : ∃ J', U = L ++ J' := by
  refine ⟨U.drop L.length, ?_⟩
  have e : U.take L.length = L := by
    refine List.ext_getElem? fun n => ?_
    by_cases hn : n < L.length
    · rw [List.getElem?_take, if_pos hn, h n hn, List.getElem?_append_left hn]
    · rw [List.getElem?_eq_none (by rw [List.length_take]; omega), List.getElem?_eq_none (by omega)]
  conv => lhs; rw [← List.take_append_drop L.length U, e]
theorem glued_sums {fr xs : List Int} {gs css : List (List Int)} (hx : xs.length = (rowsR fr).length) (hn : ∀ x ∈ xs, 0 ≤ x) (h : css = gs.map (smsG fr xs)) : GlP fr (gs.zip css) xs 1 := by
  refine ⟨hx, Int.le_refl _, hn, fun a ha j _ => ?_⟩
  subst h
  obtain ⟨i, hi, e⟩ := List.getElem_of_mem ha
  have h2 := zip_get (List.getElem?_eq_some_iff.mpr ⟨hi, e⟩)
  rw [List.getElem?_map, h2.1] at h2
  have e2 : smsG fr xs a.1 = a.2 := Option.some.inj h2.2
  rw [Int.mul_one, show smsF fr xs a = smsG fr xs a.1 from rfl, e2]
end GM

/-! GZb: dicts with keys of a number and a tuple, read without a heap. -/
namespace GL
open PySem PySem.Spec PyProof.Rows L2
theorem lt16 {n : Nat} (h : n + 64 < cLine) : n + 16 < cLine := by omega
section
variable {X : Cx} {Wx : WX} {o i e : Expr} {go gi ga : GTE} {pos pos' : Pos}
def gXn : GTE := fun _ L R => R (.own L.length) (L ++ [.dX (fun _ => none) 0])
theorem g_xn : GE X (.Dict [] [] pos) gXn :=
  ⟨pe_imp XN.pe_xnew fun σ H Q h => by
    obtain ⟨W, s, R, e, ok, ats, h, fin⟩ := h
    subst e
    exact fun p hp => fin _ (W.new p (.dX (fun _ => none) 0) (.ext (XN.NF p []))) _ h (Wd.new_grow ok hp _ _) (Wd.new_ok ok hp ⟨p, [], rfl, fun q hq => (by cases hq), fun _ => rfl, Nat.le_refl _⟩) (Wd.new_own _ _)⟩
/-- the key that a pair is -/
theorem key_at {K : PySem.W.Frag} {W : Wd} {k : Int} {ns : List Int} {v : V} (h : At K W (.d (.tuple [.int k, .tuple (nts ns)])) v) : ∃ b, v = .ref b ∧ XN.KeyAt W.B (k, ns) b := by
  obtain ⟨b, us, rfl, hB, hl⟩ := h.tpl
  refine ⟨b, rfl, ?_⟩
  cases hl with
  | cons q1 hl =>
    cases hl with
    | cons q2 hl =>
      cases hl
      cases q1
      cases q2 with
      | @tup c xs ds e l =>
        rw [DXL.ints l] at e
        exact ⟨c, hB, e⟩
theorem root_sub {B B' : Hp} {ks : XN.NL} (h : Sub B B') (r : XN.NRoot B ks) : XN.NRoot B' ks := fun q hq => let ⟨b, e1, e2⟩ := r q hq; ⟨b, h _ _ e1, h _ _ e2⟩
def gXg (go gi : GTE) : GTE := fun s L R => go s L fun o L1 => gi s L1 fun t L2 => onOwn o fun n => ∃ f m k ns x, L2[n]? = some (.dX f m) ∧ t = .d (.tuple [.int k, .tuple (nts ns)]) ∧ f (k, ns) = some x ∧ R (.d (.int x)) L2
theorem g_xg {i : Expr} {gi : GTE} (hu : X.A.units + 16 < cLine) (ho : GE X o go) (hi : GE X i gi) (hs : NoSl i := by exact fun _ _ => rfl) : GE X (.Subscript o i pos) (gXg go gi) :=
  ⟨pe_imp (XN.pe_xget hu ho.pe hi.pe hs) fun σ H Q h => by
    obtain ⟨W, s, R, e, ok, ats, h, fin⟩ := h
    refine ⟨W, s, _, e, ok, ats, h, fun o W1 v q g1 ok1 at1 => ⟨W1, s, _, rfl, ok1, ats.mono g1, q, fun t W2 u q2 g2 ok2 at2 => ?_⟩⟩
    obtain ⟨n, rfl, f, m, k, ns, x, hn, rfl, hv, q3⟩ := onOwn_el q2
    obtain ⟨rfl, hlt⟩ := at1.own_iff
    obtain ⟨h', e1, ⟨p, ks, rfl, rt, hf, _⟩, e2⟩ := ok2.own n _ hn (by intro z; cases z)
    obtain ⟨b, rfl, hk⟩ := key_at at2
    refine ⟨_, p, ks, b, (k, ns), x, rfl, rfl, ?_, root_sub ok2.base rt, ?_, by rw [hf]; exact hv, fin _ W2 _ q3 (g1.trans g2) ok2 (.d (.int x))⟩
    · rw [← g2.rho n hlt]; exact e1
    · obtain ⟨c, k1, k2⟩ := hk
      exact ⟨c, ok2.base _ _ k1, ok2.base _ _ k2⟩⟩
def putX (f : XN.NK → Option Int) (k : XN.NK) (v : Int) : XN.NK → Option Int := fun j => if j = k then some v else f j
def gXp (ga go gi : GTE) : GTS := fun D s L => ga s L fun v L1 => go s L1 fun o L2 => gi s L2 fun t L3 => onOwn o fun n => ∃ f m k ns x, v = .d (.int x) ∧ L3[n]? = some (.dX f m) ∧ t = .d (.tuple [.int k, .tuple (nts ns)]) ∧ m < sizeLine ∧ D.nx s (L3.set n (.dX (putX f (k, ns) x) (m + 1)))
theorem s_xp {i : Expr} {gi : GTE} {p' : Pos} (hu : X.A.units + 16 < cLine) (ho : GE X o go) (hi : GE X i gi) (he : GE X e ga) (hs : swapsWith e (some (.Subscript o i p')) pos.line X.env = pure false) :
    GS X Wx (.Assign [.Subscript o i p'] e pos) (gXp ga go gi) := ⟨fun W0 => ps_imp (XN.ps_xput hu ho.pe hi.pe he.pe hs) fun D σ H h => by
  obtain ⟨W, s, E, e, ok, ats, gr, h, fin⟩ := h
  refine ⟨W, s, _, e, ok, ats, h, fun a W1 v q g1 ok1 at1 => ⟨W1, s, _, rfl, ok1, ats.mono g1, q, fun o W2 u q2 g2 ok2 at2 => ⟨W2, s, _, rfl, ok2, ats.mono (g1.trans g2), q2, fun t W3 w q3 g3 ok3 at3 => ?_⟩⟩⟩
  obtain ⟨n, rfl, f, m, k, ns, x, rfl, hn, rfl, hz, q4⟩ := onOwn_el q3
  obtain ⟨rfl, hlt⟩ := at2.own_iff
  obtain ⟨h', e1, ⟨p, ks, rfl, rt, hf, hm⟩, e2⟩ := ok3.own n _ hn (by intro z; cases z)
  obtain ⟨b, rfl, hk⟩ := key_at at3
  cases at1.int
  have hk3 : XN.KeyAt W3.H (k, ns) b := let ⟨c, k1, k2⟩ := hk; ⟨c, ok3.base _ _ k1, ok3.base _ _ k2⟩
  refine ⟨_, p, ks, b, (k, ns), x, rfl, rfl, rfl, ?_, root_sub ok3.base rt, hk3, by omega, ?_⟩
  · rw [← g3.rho n hlt]; exact e1
  rw [← g3.rho n hlt]
  exact fin.nx s (W3.put n (.dX (putX f (k, ns) x) (m + 1)) (.ext (XN.NF p (XN.nput ks (k, ns) b x)))) σ q4 (gr.trans (g1.trans (g2.trans (g3.trans (Wd.put_grow ok3 hn (by intro z; cases z) _ _))))) (Wd.put_ok ok3 hn (by intro z; cases z) ⟨p, _, rfl, XN.nput_root rt hk, fun j => by rw [XN.nv_put]; unfold putX; rw [hf], Nat.le_trans XN.nput_len (by omega)⟩) ((ats.mono (g1.trans (g2.trans g3))).mono (Wd.put_grow ok3 hn (by intro z; cases z) _ _))⟩
end
end GL

/-! GZc: numbers filled in greedily are a part. -/
namespace GM
open GL PySem L2 SX
def skF (r g : List Int) : List Int := g.map fun m => r.getD m.toNat 0
theorem rgI_getX {n i : Nat} (h : i < n) : (rgI n)[i]? = some (i : Int) := by simp [rgI, h]
theorem rgI_idxX {n : Nat} {m : Int} (h0 : 0 ≤ m) (h1 : m < n) : (rgI n).idxOf m = m.toNat := by
  have hm : m ∈ rgI n := rgI_mem.mpr ⟨h0, h1⟩
  have hi := List.idxOf_lt_length_of_mem hm
  have e := List.getElem?_eq_getElem hi
  rw [List.getElem_idxOf hi] at e
  rw [rgI_len] at hi
  rw [rgI_getX hi] at e
  have := Option.some.inj e
  omega
theorem sk_seen {n : Nat} {r g : List Int} (h : ∀ m ∈ g, 0 ≤ m ∧ m < (n : Int)) : skF r g = seenF (rgI n) r g := by
  unfold skF seenF
  refine List.map_congr_left fun m hm => ?_
  rw [rgI_idxX (h m hm).1 (h m hm).2]
theorem sm_updX {n j : Nat} {d : Int} {f g : Nat → Int} (hj : j < n) (h1 : g j = f j + d) (h2 : ∀ i, i < n → i ≠ j → g i = f i) : sm n g = sm n f + d := by
  have e : sm n g = sm n fun i => f i + (if i = j then d else 0) := sm_congr fun i hi => by
    by_cases z : i = j
    · subst z; rw [if_pos rfl, h1]
    · rw [if_neg z, h2 i hi z, Int.add_zero]
  rw [e, sm_add, sm_one (f := fun i => if i = j then d else 0) j hj (fun i _ ne => if_neg ne), if_pos rfl]
theorem sumAt_setX {g p : List Int} {rs : List (List Int)} {cs r : List Int} {j : Nat} {d : Int} (h : cs.length = rs.length) (hj : j < rs.length) (hz : cs.getD j 0 = 0) :
    sumAt g p rs (cs.set j d) r = sumAt g p rs cs r + if seenF g (rs.getD j []) p = r then d else 0 := by
  rw [sumAt_sm (by rw [List.length_set]; exact h), sumAt_sm h]
  refine sm_updX hj ?_ fun i hi ne => ?_
  · have e : (cs.set j d).getD j 0 = d := by rw [List.getD_eq_getElem?_getD, List.getElem?_set_self (by omega)]; rfl
    rw [e, hz]
    split
    · omega
    · rfl
  · have e : (cs.set j d).getD i 0 = cs.getD i 0 := by rw [List.getD_eq_getElem?_getD, List.getElem?_set_ne (fun z => ne z.symm), ← List.getD_eq_getElem?_getD]
    rw [e]
structure FillI (fr : List Int) (ts : List Tab) (past : List Int) (ys : List Int) (f : XN.NK → Option Int) : Prop where
  len : ys.length = (rowsR fr).length
  nn : ∀ x ∈ ys, 0 ≤ x
  zero : ∀ s : Nat, s < (rowsR fr).length → (s : Int) ∉ past → ys.getD s 0 = 0
  left : ∀ k, k < ts.length → ∀ j r, (rowsR (kindsR fr (tb ts k).1))[j]? = some r → f ((k : Nat), r) = some ((tb ts k).2.getD j 0 - sumAt (rgI fr.length) (tb ts k).1 (rowsR fr) ys r) ∧ sumAt (rgI fr.length) (tb ts k).1 (rowsR fr) ys r ≤ (tb ts k).2.getD j 0
section
variable {fr : List Int} {ts : List Tab} {w : Int} {ys past : List Int} {f : XN.NK → Option Int}
theorem sumAt_zero {g p : List Int} {rs : List (List Int)} {r : List Int} : sumAt g p rs (List.replicate rs.length 0) r = 0 := by
  rw [sumAt_sm (by simp)]
  refine sm_zero fun i _ => ?_
  have : (List.replicate rs.length (0 : Int)).getD i 0 = 0 := by
    rw [List.getD_eq_getElem?_getD, List.getElem?_replicate]; split <;> rfl
  rw [this]; split <;> rfl
theorem FillI.start (fam : FamOk fr w ts) (h : ∀ k, k < ts.length → ∀ (j : Nat) (r : List Int), (rowsR (kindsR fr (tb ts k).1))[j]? = some r → f ((k : Nat), r) = some ((tb ts k).2.getD j 0)) : FillI fr ts [] (List.replicate (rowsR fr).length 0) f := by
  refine ⟨by simp, fun x hx => by rw [(List.mem_replicate.mp hx).2]; exact Int.le_refl _, fun s hs _ => ?_, fun k hk j r er => ?_⟩
  · rw [List.getD_eq_getElem?_getD, List.getElem?_replicate]; split <;> rfl
  · rw [sumAt_zero, h k hk j r er, Int.sub_zero]
    refine ⟨rfl, ?_⟩
    have ht := fam.tabs _ (tb_mem hk)
    rw [List.getD_eq_getElem?_getD]
    cases q : (tb ts k).2[j]? with
    | none => exact Int.le_refl _
    | some c => exact ht.nn c (List.mem_of_getElem? q)
theorem FillI.fs (fam : FamOk fr w ts) (I : FillI fr ts past ys f) : Fs fr ts ys 1 := by
  refine ⟨I.len, I.nn, fun a ha j hj => ?_⟩
  obtain ⟨k, hk, rfl⟩ : ∃ k, k < ts.length ∧ tb ts k = a := by
    obtain ⟨k, hk, e⟩ := List.getElem_of_mem ha
    exact ⟨k, hk, by rw [tb_of (List.getElem?_eq_some_iff.mpr ⟨hk, e⟩)]⟩
  have ht := fam.tabs _ (tb_mem hk)
  have hj2 : j < (rowsR (kindsR fr (tb ts k).1)).length := by have := ht.len; unfold volR at this; omega
  have er := List.getElem?_eq_getElem hj2
  have := (I.left k hk j _ er).2
  have e1 : (smsF fr ys (tb ts k)).getD j 0 = sumAt (rgI fr.length) (tb ts k).1 (rowsR fr) ys (rowsR (kindsR fr (tb ts k).1))[j] := by
    unfold smsF
    rw [List.getD_eq_getElem?_getD, sumsF_get er]; rfl
  rw [e1, Int.mul_one]; exact this
/-- the key of a row of all marks in the k-th table -/
def keyN (fr : List Int) (ts : List Tab) (s k : Nat) : XN.NK := ((k : Nat), skF ((rowsR fr).getD s []) (tb ts k).1)
theorem key_row (fam : FamOk fr w ts) {s k : Nat} (hs : s < (rowsR fr).length) (hk : k < ts.length) : ∃ j : Nat, (rowsR (kindsR fr (tb ts k).1))[j]? = some (skF ((rowsR fr).getD s []) (tb ts k).1) := by
  have ht := fam.tabs _ (tb_mem hk)
  have hr : (rowsR fr).getD s [] ∈ rowsR fr := by
    rw [List.getD_eq_getElem?_getD, List.getElem?_eq_getElem hs]; exact List.getElem_mem hs
  have hm : skF ((rowsR fr).getD s []) (tb ts k).1 ∈ rowsR (kindsR fr (tb ts k).1) := by
    rw [sk_seen ht.gr.mem]
    have h := seen_ok (fr := fr) (g := rgI fr.length) (p := (tb ts k).1) (r := (rowsR fr).getD s []) (by rw [kindsR_all]; exact rowsR_mem.mp hr) fun m hm => rgI_mem.mpr (ht.gr.mem m hm)
    exact rowsR_mem.mpr h
  obtain ⟨j, hj, e⟩ := List.getElem_of_mem hm
  exact ⟨j, List.getElem?_eq_some_iff.mpr ⟨hj, e⟩⟩
theorem FillI.key (fam : FamOk fr w ts) (I : FillI fr ts past ys f) {s k : Nat} (hs : s < (rowsR fr).length) (hk : k < ts.length) : ∃ v, f (keyN fr ts s k) = some v ∧ 0 ≤ v := by
  obtain ⟨j, er⟩ := key_row fam hs hk
  obtain ⟨e, h⟩ := I.left k hk j _ er
  exact ⟨_, e, by omega⟩
/-- the number taken off in the first k tables -/
def subX (f : XN.NK → Option Int) (fr : List Int) (ts : List Tab) (s : Nat) (m : Int) : Nat → XN.NK → Option Int
  | 0 => f
  | k + 1 => putX (subX f fr ts s m k) (keyN fr ts s k) ((f (keyN fr ts s k)).getD 0 - m)
theorem subX_hi {s : Nat} {m : Int} : ∀ {k k' : Nat} {x : List Int}, k ≤ k' → subX f fr ts s m k ((k' : Nat), x) = f ((k' : Nat), x)
  | 0, _, _, _ => rfl
  | k + 1, k', x, h => by
    show putX _ _ _ _ = _
    unfold putX
    rw [if_neg (fun z => by unfold keyN at z; rw [Prod.mk.injEq] at z; omega)]
    exact subX_hi (by omega)
theorem subX_lo {s : Nat} {m : Int} : ∀ {k k' : Nat} {x : List Int}, k' < k → subX f fr ts s m k ((k' : Nat), x) = if x = skF ((rowsR fr).getD s []) (tb ts k').1 then some ((f ((k' : Nat), x)).getD 0 - m) else f ((k' : Nat), x)
  | k + 1, k', x, h => by
    show putX _ _ _ _ = _
    unfold putX
    rcases Nat.lt_succ_iff_lt_or_eq.mp h with h | rfl
    · rw [if_neg (fun z => by unfold keyN at z; rw [Prod.mk.injEq] at z; omega)]
      exact subX_lo h
    · by_cases e : x = skF ((rowsR fr).getD s []) (tb ts k').1
      · subst e
        rw [if_pos (show (((k' : Nat) : Int), skF ((rowsR fr).getD s []) (tb ts k').1) = keyN fr ts s k' from rfl), if_pos rfl]; rfl
      · rw [if_neg (fun z => by unfold keyN at z; rw [Prod.mk.injEq] at z; exact e z.2), if_neg e]
        exact subX_hi (Nat.le_refl _)
theorem FillI.step (fam : FamOk fr w ts) (I : FillI fr ts past ys f) {s : Nat} (hs : s < (rowsR fr).length) (hn : (s : Int) ∉ past) {m : Int} (m0 : 0 ≤ m) (hm : ∀ k, k < ts.length → ∀ v, f (keyN fr ts s k) = some v → m ≤ v) :
    FillI fr ts (past ++ [(s : Int)]) (ys.set s m) (subX f fr ts s m ts.length) := by
  have hz := I.zero s hs hn
  refine ⟨by rw [List.length_set]; exact I.len, fun x hx => ?_, fun s' hs' hn' => ?_, fun k hk j r er => ?_⟩
  · rcases List.mem_or_eq_of_mem_set hx with h | rfl
    · exact I.nn x h
    · exact m0
  · rw [List.mem_append, not_or, List.mem_singleton] at hn'
    rw [List.getD_eq_getElem?_getD, List.getElem?_set_ne (fun z => hn'.2 (by rw [z])), ← List.getD_eq_getElem?_getD]
    exact I.zero s' hs' hn'.1
  · have ht := fam.tabs _ (tb_mem hk)
    obtain ⟨e, h⟩ := I.left k hk j r er
    rw [subX_lo hk, sumAt_setX I.len hs hz, ← sk_seen ht.gr.mem]
    by_cases q : r = skF ((rowsR fr).getD s []) (tb ts k).1
    · have := hm k hk _ (by unfold keyN; rw [← q]; exact e)
      rw [if_pos q, if_pos q.symm, e, Option.getD_some]
      exact ⟨by congr 1; omega, by omega⟩
    · rw [if_neg q, if_neg (fun z => q z.symm), e, Int.add_zero]
      exact ⟨rfl, h⟩
end
end GM

/-! GZd: shares, looked at. -/
namespace GM
open GL PySem L2 SX
section
variable {fr : List Int} {ts : List Tab} {w : Int} {ys xs : List Int} {prs : List (List Int)} {a b s t : Int}
theorem Fs.sum_le (fam : FamOk fr w ts) (f : Fs fr ts ys t) : ys.sum ≤ t * w := by
  have h0 := fam.ne
  have ht := fam.tabs _ (tb_mem h0)
  rw [← sms_sum fam f.xl (tb_mem h0), ← cnt_sm ht, Int.mul_comm, ← sm_mulR]
  exact sm_le fun j hj => f.caps _ (tb_mem h0) j hj
theorem IsShr.le1 (fam : FamOk fr w ts) (h : IsShr fr ts w a b) : a ≤ b := by
  obtain ⟨ys, t, f, t1, e⟩ := h.ex
  have hw := fam.w1
  have hs := f.sum_le fam
  have b1 := h.low.2.1
  have hp : 0 < t * w := Int.mul_pos (by omega) (by omega)
  have h1 : ys.sum * b ≤ t * w * b := Int.mul_le_mul_of_nonneg_right hs (by omega)
  rw [e, Int.mul_comm (t * w)] at h1
  exact Int.le_of_mul_le_mul_right h1 hp
theorem PtOk.shr_eq (fam : FamOk fr w ts) (p : PtOk fr ts (List.replicate (rowsR fr).length 1) s xs prs) (h : IsShr fr ts w a b) : xs.sum * b = a * s * w := by
  have h1 := h.top _ _ p.fs
  obtain ⟨ys, t, f, t1, e⟩ := h.ex
  have h2 := p.top fam f
  have hb := h.low.2.1
  have h3 : ys.sum * s * b ≤ xs.sum * t * b := Int.mul_le_mul_of_nonneg_right h2 (by omega)
  have h4 : (a * s * w) * t ≤ (xs.sum * b) * t := by
    have e1 : ys.sum * s * b = (a * s * w) * t := by
      have : ys.sum * s * b = (ys.sum * b) * s := by simp only [Int.mul_assoc, Int.mul_comm, Int.mul_left_comm]
      rw [this, e]; simp only [Int.mul_assoc, Int.mul_comm, Int.mul_left_comm]
    have e2 : xs.sum * t * b = (xs.sum * b) * t := by simp only [Int.mul_assoc, Int.mul_comm, Int.mul_left_comm]
    rw [e1, e2] at h3
    exact h3
  have h5 : a * s * w ≤ xs.sum * b := Int.le_of_mul_le_mul_right h4 (by omega)
  rw [← Int.mul_assoc] at h1
  omega
theorem PtOk.bot (fam : FamOk fr w ts) (p : PtOk fr ts (List.replicate (rowsR fr).length 1) s xs prs) (h : IsShr fr ts w a b) : b ≤ s * w := by
  have e := p.shr_eq fam h
  have hw := fam.w1
  have sp := p.sp
  have hp : 0 < s * w := Int.mul_pos sp (by omega)
  refine Int.le_of_dvd hp ?_
  have hd : b ∣ a * (s * w) := ⟨xs.sum, by rw [← Int.mul_assoc, ← e, Int.mul_comm]⟩
  have h1 : b.natAbs ∣ a.natAbs * (s * w).natAbs := by rw [← Int.natAbs_mul]; exact Int.natAbs_dvd_natAbs.mpr hd
  have h2 : Nat.Coprime b.natAbs a.natAbs := (Nat.gcd_comm _ _).trans h.low.2.2
  exact Int.natAbs_dvd_natAbs.mp (h2.dvd_of_dvd_mul_left h1)
theorem wide_sw {x : Int} (hs : Bd s) (s0 : 0 < s) (w1 : 1 ≤ w) (w9 : w ≤ 1000000000) (x0 : 0 ≤ x) (hx : x ≤ s * w) : x.natAbs < 2 ^ 4030 := by
  have hw : w.natAbs < 2 ^ 30 := Nat.lt_of_le_of_lt (show w.natAbs ≤ 1000000000 by omega) (by decide)
  have h1 : (s * w).natAbs < 2 ^ (4000 + 30) := wide_lt hs hw
  have h2 : 0 ≤ s * w := Int.mul_nonneg (by omega) (by omega)
  exact Nat.lt_of_le_of_lt (show x.natAbs ≤ (s * w).natAbs by omega) h1
theorem IsShr.part1 (h : IsShr fr ts w a b) (f : Fs fr ts ys 1) : ys.sum * b ≤ a * w := by
  have := h.top _ _ f
  rwa [Int.one_mul] at this
end
end GM

namespace Law
open PySem PySem.Spec L2 GL
def topS (i : Nat) : Stmt := PySem.Challenge.pw_gluedtables_k28_whole_no_greater_part.main.body.getD i (.Pass ⟨0, 0, 0, 0⟩)
open GM SX

section
variable {P : Program} {w : World} {K : PySem.W.Frag} {mg : Str → Option Value} {base : Heap}
-- Filling.__init__: 0 self, 1 members, 2 caps, 3 weights, 4 many, 5 k, 6 line, 7 member, 8 j, 9 weight
abbrev s_Filling_init : Stmt := inClass (topS 1) 0
theorem sc_Filling_init : FnScope ["self", "members", "caps", "weights", "many", "k", "line", "member", "j", "weight"] ["self", "members", "caps", "weights"] (defScope s_Filling_init) := ⟨rfl, rfl, rfl, by decide +kernel, rfl, by decide +kernel, by decide +kernel⟩
def sp_Filling_init (C : Addr) : ASp := fun as L R _ => ∃ P mems caps w, as = [.own P.length, .d (.list (lnsD mems)), .d (.list (nts caps)), .d (.list (nts w))] ∧ L = P ++ [.obj C []] ∧ Pr mems caps w ∧ R (.d .none) (filS C P (lin0 mems caps) (gol0 caps w) (os0 caps.length mems.length) 1)
theorem ok_Filling_init (m_int : mg "int" = none) (m_len : mg "len" = none) (m_range : mg "range" = none) {c_Filling : Addr} (cl_Filling : Cls K c_Filling) (nf_Filling_goal : NoAttr K c_Filling "goal") (nf_Filling_lines : NoAttr K c_Filling "lines") (nf_Filling_owners : NoAttr K c_Filling "owners") (nf_Filling_scale : NoAttr K c_Filling "scale")     (d : DfM K c_Filling "__init__" "Filling.__init__" ["self", "members", "caps", "weights"] s_Filling_init) : ClM P w K mg base 1 c_Filling "__init__" ["self", "members", "caps", "weights"] (sp_Filling_init c_Filling) := by
  refine d.clB sc_Filling_init (fun as L R Ex h => ?_) (fun f cdv A outer s H E hr => ?_)
  · obtain ⟨P, mems, caps, w, rfl, _⟩ := h; rfl
  · have nd := sc_Filling_init.nd
    refine ⟨_,
  (ss_cons (s_set (i := 4) nd rfl (by first | exact .inl rfl | exact .inr rfl) (g_callB k_len (by rfl) m_len PySem.boot_len (ga_cons (g_pv 1) ga_nil)))
    (ss_cons (s_fld cl_Filling nf_Filling_lines (g_pv 0) (g_lstO ga_nil))
    (ss_cons (s_for (vs := [5]) PassesOwn.never rfl (i_range1 (by rfl) m_range (ga_cons (g_callB k_len (by rfl) m_len PySem.boot_len (ga_cons (g_pv 2) ga_nil)) ga_nil)) (p_name (i := 5) nd rfl (by first | exact .inl rfl | exact .inr rfl))
     (ss_cons (s_set (i := 6) nd rfl (by first | exact .inl rfl | exact .inr rfl) (g_op o_catL (g_lc rfl nd (i_list (g_pv 1)) (blk_by (own := [("member", 7)]) (by rfl)) (fun _ _ _ _ _ => (p_name (i := 7) nd rfl (by first | exact .inl rfl | exact .inr rfl))) (fun _ _ _ _ _ => ts_nil) (fun _ _ _ _ _ => (g_callTy k_int1 (by rfl) m_int (by decide +kernel) (ga_cons (g_cmp c_inS (g_pv 5) (g_pv 7) (by rfl)) ga_nil)))) (g_lc rfl nd (i_range1 (by rfl) m_range (ga_cons (g_callB k_len (by rfl) m_len PySem.boot_len (ga_cons (g_pv 2) ga_nil)) ga_nil)) (blk_by (own := [("j", 8)]) (by rfl)) (fun _ _ _ _ _ => (p_name (i := 8) nd rfl (by first | exact .inl rfl | exact .inr rfl))) (fun _ _ _ _ _ => ts_nil) (fun _ _ _ _ _ => (g_callTy k_int1 (by rfl) m_int (by decide +kernel) (ga_cons (g_cmp c_eqI (g_pv 8) (g_pv 5) (nomark _)) ga_nil))))))
     (ss_one (s_expr (g_app (g_fld cl_Filling nf_Filling_lines (g_pv 0)) (ga_cons (g_op o_catL (g_pv 6) (g_lst (ga_cons (g_ix (g_pv 2) (g_pv 5)) ga_nil))) ga_nil))))))
    (ss_cons (s_fld cl_Filling nf_Filling_goal (g_pv 0) (g_op o_catL (g_lc rfl nd (i_list (g_pv 3)) (blk_by (own := [("weight", 9)]) (by rfl)) (fun _ _ _ _ _ => (p_name (i := 9) nd rfl (by first | exact .inl rfl | exact .inr rfl))) (fun _ _ _ _ _ => ts_nil) (fun _ _ _ _ _ => (g_op o_sub g_int (g_pv 9)))) (g_op o_repL (g_lst (ga_cons g_int ga_nil)) (g_op o_add (g_callB k_len (by rfl) m_len PySem.boot_len (ga_cons (g_pv 2) ga_nil)) g_int))))
    (ss_cons (s_fld cl_Filling nf_Filling_owners (g_pv 0) (g_lcO rfl nd (i_range1 (by rfl) m_range (ga_cons (g_callB k_len (by rfl) m_len PySem.boot_len (ga_cons (g_pv 2) ga_nil)) ga_nil)) (blk_by (own := [("k", 5)]) (by rfl)) (fun _ _ _ _ _ => (p_name (i := 5) nd rfl (by first | exact .inl rfl | exact .inr rfl))) (fun _ _ _ _ _ => ts_nil) (fun _ _ _ _ _ => (g_op o_add (g_pv 4) (g_pv 5)))))
    (ss_one (s_fld cl_Filling nf_Filling_scale (g_pv 0) g_int))))))), fun as L R Ex h hb => ?_⟩
    obtain ⟨P, mems, caps, w, rfl, rfl, pr, q⟩ := h
    have n64 := pr.n64
    have m64 := pr.m64
    have wl := pr.wl
    have ec : ((nts caps).map GL.A.d).length = caps.length := by simp
    refine ⟨ll rfl, [], ?_, by decide, ?_⟩
    · rw [papp]; exact pget0
    rw [papp]
    show gSeq _ _ _ _ ((P ++ AO.obj c_Filling [] :: [.lst []]).set P.length _)
    rw [pset0]
    refine ⟨by omega, ?_⟩
    refine ⟨fun i s' L' => ∃ x5 x6, s' = [some (.own P.length), some (.d (.list (lnsD mems))), some (.d (.list (nts caps))), some (.d (.list (nts w))), some (.d (.int (mems.length : Nat))), x5, x6, none, none, none] ∧ L' = P ++ [.obj c_Filling [("lines", .own (P.length + 1))], .lst ((lnsD ((lin0 mems caps).take i)).map .d)], ⟨none, none, by rw [show ((lnsD mems).map GL.A.d).length = mems.length by simp]; rfl, by rw [List.length_append]; rfl⟩, ?_⟩
    rintro i s' L' ⟨x5, x6, rfl, rfl⟩ hi
    refine ⟨trivial, by simp, fun a ea => ?_, fun e => ?_⟩
    · obtain ⟨rfl, hi2⟩ := rng0_el ea
      rw [ec, Int.toNat_natCast] at hi2
      refine ⟨lcMap mems (fun l => .d (.list (nts l))) (fun l => .int (if decide ((i : Int) ∈ l) = true then 1 else 0)) (by simp) rfl (Nat.le_refl _) (le_line (by omega)) (fun j l hj Q hQ => ?_) ?_⟩
      · exact ⟨l, rfl, hQ⟩
      refine ⟨by omega, ?_⟩
      refine ⟨lcMap (rgI caps.length) (fun x => .d (.int x)) (fun x => .int (if decide (x = (i : Int)) = true then 1 else 0)) (by rw [ec]; simp [rngA, rgI]) trivial (Nat.le_refl _) (by rw [rgI_len]; exact le_line (by omega)) (fun j x hj Q hQ => hQ) ?_⟩
      refine ⟨by simp [rgI_len]; exact le_line (by omega), nts ((mems.map fun mem => if (i : Int) ∈ mem then (1 : Int) else 0) ++ ((List.range caps.length).map fun j => if j = i then (1 : Int) else 0)), ?_, ?_⟩
      · simp [nts, rgI, Function.comp_def, Int.natCast_inj]
      refine ⟨_, .own (P.length + 1), pget0, (by rfl), onO_of (cel_own pget1) ?_⟩
      refine ⟨_, itL (by omega), ll rfl, _, rfl, ?_⟩
      refine ⟨by simp; exact le_line (by omega), nts (line0 mems caps i), by simp [line0, nts], ?_⟩
      refine onO_of (cel_own pget1) ⟨?_, ?_⟩
      · simp; exact Nat.lt_of_le_of_lt (show _ ≤ 100 by omega) (by decide)
      rw [pset1]
      have e2 : (lin0 mems caps).take (i + 1) = (lin0 mems caps).take i ++ [line0 mems caps i] := by
        rw [List.take_add_one, show (lin0 mems caps)[i]? = some (line0 mems caps i) by simp [lin0, hi2]]; rfl
      exact ⟨_, _, Wk.refl, by simp, _, _, rfl, by rw [e2]; simp⟩
    have e' : i = caps.length := by rw [e, rngA_len, ec, Int.toNat_natCast]
    subst e'
    have e3 : (lin0 mems caps).take caps.length = lin0 mems caps := List.take_of_length_le (by simp [lin0])
    rw [e3]
    refine ⟨lcMap w (fun x => .d (.int x)) (fun x => .int (0 - x)) (nts_it w) rfl (Nat.le_refl _) (le_line (by omega)) (fun j x hj Q hQ => hQ) ?_⟩
    refine ⟨ll rfl, _, rfl, ⟨by rw [ec]; omega, by rw [ec]; omega, by rw [ec]; show 1 * _ ≤ _; exact le_line (by omega)⟩, _, rfl, ?_⟩
    have e5 : (List.replicate ((((nts caps).map GL.A.d).length : Nat) + 1 : Int).toNat [D.int 0]).flatten = nts (List.replicate (caps.length + 1) 0) := by
      rw [ec, show ((caps.length : Int) + 1).toNat = caps.length + 1 by omega, List.flatten_replicate_singleton]; simp [nts]
    rw [e5]
    refine ⟨by simp; exact le_line (by omega), nts (gol0 caps w), by simp [gol0, nts, Function.comp_def], ?_⟩
    refine ⟨_, pget0, by show 1 < 1000; decide, ?_⟩
    rw [pset0]
    refine ⟨by rw [ec]; omega, ⟨fun i acc L' => acc = (nts (ownI ((os0 caps.length mems.length).take i))).map .d ∧ L' = P ++ [.obj c_Filling [("lines", .own (P.length + 1)), ("goal", .d (.list (nts (gol0 caps w))))], .lst ((lnsD (lin0 mems caps)).map .d)], ⟨rfl, rfl⟩, ?_⟩⟩
    rintro i acc L' ⟨rfl, rfl⟩ hi
    refine ⟨trivial, Nat.le_refl _, fun a ea => ?_, fun e => ?_⟩
    · obtain ⟨rfl, hi2⟩ := rng0_el ea
      rw [ec, Int.toNat_natCast] at hi2
      have e6 : (os0 caps.length mems.length).take (i + 1) = (os0 caps.length mems.length).take i ++ [mems.length + i] := by
        rw [List.take_add_one, show (os0 caps.length mems.length)[i]? = some (mems.length + i) by simp [os0, hi2]]; rfl
      refine ⟨fun _ => ⟨?_, Nat.le_refl _, ?_, rfl⟩, fun z => (by cases z)⟩
      · simp [os0_len]; exact Nat.lt_of_le_of_lt (show _ ≤ 100 by omega) (by decide)
      · rw [e6]; simp [nts]
    have e' : i = caps.length := by rw [e, rngA_len, ec, Int.toNat_natCast]
    subst e'
    have e7 : (os0 caps.length mems.length).take caps.length = os0 caps.length mems.length := List.take_of_length_le (by simp [os0])
    rw [e7, papp]
    refine ⟨_, pget0, by show 2 < 1000; decide, ?_⟩
    rw [List.cons_append, pset0]
    refine ⟨_, pget0, by show 3 < 1000; decide, ?_⟩
    rw [pset0]
    refine ⟨_, _, Wk.refl, by simp, ?_⟩
    have e8 : (P ++ [AO.obj c_Filling [("lines", GL.A.own (P.length + 1)), ("goal", .d (.list (nts (gol0 caps w))))], .lst ((lnsD (lin0 mems caps)).map .d)]).length = P.length + 2 := by simp
    rw [e8]
    exact q
-- Filling.coming: 0 self, 1 column
abbrev s_Filling_coming : Stmt := inClass (topS 1) 1
theorem sc_Filling_coming : FnScope ["self", "column"] ["self"] (defScope s_Filling_coming) := ⟨rfl, rfl, rfl, by decide +kernel, rfl, by decide +kernel, by decide +kernel⟩
def sp_Filling_coming (C : Addr) : ASp := fun as L R _ => ∃ P lines goal os s, as = [.own P.length] ∧ L = filS C P lines goal os s ∧ 1 ≤ goal.length ∧ goal.length ≤ 1000 ∧ R (.d (optD (comeF goal))) L
theorem ok_Filling_coming (m_len : mg "len" = none) (m_range : mg "range" = none) {c_Filling : Addr} (cl_Filling : Cls K c_Filling) (nf_Filling_goal : NoAttr K c_Filling "goal")     (d : DfM K c_Filling "coming" "Filling.coming" ["self"] s_Filling_coming) : ClM P w K mg base 1 c_Filling "coming" ["self"] (sp_Filling_coming c_Filling) := by
  refine d.clB sc_Filling_coming (fun as L R Ex h => ?_) (fun f cdv A outer s H E hr => ?_)
  · obtain ⟨P, lines, goal, os, s, rfl, _⟩ := h; rfl
  · have nd := sc_Filling_coming.nd
    refine ⟨_,
  (ss_cons (s_for (vs := [1]) PassesOwn.never rfl (i_range1 (by rfl) m_range (ga_cons (g_op o_sub (g_callB k_len (by rfl) m_len PySem.boot_len (ga_cons (g_fld cl_Filling nf_Filling_goal (g_pv 0)) ga_nil)) g_int) ga_nil)) (p_name (i := 1) nd rfl (by first | exact .inl rfl | exact .inr rfl))
     (ss_one (s_if (t_cmp c_lt (g_ix (g_fld cl_Filling nf_Filling_goal (g_pv 0)) (g_pv 1)) g_int (nomark _))
      (ss_one (s_ret (g_pv 1)))
      ss_nil)))
    (ss_one (s_ret g_non))), fun as L R Ex h hb => ?_⟩
    obtain ⟨P, lines, goal, os, s, rfl, rfl, h1, h2, q⟩ := h
    have el : ((nts goal).map GL.A.d).length = goal.length := by simp
    refine ⟨_, _, fil0, filF_g, ⟨by rw [el]; omega, by rw [el]; omega⟩, ?_⟩
    refine ⟨fun i s' L' => ∃ x1, s' = [some (.own P.length), x1] ∧ L' = filS c_Filling P lines goal os s ∧ ∀ j, j < i → 0 ≤ goal.getD j 0, ⟨_, rfl, rfl, fun j hj => absurd hj (Nat.not_lt_zero j)⟩, ?_⟩
    rintro i s' L' ⟨x1, rfl, rfl, hj⟩ hi
    refine ⟨trivial, Nat.le_refl _, fun a ea => ?_, fun e => ?_⟩
    · obtain ⟨rfl, hi2⟩ := rng0_el ea
      rw [el] at hi2
      have hi3 : i < goal.length - 1 := by omega
      refine ⟨_, _, fil0, filF_g, _, itL (by omega), ⟨fun z => ?_, fun z => ?_⟩⟩
      · rw [come_at hi3 (of_decide_eq_true z) hj] at q
        exact rt0 q (Nat.le_refl _)
      · have z := of_decide_eq_false z
        refine ⟨_, _, Wk.refl, Nat.le_refl _, _, rfl, rfl, fun j hj2 => ?_⟩
        by_cases e : j = i
        · subst e; omega
        · exact hj j (by omega)
    · rw [rngA_len, el] at e
      rw [come_no fun j h => hj j (by omega)] at q
      exact rt0 q (Nat.le_refl _)
-- Filling.going: 0 self, 1 column, 2 best, 3 k, 4 left, 5 right
abbrev s_Filling_going : Stmt := inClass (topS 1) 2
theorem sc_Filling_going : FnScope ["self", "column", "best", "k", "left", "right"] ["self", "column"] (defScope s_Filling_going) := ⟨rfl, rfl, rfl, by decide +kernel, rfl, by decide +kernel, by decide +kernel⟩
def sp_Filling_going (C : Addr) : ASp := fun as L R _ => ∃ P lines goal os s w, ∃ c : Nat, as = [.own P.length, .d (.int (c : Nat))] ∧ L = filS C P lines goal os s ∧ FilOk lines goal os s w ∧ c ≤ w ∧ R (.d (optD (goF lines os c))) L
theorem ok_Filling_going (m_len : mg "len" = none) (m_range : mg "range" = none) {c_Filling : Addr} (cl_Filling : Cls K c_Filling) (nf_Filling_lines : NoAttr K c_Filling "lines") (nf_Filling_owners : NoAttr K c_Filling "owners")     (d : DfM K c_Filling "going" "Filling.going" ["self", "column"] s_Filling_going) : ClM P w K mg base 1 c_Filling "going" ["self", "column"] (sp_Filling_going c_Filling) := by
  refine d.clB sc_Filling_going (fun as L R Ex h => ?_) (fun f cdv A outer s H E hr => ?_)
  · obtain ⟨P, lines, goal, os, s, w, c, rfl, _⟩ := h; rfl
  · have nd := sc_Filling_going.nd
    refine ⟨_,
  (ss_cons (s_set (i := 2) nd rfl (by first | exact .inl rfl | exact .inr rfl) g_non)
    (ss_cons (s_for (vs := [3]) PassesOwn.never rfl (i_range1 (by rfl) m_range (ga_cons (g_callB k_len (by rfl) m_len PySem.boot_len (ga_cons (g_fld cl_Filling nf_Filling_lines (g_pv 0)) ga_nil)) ga_nil)) (p_name (i := 3) nd rfl (by first | exact .inl rfl | exact .inr rfl))
     (ss_one (s_cut (s_if (t_cmp c_gt (g_ix (g_ix (g_fld cl_Filling nf_Filling_lines (g_pv 0)) (g_pv 3)) (g_pv 1)) g_int (nomark _))
      (ss_one (s_if (t_cmp c_isN (g_pv 2) g_non (nomark _))
       (ss_one (s_set (i := 2) nd rfl (by first | exact .inl rfl | exact .inr rfl) (g_pv 3)))
       (ss_cons (s_set (i := 4) nd rfl (by first | exact .inl rfl | exact .inr rfl) (g_op o_mulW (g_ix (g_ix (g_fld cl_Filling nf_Filling_lines (g_pv 0)) (g_pv 3)) (g_neg g_int)) (g_ix (g_ix (g_fld cl_Filling nf_Filling_lines (g_pv 0)) (g_pv 2)) (g_pv 1))))
       (ss_cons (s_set (i := 5) nd rfl (by first | exact .inl rfl | exact .inr rfl) (g_op o_mulW (g_ix (g_ix (g_fld cl_Filling nf_Filling_lines (g_pv 0)) (g_pv 2)) (g_neg g_int)) (g_ix (g_ix (g_fld cl_Filling nf_Filling_lines (g_pv 0)) (g_pv 3)) (g_pv 1))))
       (ss_one (s_if (w_t (w_or (t_cmp c_lt (g_pv 4) (g_pv 5) (nomark _)) (w_or1 (w_t (w_and (t_cmp c_eqI (g_pv 4) (g_pv 5) (nomark _)) (w_and1 (t_cmp c_lt (g_ix (g_fld cl_Filling nf_Filling_owners (g_pv 0)) (g_pv 3)) (g_ix (g_fld cl_Filling nf_Filling_owners (g_pv 0)) (g_pv 2)) (nomark _))))))))
        (ss_one (s_set (i := 2) nd rfl (by first | exact .inl rfl | exact .inr rfl) (g_pv 3)))
        ss_nil))))))
      ss_nil))))
    (ss_one (s_ret (g_pv 2))))), fun as L R Ex h hb => ?_⟩
    obtain ⟨P, lines, goal, os, s, w, c, rfl, rfl, ok, hc, q⟩ := h
    have el : ((lnsD lines).map GL.A.d).length = lines.length := by simp
    have olen := ok.len
    have om := ok.m
    have get : ∀ {k : Nat}, k < lines.length → ∃ l, lines[k]? = some l ∧ lines.getD k [] = l ∧ l.length = w + 1 ∧ ∀ x ∈ l, Bd x := fun {k} hk => by
      have e := List.getElem?_eq_getElem hk
      exact ⟨lines[k], e, by rw [List.getD_eq_getElem?_getD, e]; rfl, ok.ll _ (List.getElem_mem hk), ok.bl _ (List.getElem_mem hk)⟩
    have geto : ∀ {k : Nat}, k < lines.length → os[k]? = some (os.getD k 0) := fun {k} hk => ow_get (by omega)
    refine ⟨_, _, fil0, filF_l, onO_of (sq_own fil1) ⟨by rw [el]; omega, ?_⟩⟩
    refine ⟨fun i s' L' => ∃ best x3 x4 x5, best = (List.range i).foldl (goS lines os c) none ∧ (∀ b, best = some b → b < i) ∧ s' = [some (.own P.length), some (.d (.int (c : Nat))), some (.d (optD best)), x3, x4, x5] ∧ L' = filS c_Filling P lines goal os s, ⟨none, _, _, _, rfl, (fun b z => by cases z), rfl, rfl⟩, ?_⟩
    rintro i s' L' ⟨best, x3, x4, x5, hb, hbl, rfl, rfl⟩ hi
    refine ⟨trivial, Nat.le_refl _, fun a ea => ?_, fun e => ?_⟩
    · obtain ⟨rfl, hi2⟩ := rng0_el ea
      rw [el, Int.toNat_natCast] at hi2
      obtain ⟨l, gl, gd, hl, bl⟩ := get hi2
      have hS : goS lines os c best i = (List.range (i + 1)).foldl (goS lines os c) none := by rw [List.range_succ, List.foldl_append, ← hb]; rfl
      have eC : (lines.getD i []).getD c 0 = l.getD c 0 := by rw [gd]
      refine ⟨fun s' L' => ∃ best' x4 x5, best' = goS lines os c best i ∧ (∀ b, best' = some b → b < i + 1) ∧ s' = [some (.own P.length), some (.d (.int (c : Nat))), some (.d (optD best')), some (.d (.int (i : Nat))), x4, x5] ∧ L' = filS c_Filling P lines goal os s, ?_, ?_⟩
      rotate_left
      · rintro s' L' ⟨best', x4, x5, e1, e2, rfl, rfl⟩
        exact ⟨_, _, Wk.refl, Nat.le_refl _, best', _, _, _, by rw [e1, hS], e2, rfl, rfl⟩
      refine ⟨_, _, fil0, filF_l, _, fil_line gl, _, itL (by omega), ⟨fun z => ?_, fun z => ?_⟩⟩
      · have z := of_decide_eq_true z
        cases hbb : best with
        | none =>
          refine ⟨rfl, ⟨fun _ => ?_, fun z => (by cases z)⟩⟩
          refine ⟨some i, _, _, ?_, (fun b e => by cases e; omega), rfl, rfl⟩
          unfold goS; rw [eC, if_pos z]
        | some b =>
          have hb2 := hbl b hbb
          obtain ⟨l2, gl2, gd2, hl2, bl2⟩ := get (k := b) (by omega)
          refine ⟨rfl, ⟨fun z => (by cases z), fun _ => ?_⟩⟩
          refine ⟨_, _, fil0, filF_l, _, fil_line gl, _, itLast (by omega), _, _, fil0, filF_l, _, fil_line gl2, _, itL (by omega), bd_mul (bd_getD bl _) (bd_getD bl2 _), ?_⟩
          refine ⟨_, _, fil0, filF_l, _, fil_line gl2, _, itLast (by omega), _, _, fil0, filF_l, _, fil_line gl, _, itL (by omega), bd_mul (bd_getD bl2 _) (bd_getD bl _), ?_⟩
          have hbet : better lines os c b i = (decide (l.getD (l.length - 1) 0 * l2.getD c 0 < l2.getD (l2.length - 1) 0 * l.getD c 0) || (decide (l.getD (l.length - 1) 0 * l2.getD c 0 = l2.getD (l2.length - 1) 0 * l.getD c 0) && decide (os.getD i 0 < os.getD b 0))) := by
            unfold better; simp only [gd, gd2]
          have yes : better lines os c b i = true → ∃ best' x4 x5, best' = goS lines os c (some b) i ∧ (∀ b, best' = some b → b < i + 1) ∧ ([some (.own P.length), some (.d (.int (c : Nat))), some (.d (.int (i : Nat))), some (.d (.int (i : Nat))), some (.d (.int (l.getD (l.length - 1) 0 * l2.getD c 0))), some (.d (.int (l2.getD (l2.length - 1) 0 * l.getD c 0)))] : Sl) = [some (.own P.length), some (.d (.int (c : Nat))), some (.d (optD best')), some (.d (.int (i : Nat))), x4, x5] ∧ filS c_Filling P lines goal os s = filS c_Filling P lines goal os s := fun h => by
            refine ⟨some i, _, _, ?_, (fun b e => by cases e; omega), rfl, rfl⟩
            unfold goS; rw [eC, if_pos z]; simp only [h, if_true]
          have no : better lines os c b i = false → ∃ best' x4 x5, best' = goS lines os c (some b) i ∧ (∀ b, best' = some b → b < i + 1) ∧ ([some (.own P.length), some (.d (.int (c : Nat))), some (.d (optD (some b))), some (.d (.int (i : Nat))), some (.d (.int (l.getD (l.length - 1) 0 * l2.getD c 0))), some (.d (.int (l2.getD (l2.length - 1) 0 * l.getD c 0)))] : Sl) = [some (.own P.length), some (.d (.int (c : Nat))), some (.d (optD best')), some (.d (.int (i : Nat))), x4, x5] ∧ filS c_Filling P lines goal os s = filS c_Filling P lines goal os s := fun h => by
            refine ⟨some b, _, _, ?_, (fun b e => by cases e; omega), rfl, rfl⟩
            unfold goS; rw [eC, if_pos z]; simp only [h, Bool.false_eq_true, if_false]
          rw [hbet] at yes no
          refine ⟨fun z1 => ⟨fun _ => yes (by rw [z1]; rfl), fun z => (by cases z)⟩, fun z1 => ?_⟩
          rw [z1, Bool.false_or] at yes no
          refine ⟨fun z2 => ?_, fun z2 => ⟨fun z => (by cases z), fun _ => no (by rw [z2]; rfl)⟩⟩
          rw [z2, Bool.true_and] at yes no
          refine ⟨_, _, fil0, filF_o, _, fil_own (geto hi2), _, _, fil0, filF_o, _, fil_own (geto (by omega)), ?_⟩
          have ed : decide (((os.getD i 0 : Nat) : Int) < ((os.getD b 0 : Nat) : Int)) = decide (os.getD i 0 < os.getD b 0) := decide_eq_decide.mpr Int.ofNat_lt
          exact ⟨fun z => yes (by rw [← ed]; exact z), fun z => no (by rw [← ed]; exact z)⟩
      · have z := of_decide_eq_false z
        refine ⟨best, _, _, ?_, (fun b e => by have := hbl b e; omega), rfl, rfl⟩
        unfold goS; rw [eC, if_neg z]
    · rw [rngA_len, el, Int.toNat_natCast] at e
      subst e
      have e2 : best = goF lines os c := hb
      rw [← e2] at q
      exact rt0 q (Nat.le_refl _)
-- Filling.cleared: 0 self, 1 line, 2 turning, 3 column, 4 up, 5 down, 6 k
abbrev s_Filling_cleared : Stmt := inClass (topS 1) 3
theorem sc_Filling_cleared : FnScope ["self", "line", "turning", "column", "up", "down", "k"] ["self", "line", "turning", "column"] (defScope s_Filling_cleared) := ⟨rfl, rfl, rfl, by decide +kernel, rfl, by decide +kernel, by decide +kernel⟩
def sp_Filling_cleared (C : Addr) : ASp := fun as L R _ => ∃ n goal b s line turning, ∃ c : Nat, as = [.own n, .d (.list (nts line)), .d (.list (nts turning)), .d (.int (c : Nat))] ∧ L[n]? = some (.obj C (filF b goal s)) ∧ line.length ≤ 1000 ∧ turning.length = line.length ∧ c < line.length ∧ (∀ x ∈ line, Bd x) ∧ (∀ x ∈ turning, Bd x) ∧ 0 < s ∧ Bd s ∧ R (.d (.list (nts (clrF s line turning c)))) L
theorem ok_Filling_cleared (m_len : mg "len" = none) (m_range : mg "range" = none) {c_Filling : Addr} (cl_Filling : Cls K c_Filling) (nf_Filling_scale : NoAttr K c_Filling "scale")     (d : DfM K c_Filling "cleared" "Filling.cleared" ["self", "line", "turning", "column"] s_Filling_cleared) : ClM P w K mg base 1 c_Filling "cleared" ["self", "line", "turning", "column"] (sp_Filling_cleared c_Filling) := by
  refine d.clB sc_Filling_cleared (fun as L R Ex h => ?_) (fun f cdv A outer s H E hr => ?_)
  · obtain ⟨n, goal, b, s, line, turning, c, rfl, _⟩ := h; rfl
  · have nd := sc_Filling_cleared.nd
    refine ⟨_,
  (ss_cons (s_set (i := 4) nd rfl (by first | exact .inl rfl | exact .inr rfl) (g_ix (g_pv 2) (g_pv 3)))
    (ss_cons (s_set (i := 5) nd rfl (by first | exact .inl rfl | exact .inr rfl) (g_ix (g_pv 1) (g_pv 3)))
    (ss_one (s_ret (g_lc rfl nd (i_range1 (by rfl) m_range (ga_cons (g_callB k_len (by rfl) m_len PySem.boot_len (ga_cons (g_pv 1) ga_nil)) ga_nil)) (blk_by (own := [("k", 6)]) (by rfl)) (fun _ _ _ _ _ => (p_name (i := 6) nd rfl (by first | exact .inl rfl | exact .inr rfl))) (fun _ _ _ _ _ => ts_nil) (fun _ _ _ _ _ => (g_op o_fdivW (g_op o_sub (g_op o_mulW (g_pv 4) (g_ix (g_pv 1) (g_pv 6))) (g_op o_mulW (g_pv 5) (g_ix (g_pv 2) (g_pv 6)))) (g_fld cl_Filling nf_Filling_scale (g_pv 0))))))))), fun as L R Ex h hb => ?_⟩
    obtain ⟨n, goal, b, s, line, turning, c, rfl, hn, hl, ht, hc, b1, b2, hs, bs, q⟩ := h
    have el : ((nts line).map GL.A.d).length = line.length := by simp
    refine ⟨_, itL (by omega), _, itL hc, ⟨by rw [el]; omega, ?_⟩⟩
    refine ⟨lcMap (rgI line.length) (fun x => .d (.int x)) (fun x => .int ((turning.getD c 0 * line.getD x.toNat 0 - line.getD c 0 * turning.getD x.toNat 0) / s)) (by rw [el]; simp [rngA, rgI]) trivial (Nat.le_refl _) (by rw [rgI_len]; exact le_line hl) (fun i x hi Q hQ => ?_) ?_⟩
    · obtain ⟨h1, h2⟩ := rgI_mem.mp (List.mem_of_getElem? hi)
      obtain ⟨j, rfl⟩ : ∃ j : Nat, x = j := ⟨x.toNat, by omega⟩
      rw [Int.toNat_natCast] at hQ
      exact ⟨_, itL (by omega), bd_mul (bd_getD b2 _) (bd_getD b1 _), _, itL (by omega), bd_mul (bd_getD b1 _) (bd_getD b2 _), _, _, hn, filF_s, bd_div hs bs, hQ⟩
    · have e : (rgI line.length).map (fun x => D.int ((turning.getD c 0 * line.getD x.toNat 0 - line.getD c 0 * turning.getD x.toNat 0) / s)) = nts (clrF s line turning c) := by
        unfold clrF fl nts rgI
        rw [List.map_map, List.map_map]
        rfl
      rw [e]
      exact rt0 q (Nat.le_refl _)
-- Filling.turn: 0 self, 1 at, 2 column, 3 turning, 4 k
abbrev s_Filling_turn : Stmt := inClass (topS 1) 4
theorem sc_Filling_turn : FnScope ["self", "at", "column", "turning", "k"] ["self", "at", "column"] (defScope s_Filling_turn) := ⟨rfl, rfl, rfl, by decide +kernel, rfl, by decide +kernel, by decide +kernel⟩
def sp_Filling_turn (C : Addr) : ASp := fun as L R _ => ∃ P lines goal os s w, ∃ r c : Nat, as = [.own P.length, .d (.int (r : Nat)), .d (.int (c : Nat))] ∧ L = filS C P lines goal os s ∧ FilOk lines goal os s w ∧ r < lines.length ∧ c ≤ w ∧ R (.d .none) (filS C P (turnL s lines r c lines.length) (clrF s goal (lines.getD r []) c) (os.set r c) ((lines.getD r []).getD c 0))
theorem ok_Filling_turn (m_len : mg "len" = none) (m_range : mg "range" = none) {c_Filling : Addr} (cl_Filling : Cls K c_Filling) (nf_Filling_goal : NoAttr K c_Filling "goal") (nf_Filling_lines : NoAttr K c_Filling "lines") (nf_Filling_owners : NoAttr K c_Filling "owners") (nf_Filling_scale : NoAttr K c_Filling "scale")     (C_Filling_cleared : ClM P w K mg base 1 c_Filling "cleared" ["self", "line", "turning", "column"] (sp_Filling_cleared c_Filling)) (d : DfM K c_Filling "turn" "Filling.turn" ["self", "at", "column"] s_Filling_turn) : ClM P w K mg base 2 c_Filling "turn" ["self", "at", "column"] (sp_Filling_turn c_Filling) := by
  refine d.clB sc_Filling_turn (fun as L R Ex h => ?_) (fun f cdv A outer s H E hr => ?_)
  · obtain ⟨P, lines, goal, os, s, w, r, c, rfl, _⟩ := h; rfl
  · have nd := sc_Filling_turn.nd
    refine ⟨_,
  (ss_cons (s_set (i := 3) nd rfl (by first | exact .inl rfl | exact .inr rfl) (g_ix (g_fld cl_Filling nf_Filling_lines (g_pv 0)) (g_pv 1)))
    (ss_cons (s_for (vs := [4]) PassesOwn.never rfl (i_range1 (by rfl) m_range (ga_cons (g_callB k_len (by rfl) m_len PySem.boot_len (ga_cons (g_fld cl_Filling nf_Filling_lines (g_pv 0)) ga_nil)) ga_nil)) (p_name (i := 4) nd rfl (by first | exact .inl rfl | exact .inr rfl))
     (ss_one (s_if (t_cmp c_neI (g_pv 4) (g_pv 1) (nomark _))
      (ss_one (s_setIx (g_meth cl_Filling C_Filling_cleared hr (g_pv 0) (ga_cons (g_ix (g_fld cl_Filling nf_Filling_lines (g_pv 0)) (g_pv 4)) (ga_cons (g_pv 3) (ga_cons (g_pv 2) ga_nil)))) (g_fld cl_Filling nf_Filling_lines (g_pv 0)) (g_pv 4)))
      ss_nil)))
    (ss_cons (s_fld cl_Filling nf_Filling_goal (g_pv 0) (g_meth cl_Filling C_Filling_cleared hr (g_pv 0) (ga_cons (g_fld cl_Filling nf_Filling_goal (g_pv 0)) (ga_cons (g_pv 3) (ga_cons (g_pv 2) ga_nil)))))
    (ss_cons (s_fld cl_Filling nf_Filling_scale (g_pv 0) (g_ix (g_pv 3) (g_pv 2)))
    (ss_one (s_setIx (g_pv 2) (g_fld cl_Filling nf_Filling_owners (g_pv 0)) (g_pv 1))))))), fun as L R Ex h hb => ?_⟩
    obtain ⟨P, lines, goal, os, s, w, r, c, rfl, rfl, ok, hr, hc, q⟩ := h
    have olen := ok.len
    have om := ok.m
    have hw := ok.wb
    have get : ∀ {k : Nat}, k < lines.length → ∃ l, lines[k]? = some l ∧ lines.getD k [] = l ∧ l.length = w + 1 ∧ ∀ x ∈ l, Bd x := fun {k} hk => by
      have e := List.getElem?_eq_getElem hk
      exact ⟨lines[k], e, by rw [List.getD_eq_getElem?_getD, e]; rfl, ok.ll _ (List.getElem_mem hk), ok.bl _ (List.getElem_mem hk)⟩
    obtain ⟨tr, gt, dt, ht, bt⟩ := get hr
    have tl : ∀ i, (turnL s lines r c i).length = lines.length := fun i => by simp [turnL]
    have tg : ∀ {i k : Nat}, k < lines.length → (turnL s lines r c i)[k]? = some (if k < i ∧ k ≠ r then clrF s (lines.getD k []) (lines.getD r []) c else lines.getD k []) := fun {i k} hk => by simp [turnL, hk]
    have t0 : turnL s lines r c 0 = lines := by
      refine List.ext_getElem? fun k => ?_
      by_cases hk : k < lines.length
      · rw [tg hk, if_neg (by omega)]
        obtain ⟨l, g1, g2, _⟩ := get hk
        rw [g1, g2]
      · rw [List.getElem?_eq_none (by rw [tl]; omega), List.getElem?_eq_none (by omega)]
    refine ⟨_, _, fil0, filF_l, _, fil_line gt, ?_⟩
    refine ⟨_, _, fil0, filF_l, onO_of (sq_own fil1) ⟨by simp; omega, ?_⟩⟩
    refine ⟨fun i s' L' => ∃ x4, s' = [some (.own P.length), some (.d (.int (r : Nat))), some (.d (.int (c : Nat))), some (.d (.list (nts tr))), x4] ∧ L' = filS c_Filling P (turnL s lines r c i) goal os s, ⟨_, rfl, by rw [t0]⟩, ?_⟩
    rintro i s' L' ⟨x4, rfl, rfl⟩ hi
    refine ⟨trivial, by rw [fil_len, fil_len]; exact Nat.le_refl _, fun a ea => ?_, fun e => ?_⟩
    · obtain ⟨rfl, hi2⟩ := rng0_el ea
      have hi3 : i < lines.length := by simpa using hi2
      obtain ⟨l, gl, dl, hl, bl⟩ := get hi3
      have gi : (turnL s lines r c i)[i]? = some l := by rw [tg hi3, if_neg (by omega), dl]
      have nextE : i = r → turnL s lines r c (i + 1) = turnL s lines r c i := fun e => by
        refine List.ext_getElem? fun k => ?_
        by_cases hk : k < lines.length
        · rw [tg hk, tg hk]
          by_cases hki : k = i
          · subst hki; rw [if_neg (fun z => z.2 e), if_neg (fun z => z.2 e)]
          · by_cases h2 : k < i ∧ k ≠ r
            · rw [if_pos h2, if_pos ⟨by omega, h2.2⟩]
            · rw [if_neg h2, if_neg (fun z => h2 ⟨by omega, z.2⟩)]
        · rw [List.getElem?_eq_none (by rw [tl]; omega), List.getElem?_eq_none (by rw [tl]; omega)]
      have nextN : i ≠ r → (turnL s lines r c i).set i (clrF s l tr c) = turnL s lines r c (i + 1) := fun e => by
        refine List.ext_getElem? fun k => ?_
        by_cases hk : k < lines.length
        · by_cases hki : i = k
          · subst hki
            rw [List.getElem?_set_self (by rw [tl]; exact hk), tg hk, if_pos ⟨Nat.lt_succ_self _, e⟩, dl, dt]
          · rw [List.getElem?_set_ne hki, tg hk, tg hk]
            by_cases h2 : k < i ∧ k ≠ r
            · rw [if_pos h2, if_pos ⟨by omega, h2.2⟩]
            · rw [if_neg h2, if_neg (fun z => h2 ⟨by omega, z.2⟩)]
        · rw [List.getElem?_eq_none (by rw [List.length_set, tl]; omega), List.getElem?_eq_none (by rw [tl]; omega)]
      refine ⟨fun z => ?_, fun z => ?_⟩
      · have ne : i ≠ r := by
          intro e; subst e; simp at z
        refine ⟨_, fil0, (by rfl), _, _, fil0, filF_l, _, fil_line gi, ?_⟩
        refine ⟨P.length, goal, P.length, s, l, tr, c, rfl, fil0, by omega, by omega, by omega, bl, bt, ok.pos, ok.bs, ?_⟩
        refine ⟨_, _, fil0, filF_l, _, i, fil1, ixN_n (by simp [tl]; exact hi3), ?_⟩
        have e2 : ((lnsD (turnL s lines r c i)).map GL.A.d).set i (.d (.list (nts (clrF s l tr c)))) = (lnsD (turnL s lines r c (i + 1))).map .d := by
          rw [lnsD_set, nextN ne]
        rw [e2, fil_p1]
        exact ⟨_, _, Wk.refl, by rw [fil_len, fil_len]; exact Nat.le_refl _, _, rfl, rfl⟩
      · have e : i = r := by
          by_cases e : i = r
          · exact e
          · exfalso
            have : ¬ ((i : Int) = (r : Int)) := by omega
            simp [this] at z
        exact ⟨_, _, Wk.refl, by rw [fil_len, fil_len]; exact Nat.le_refl _, _, rfl, by rw [nextE e]⟩
    have e' : i = lines.length := by rw [e]; simp [rngA_len]
    subst e'
    refine ⟨_, fil0, (by rfl), _, _, fil0, filF_g, ?_⟩
    refine ⟨P.length, goal, P.length, s, goal, tr, c, rfl, fil0, by rw [ok.lg]; omega, by rw [ok.lg]; omega, by rw [ok.lg]; omega, ok.bg, bt, ok.pos, ok.bs, ?_⟩
    refine ⟨_, fil0, (by show 4 < 1000; decide), ?_⟩
    rw [filF_pg, fil_p0]
    refine ⟨_, itL (by omega), ?_⟩
    refine ⟨_, fil0, (by show 4 < 1000; decide), ?_⟩
    rw [filF_ps, fil_p0]
    refine ⟨_, _, fil0, filF_o, _, r, fil2, ixN_n (by simp; omega), ?_⟩
    rw [ownI_set, fil_p2]
    rw [dt] at q
    exact ⟨_, _, Wk.refl, by rw [fil_len, fil_len]; exact Nat.le_refl _, q⟩
-- Filling.fill: 0 self, 1 column
abbrev s_Filling_fill : Stmt := inClass (topS 1) 5
theorem sc_Filling_fill : FnScope ["self", "column"] ["self"] (defScope s_Filling_fill) := ⟨rfl, rfl, rfl, by decide +kernel, rfl, by decide +kernel, by decide +kernel⟩
def sp_Filling_fill (C : Addr) : ASp := fun as L R _ => ∃ P mems caps w, as = [.own P.length] ∧ L = filS C P (lin0 mems caps) (gol0 caps w) (os0 caps.length mems.length) 1 ∧ Pr mems caps w ∧ ∀ os, Feas caps.length (mems.length + caps.length) (Mx mems caps) os → (∀ j, j < mems.length + caps.length → 0 ≤ Gl caps.length (Mx mems caps) (gx w) os j) →
  R (.d .none) (filS C P (linT caps.length (mems.length + caps.length) (Mx mems caps) os) (golT caps.length (mems.length + caps.length) (Mx mems caps) (gx w) os) os (Dt caps.length (Mx mems caps) os))
theorem ok_Filling_fill  {c_Filling : Addr} (cl_Filling : Cls K c_Filling)      (C_Filling_coming : ClM P w K mg base 1 c_Filling "coming" ["self"] (sp_Filling_coming c_Filling)) (C_Filling_going : ClM P w K mg base 1 c_Filling "going" ["self", "column"] (sp_Filling_going c_Filling)) (C_Filling_turn : ClM P w K mg base 2 c_Filling "turn" ["self", "at", "column"] (sp_Filling_turn c_Filling)) (d : DfM K c_Filling "fill" "Filling.fill" ["self"] s_Filling_fill) : ClM P w K mg base 3 c_Filling "fill" ["self"] (sp_Filling_fill c_Filling) := by
  refine d.clB sc_Filling_fill (fun as L R Ex h => ?_) (fun f cdv A outer s H E hr => ?_)
  · obtain ⟨P, mems, caps, w, rfl, _⟩ := h; rfl
  · have nd := sc_Filling_fill.nd
    refine ⟨_,
  (ss_cons (s_set (i := 1) nd rfl (by first | exact .inl rfl | exact .inr rfl) (g_meth0 cl_Filling C_Filling_coming hr (g_pv 0)))
    (ss_one (s_while PassesOwn.never (t_cmp c_notN (g_pv 1) g_non (nomark _))
     (ss_cons (s_expr (g_meth cl_Filling C_Filling_turn hr (g_pv 0) (ga_cons (g_meth cl_Filling C_Filling_going hr (g_pv 0) (ga_cons (g_pv 1) ga_nil)) (ga_cons (g_pv 1) ga_nil))))
     (ss_one (s_set (i := 1) nd rfl (by first | exact .inl rfl | exact .inr rfl) (g_meth0 cl_Filling C_Filling_coming hr (g_pv 0)))))))), fun as L R Ex h hb => ?_⟩
    obtain ⟨P, mems, caps, w, rfl, rfl, pr, q⟩ := h
    have n64 := pr.n64
    have m64 := pr.m64
    have un : Un caps.length mems.length (Mx mems caps) := Mx_Un
    have e1 : Dt caps.length (Mx mems caps) (os0 caps.length mems.length) = 1 := Dt_os0 un
    rw [← lin0_eq pr, ← gol0_eq pr, ← e1]
    have gl1 : ∀ os, 1 ≤ (golT caps.length (mems.length + caps.length) (Mx mems caps) (gx w) os).length ∧ (golT caps.length (mems.length + caps.length) (Mx mems caps) (gx w) os).length ≤ 1000 := fun os => by
      unfold golT; rw [fl_len]; omega
    refine ⟨_, fil0, (by rfl), ?_⟩
    refine ⟨P, _, _, _, _, rfl, rfl, (gl1 _).1, (gl1 _).2, ?_⟩
    refine ⟨fun μ s' L' => ∃ st k, Way caps.length (mems.length + caps.length) (Mx mems caps) (gx w) st k ∧ μ = left caps.length (mems.length + caps.length) st k ∧ s' = [some (.own P.length), some (.d (optD (comeF (golT caps.length (mems.length + caps.length) (Mx mems caps) (gx w) (st k)))))] ∧ L' = filS c_Filling P (linT caps.length (mems.length + caps.length) (Mx mems caps) (st k)) (golT caps.length (mems.length + caps.length) (Mx mems caps) (gx w) (st k)) (st k) (Dt caps.length (Mx mems caps) (st k)), ?_, ?_⟩
    · exact ⟨_, fun _ => os0 caps.length mems.length, 0, ⟨fun i hi => feas0 pr, fun i hi => absurd hi (Nat.not_lt_zero i)⟩, rfl, rfl, rfl⟩
    rintro μ s' L' ⟨st, k, way, rfl, rfl, rfl⟩
    have f := way.fs k (Nat.le_refl k)
    have ok := filOk pr f
    refine ⟨by rw [fil_len, fil_len]; exact Nat.le_refl _, ?_⟩
    cases hc : comeF (golT caps.length (mems.length + caps.length) (Mx mems caps) (gx w) (st k)) with
    | none =>
      refine ⟨rfl, ⟨fun z => (by cases z), fun _ => ?_⟩⟩
      exact ⟨_, _, Wk.refl, by rw [fil_len, fil_len]; exact Nat.le_refl _, q (st k) f (top_of hc)⟩
    | some c =>
      obtain ⟨r, hr, hrm, bl⟩ := bl_of f hc (fun k _ j hj => Mx_nn hj) fun j hj => Mx_nz pr hj
      obtain ⟨st', es, way', lt⟩ := way.new un (fun k _ => gx_0 pr) bl
      refine ⟨rfl, ⟨fun _ => ?_, fun z => (by cases z)⟩⟩
      refine ⟨_, fil0, (by rfl), _, fil0, (by rfl), ?_⟩
      have hcw : c ≤ mems.length + caps.length := Nat.le_of_lt bl.cN
      refine ⟨P, _, _, _, _, _, c, rfl, rfl, ok, hcw, ?_⟩
      rw [hr]
      refine ⟨P, _, _, _, _, _, r, c, rfl, rfl, ok, by rw [linT_len]; exact hrm, hcw, ?_⟩
      rw [linT_len, turn_L f hrm (by omega), linT_getD hrm, clr_G f hrm (by omega), fl_getD (by omega)]
      rw [show Tb caps.length (Mx mems caps) (st k) r c = Dt caps.length (Mx mems caps) ((st k).set r c) from rfl, ← es]
      refine ⟨_, fil0, (by rfl), ?_⟩
      refine ⟨P, _, _, _, _, rfl, rfl, (gl1 _).1, (gl1 _).2, ?_⟩
      exact ⟨_, _, _, Wk.refl, by rw [fil_len, fil_len]; exact Nat.le_refl _, lt, st', k + 1, way', rfl, rfl, rfl⟩
-- greatest: 0 members, 1 caps, 2 weights, 3 filling, 4 many, 5 numbers, 6 line, 7 owner
abbrev s_greatest : Stmt := topS 2
theorem sc_greatest : FnScope ["members", "caps", "weights", "filling", "many", "numbers", "line", "owner"] ["members", "caps", "weights"] (defScope s_greatest) := ⟨rfl, rfl, rfl, by decide +kernel, rfl, by decide +kernel, by decide +kernel⟩
def sp_greatest : ASp := fun as L R _ => ∃ mems caps w, as = [.d (.list (lnsD mems)), .d (.list (nts caps)), .d (.list (nts w))] ∧ Pr mems caps w ∧ ∀ s xs ps, (Best mems caps w s xs ps ∧ ∃ os, Feas caps.length (mems.length + caps.length) (Mx mems caps) os ∧ s = Dt caps.length (Mx mems caps) os) → R (.tup [.own L.length, .d (.list (nts ps)), .d (.int s)]) (L ++ [.lst ((nts xs).map .d)])
theorem ok_greatest (d : Df K mg "greatest" ["members", "caps", "weights"] s_greatest) (m_len : mg "len" = none) (m_zip : mg "zip" = none) {c_Filling : Addr} (cl_Filling : Cls K c_Filling) (nf_Filling_goal : NoAttr K c_Filling "goal") (nf_Filling_lines : NoAttr K c_Filling "lines") (nf_Filling_owners : NoAttr K c_Filling "owners") (nf_Filling_scale : NoAttr K c_Filling "scale") (K_Filling : MkC P w K mg base 1 c_Filling "Filling" ["self", "members", "caps", "weights"] (sp_Filling_init c_Filling))    (C_Filling_fill : ClM P w K mg base 3 c_Filling "fill" ["self"] (sp_Filling_fill c_Filling)) : Cl P w K mg base 4 "greatest" ["members", "caps", "weights"] sp_greatest := by
  refine d.clB sc_greatest (fun as L R Ex h => ?_) (fun f cdv A outer s H E hr => ?_)
  · obtain ⟨mems, caps, w, rfl, _⟩ := h; rfl
  · have nd := sc_greatest.nd
    refine ⟨_,
  (ss_cons (s_set (i := 3) nd rfl (by first | exact .inl rfl | exact .inr rfl) (g_mk K_Filling hr (by rfl) (ga_cons (g_pv 0) (ga_cons (g_pv 1) (ga_cons (g_pv 2) ga_nil)))))
    (ss_cons (s_expr (g_meth0 cl_Filling C_Filling_fill hr (g_pv 3)))
    (ss_cons (s_set (i := 4) nd rfl (by first | exact .inl rfl | exact .inr rfl) (g_callB k_len (by rfl) m_len PySem.boot_len (ga_cons (g_pv 0) ga_nil)))
    (ss_cons (s_set (i := 5) nd rfl (by first | exact .inl rfl | exact .inr rfl) (g_op o_repLO (g_lst (ga_cons g_int ga_nil)) (g_pv 4)))
    (ss_cons (s_for (vs := [6, 7]) PassesOwn.never rfl (i_z2 true true (by rfl) m_zip (ga_cons (g_fld cl_Filling nf_Filling_lines (g_pv 3)) (ga_cons (g_fld cl_Filling nf_Filling_owners (g_pv 3)) ga_nil))) (p_tup (n := 2) rfl (ps_cons (p_name (i := 6) nd rfl (by first | exact .inl rfl | exact .inr rfl)) (ps_cons (p_name (i := 7) nd rfl (by first | exact .inl rfl | exact .inr rfl)) ps_nil)))
     (ss_one (s_if (t_cmp c_lt (g_pv 7) (g_pv 4) (nomark _))
      (ss_one (s_setIx (g_ix (g_pv 6) (g_neg g_int)) (g_pv 5) (g_pv 7)))
      ss_nil)))
    (ss_one (s_ret (g_tup (ga_cons (g_pv 5) (ga_cons (g_slL (g_fld cl_Filling nf_Filling_goal (g_pv 3)) (go_some (g_pv 4)) (go_some (g_op o_add (g_pv 4) (g_callB k_len (by rfl) m_len PySem.boot_len (ga_cons (g_pv 1) ga_nil))))) (ga_cons (g_fld cl_Filling nf_Filling_scale (g_pv 3)) ga_nil))))))))))), fun as L R Ex h hb => ?_⟩
    obtain ⟨mems, caps, w, rfl, pr, q⟩ := h
    have n64 := pr.n64
    have m64 := pr.m64
    have un : Un caps.length mems.length (Mx mems caps) := Mx_Un
    refine ⟨L, mems, caps, w, rfl, rfl, pr, rfl, ?_⟩
    refine ⟨_, fil0, (by rfl), ?_⟩
    refine ⟨L, mems, caps, w, rfl, rfl, pr, fun os f top => ?_⟩
    have bst := best pr f top
    have ok := filOk pr f
    generalize hT : linT caps.length (mems.length + caps.length) (Mx mems caps) os = T at ok ⊢
    generalize hG : golT caps.length (mems.length + caps.length) (Mx mems caps) (gx w) os = G at ok ⊢
    have Tget : ∀ {i : Nat}, i < caps.length → T[i]? = some (fl (mems.length + caps.length + 1) (Tb caps.length (Mx mems caps) os i)) := fun hi => by rw [← hT]; exact linT_get hi
    have Tl : T.length = caps.length := by rw [← hT, linT_len]
    have em : ((lnsD mems).map GL.A.d).length = mems.length := by simp
    refine ⟨ll rfl, _, rfl, ⟨by rw [em]; omega, by rw [em]; omega, by rw [em]; show 1 * _ ≤ _; exact le_line (by omega)⟩, ?_⟩
    have en : (List.replicate ((((lnsD mems).map GL.A.d).length : Nat) : Int).toNat (List.map GL.A.d [.int 0])).flatten = (nts (List.replicate mems.length 0)).map .d := by
      rw [List.length_map, List.length_map, Int.toNat_natCast]
      show (List.replicate _ [GL.A.d (.int 0)]).flatten = _
      rw [List.flatten_replicate_singleton]; simp [nts]
    rw [en]
    let nm : Nat → List Int := fun i => fl mems.length fun j => sm i fun i' => if ow os i' = j then Tb caps.length (Mx mems caps) os i' (mems.length + caps.length) else 0
    have nm0 : nm 0 = List.replicate mems.length 0 := by
      refine List.ext_getElem? fun j => ?_
      by_cases h : j < mems.length
      · show (fl mems.length _)[j]? = _
        rw [fl_get h, List.getElem?_replicate, if_pos h]; rfl
      · rw [List.getElem?_eq_none (by show (fl mems.length _).length ≤ j; rw [fl_len]; omega), List.getElem?_eq_none (by simp; omega)]
    have e9 : ∀ X : AO, filS c_Filling L T G os (Dt caps.length (Mx mems caps) os) ++ [X] = L ++ (.obj c_Filling (filF L.length G (Dt caps.length (Mx mems caps) os)) :: .lst ((lnsD T).map .d) :: .lst ((nts (ownI os)).map .d) :: X :: []) := fun X => by
      unfold filS; rw [papp]; rfl
    rw [fil_len, ← nm0]
    simp only [e9]
    refine ⟨_, _, pget0, filF_l, _, _, pget0, filF_o, onO_of (ls_own pget1) (onO_of (ls_own pget2) ?_)⟩
    refine ⟨fun i s' L' => ∃ x6 x7, s' = [some (.d (.list (lnsD mems))), some (.d (.list (nts caps))), some (.d (.list (nts w))), some (.own L.length), some (.d (.int (mems.length : Nat))), some (.own (L.length + 3)), x6, x7] ∧ L' = L ++ (.obj c_Filling (filF L.length G (Dt caps.length (Mx mems caps) os)) :: .lst ((lnsD T).map .d) :: .lst ((nts (ownI os)).map .d) :: .lst ((nts (nm i)).map .d) :: []), ⟨none, none, by rw [em]; rfl, rfl⟩, ?_⟩
    rintro i s' L' ⟨x6, x7, rfl, rfl⟩ hi
    refine ⟨⟨ls_own pget1, ls_own pget2⟩, by simp, fun a ea => ?_, fun e => ?_⟩
    · obtain ⟨b1, b2, e1, e2, rfl⟩ := zipA_el ea
      obtain ⟨d1, f1, rfl⟩ := mapd_get e1
      obtain ⟨o1, f2, rfl⟩ := nts_get e2
      have hi2 : i < caps.length := by
        have := (List.getElem?_eq_some_iff.mp f1).1
        simpa [Tl] using this
      rw [List.getElem?_map, Tget hi2] at f1
      cases f1
      rw [List.getElem?_map, ow_get (by rw [f.len]; exact hi2)] at f2
      cases f2
      have hs : ∀ j, (sm (i + 1) fun i' => if ow os i' = j then Tb caps.length (Mx mems caps) os i' (mems.length + caps.length) else 0) = (sm i fun i' => if ow os i' = j then Tb caps.length (Mx mems caps) os i' (mems.length + caps.length) else 0) + (if ow os i = j then Tb caps.length (Mx mems caps) os i (mems.length + caps.length) else 0) := fun j => rfl
      refine ⟨rfl, rfl, ⟨fun z => ?_, fun z => ?_⟩⟩
      · have z1 : ow os i < mems.length := by
          have z2 : ((ow os i : Nat) : Int) < ((mems.length : Nat) : Int) := of_decide_eq_true z
          omega
        refine ⟨_, itLast (by rw [fl_len]; omega), _, ow os i, pget3, ixN_n (by simp [nm, fl_len]; exact z1), ?_⟩
        rw [nts_set, pset3]
        have e3 : (nm i).set (ow os i) ((fl (mems.length + caps.length + 1) (Tb caps.length (Mx mems caps) os i)).getD ((fl (mems.length + caps.length + 1) (Tb caps.length (Mx mems caps) os i)).length - 1) 0) = nm (i + 1) := by
          rw [fl_len, show mems.length + caps.length + 1 - 1 = mems.length + caps.length by omega, fl_getD (by omega)]
          refine List.ext_getElem? fun j => ?_
          by_cases h : j < mems.length
          · show _ = (fl mems.length _)[j]?
            rw [fl_get h, hs]
            by_cases hj : ow os i = j
            · subst hj
              rw [List.getElem?_set_self (by simp [nm, fl_len]; exact h), if_pos rfl, sm_zero fun i' hi' => if_neg fun z => by
                have := f.nd (by omega) hi2 z
                omega]; simp
            · rw [List.getElem?_set_ne hj, if_neg hj, Int.add_zero]
              exact fl_get h
          · rw [List.getElem?_eq_none (by rw [List.length_set]; show (fl mems.length _).length ≤ j; rw [fl_len]; omega), List.getElem?_eq_none (by show (fl mems.length _).length ≤ j; rw [fl_len]; omega)]
        rw [e3]
        exact ⟨_, _, Wk.refl, by simp, _, _, rfl, rfl⟩
      · have z1 : ¬ ow os i < mems.length := by
          have z2 : ¬ ((ow os i : Nat) : Int) < ((mems.length : Nat) : Int) := of_decide_eq_false z
          omega
        have e3 : nm (i + 1) = nm i := fl_congr fun j hj => by rw [hs, if_neg (by omega), Int.add_zero]
        exact ⟨_, _, Wk.refl, by simp, _, _, rfl, by rw [e3]⟩
    have e' : i = caps.length := by rw [e, zipA_len]; simp [Tl, f.len]
    subst e'
    have en2 : nm caps.length = fl mems.length (xv caps.length (mems.length + caps.length) (Mx mems caps) os) := rfl
    rw [en2]
    refine ⟨_, _, pget0, filF_g, nts G, rfl, _, _, pget0, filF_s, ll rfl, ?_⟩
    have ec : cutL (nts G) (some ((mems.length : Nat) : Int)) (some ((mems.length : Nat) + (((nts caps).map GL.A.d).length : Nat) : Int)) = nts (fl caps.length fun k => Gl caps.length (Mx mems caps) (gx w) os (mems.length + k)) := by
      rw [List.length_map, List.length_map]
      have := cut_mid (xs := nts G) (m := mems.length) (n := mems.length + caps.length) (by omega) (by rw [← hG]; simp [golT, fl_len]; try omega)
      rw [Int.natCast_add] at this
      rw [this, ← hG]
      unfold golT
      rw [← List.map_drop, ← List.map_take, fl_drop, show mems.length + caps.length - mems.length = caps.length by omega, fl_take (by omega)]
    rw [ec]
    refine ⟨.tup [.own L.length, .d (.list (nts (fl caps.length fun k => Gl caps.length (Mx mems caps) (gx w) os (mems.length + k)))), .d (.int (Dt caps.length (Mx mems caps) os))], L ++ [.lst ((nts (fl mems.length (xv caps.length (mems.length + caps.length) (Mx mems caps) os))).map .d)], Wk.keep [3] hb (by simp) rfl (fun j n e => ?_) ?_, by simp, q _ _ _ ⟨bst, os, f, rfl⟩⟩
    · match j, e with
      | 0, e =>
        cases e
        exact ⟨_, rfl, by show some _ = some (AO.lst (GL.A.renL _ _)); rw [renL_ds]⟩
      | j + 1, e => simp at e
    · show [some (GL.A.tup [.own (L.length + 3), _, _])] = [some (GL.A.tup [.own (kpR L.length [3] 4 (L.length + 0)), _, _])]
      rw [kpR_at (n := 3) rfl]
      rfl
-- is_whole: 0 thing
abbrev s_is_whole : Stmt := topS 11
theorem sc_is_whole : FnScope ["thing"] ["thing"] (defScope s_is_whole) := ⟨rfl, rfl, rfl, by decide +kernel, rfl, by decide +kernel, by decide +kernel⟩
def sp_is_whole : ASp := fun as L R _ => ∃ x, as = [.d x] ∧ R (.d (.bool (isInt x))) L
theorem ok_is_whole (d : Df K mg "is_whole" ["thing"] s_is_whole) (m_bool : mg "bool" = none) (m_int : mg "int" = none) (m_isinstance : mg "isinstance" = none)        : Cl P w K mg base 1 "is_whole" ["thing"] sp_is_whole := by
  refine d.clB sc_is_whole (fun as L R Ex h => ?_) (fun f cdv A outer s H E hr => ?_)
  · obtain ⟨x, rfl, _⟩ := h; rfl
  · have nd := sc_is_whole.nd
    refine ⟨_,
  (ss_one (s_ret (g_and (g_callB k_isi (by rfl) m_isinstance (by decide +kernel) (ga_cons (g_pv 0) (ga_cons (g_ty (n := "int") (by rfl) m_int (by decide +kernel)) ga_nil))) (g_one (g_not (g_callB k_isi (by rfl) m_isinstance (by decide +kernel) (ga_cons (g_pv 0) (ga_cons (g_ty (n := "bool") (by rfl) m_bool (by decide +kernel)) ga_nil)))))))), fun as L R Ex h hb => ?_⟩
    obtain ⟨x, rfl, q⟩ := h
    cases x with
    | int m => exact ⟨by rfl, ⟨fun _ => ⟨by rfl, rt0 q (Nat.le_refl _)⟩, fun z => absurd z (by decide)⟩⟩
    | bool b => exact ⟨by rfl, ⟨fun _ => ⟨by rfl, rt0 q (Nat.le_refl _)⟩, fun z => absurd z (by decide)⟩⟩
    | none => exact ⟨by rfl, ⟨fun z => absurd z (by decide), fun _ => rt0 q (Nat.le_refl _)⟩⟩
    | str b => exact ⟨by rfl, ⟨fun z => absurd z (by decide), fun _ => rt0 q (Nat.le_refl _)⟩⟩
    | list b => exact ⟨by rfl, ⟨fun z => absurd z (by decide), fun _ => rt0 q (Nat.le_refl _)⟩⟩
    | tuple b => exact ⟨by rfl, ⟨fun z => absurd z (by decide), fun _ => rt0 q (Nat.le_refl _)⟩⟩
    | grp b => exact ⟨by rfl, ⟨fun z => absurd z (by decide), fun _ => rt0 q (Nat.le_refl _)⟩⟩
-- frame_of: 0 kinds, 1 many, 2 kind
abbrev s_frame_of : Stmt := topS 12
theorem sc_frame_of : FnScope ["kinds", "many", "kind"] ["kinds"] (defScope s_frame_of) := ⟨rfl, rfl, rfl, by decide +kernel, rfl, by decide +kernel, by decide +kernel⟩
def sp_frame_of : ASp := fun as L R _ => ∃ ka fr, as = [ka] ∧ (plOf L ka = some ((nts fr).map .d) ∨ ka = .d (.grp (nts fr))) ∧ FrOk fr ∧ R (.d (.grp (nts fr))) L
theorem ok_frame_of (d : Df K mg "frame_of" ["kinds"] s_frame_of) (m_isinstance : mg "isinstance" = none) (m_len : mg "len" = none) (m_list : mg "list" = none) (m_tuple : mg "tuple" = none)       {t_MOST_MARKS : Tok} (c_MOST_MARKS : mg "MOST_MARKS" = some (.int (6) t_MOST_MARKS)) {t_MOST_ROWS_frames : Tok} (c_MOST_ROWS_frames : mg "MOST_ROWS_frames" = some (.int (64) t_MOST_ROWS_frames)) (C_is_whole : Cl P w K mg base 1 "is_whole" ["thing"] sp_is_whole) : Cl P w K mg base 2 "frame_of" ["kinds"] sp_frame_of := by
  refine d.clB sc_frame_of (fun as L R Ex h => ?_) (fun f cdv A outer s H E hr => ?_)
  · obtain ⟨ka, fr, rfl, _⟩ := h; rfl
  · have nd := sc_frame_of.nd
    refine ⟨_,
  (ss_cons (s_cut (s_if (w_t (w_or (t_not (t_val (g_callB k_isi2 (by rfl) m_isinstance (by decide +kernel) (ga_cons (g_pv 0) (ga_cons (g_tup (ga_cons (g_ty (n := "list") (by rfl) m_list (by decide +kernel)) (ga_cons (g_ty (n := "tuple") (by rfl) m_tuple (by decide +kernel)) ga_nil))) ga_nil))))) (w_or1 (t_not (t_chain c_le c_le g_int (g_callB k_len (by rfl) m_len PySem.boot_len (ga_cons (g_pv 0) ga_nil)) (g_globI (by rfl) c_MOST_MARKS))))))
     (ss_one s_never)
     ss_nil))
    (ss_cons (s_set (i := 1) nd rfl (by first | exact .inl rfl | exact .inr rfl) g_int)
    (ss_cons (s_for (vs := [2]) PassesOwn.never rfl (i_sq (g_pv 0)) (p_name (i := 2) nd rfl (by first | exact .inl rfl | exact .inr rfl))
     (ss_cons (s_if (w_t (w_or (t_not (t_val (g_clA C_is_whole hr (by rfl) (ga_cons (g_pv 2) ga_nil)))) (w_or1 (t_not (t_chain c_le c_le g_int (g_pv 2) g_int)))))
      (ss_one s_never)
      ss_nil)
     (ss_one (s_set (i := 1) nd rfl (by first | exact .inl rfl | exact .inr rfl) (g_op o_mul (g_pv 1) (g_pv 2))))))
    (ss_cons (s_if (t_cmp c_gt (g_pv 1) (g_globI (by rfl) c_MOST_ROWS_frames) (nomark _))
     (ss_one s_never)
     ss_nil)
    (ss_one (s_ret (g_callTy k_tupG (by rfl) m_tuple (by decide +kernel) (ga_cons (g_pv 0) ga_nil)))))))), fun as L R Ex h hb => ?_⟩
    obtain ⟨ka, fr, rfl, hk, ok, q⟩ := h
    have hsq : sqOf L ka = some ((nts fr).map .d) := by
      rcases hk with hk | rfl
      · exact pl_sq hk
      · rfl
    have el : ((nts fr).map GL.A.d).length = fr.length := by simp [nts]
    have b1 := ok.pos
    have b2 := ok.six
    have p1 := prod_bd (ks := fr) fun k hk' => ⟨by have := ok.kinds k hk'; omega, (ok.kinds k hk').2⟩
    have tail : ∀ {D : GEnds}, D.rt = (fnEnds L.length R).rt → True := fun _ => trivial
    refine ⟨fun s L' => s = [some ka, none, none] ∧ L' = L, ?_, ?_⟩
    · rcases hk with hk | rfl
      · refine ⟨ll rfl, onO_of (pl_ty hk) ⟨by rfl, by rfl, ⟨fun z => absurd z (by decide), fun _ => onO_of hsq ?_⟩⟩⟩
        exact ⟨fun _ => ⟨fun z => (nd_t (by rw [el]; omega) z).elim, fun _ => ⟨rfl, rfl⟩⟩, fun z => (d_f (by rw [el]; omega) z).elim⟩
      · exact ⟨ll rfl, by rfl, by rfl, ⟨fun z => absurd z (by decide), fun _ => ⟨fun _ => ⟨fun z => (nd_t (by rw [el]; omega) z).elim, fun _ => ⟨rfl, rfl⟩⟩, fun z => (d_f (by rw [el]; omega) z).elim⟩⟩⟩
    rintro s L' ⟨rfl, rfl⟩
    refine onO_of hsq ?_
    refine ⟨fun i s L => ∃ x2, s = [some ka, some (.d (.int (prod (fr.take i)))), x2] ∧ L = L', ⟨none, rfl, rfl⟩, ?_⟩
    rintro i s L ⟨x2, rfl, rfl⟩ hi
    refine ⟨hsq, Nat.le_refl _, fun a ea => ?_, fun e => ?_⟩
    · obtain ⟨k, ek, rfl⟩ := nts_get ea
      have hkb := ok.kinds k (List.mem_of_getElem? ek)
      refine ⟨_, rfl, ⟨fun z => (by cases z), fun _ => ⟨fun _ => ⟨fun z => (nd_t hkb.2 z).elim, fun _ => ?_⟩, fun z => (d_f hkb.1 z).elim⟩⟩⟩
      refine ⟨.inr (by omega), _, _, Wk.refl, Nat.le_refl _, some (.d (.int k)), ?_, rfl⟩
      rw [prod_take ek]; rfl
    have e' : i = fr.length := by rw [e]; simp [nts]
    subst e'
    rw [List.take_length]
    have p2 := ok.room
    refine ⟨fun z => ?_, fun _ => ?_⟩
    · have := of_decide_eq_true z; omega
    · exact ⟨nts fr, hk, rt0 q (Nat.le_refl _)⟩
-- is_group: 0 frame, 1 thing, 2 above, 3 mark
abbrev s_is_group : Stmt := topS 13
theorem sc_is_group : FnScope ["frame", "thing", "above", "mark"] ["frame", "thing"] (defScope s_is_group) := ⟨rfl, rfl, rfl, by decide +kernel, rfl, by decide +kernel, by decide +kernel⟩
def sp_is_group : ASp := fun as L R _ => ∃ fa fr x, as = [fa, .d x] ∧ tdOf fa = some (nts fr) ∧ R (.d (.bool (grB fr.length x))) L
theorem ok_is_group (d : Df K mg "is_group" ["frame", "thing"] s_is_group) (m_isinstance : mg "isinstance" = none) (m_len : mg "len" = none) (m_tuple : mg "tuple" = none)        (C_is_whole : Cl P w K mg base 1 "is_whole" ["thing"] sp_is_whole) : Cl P w K mg base 2 "is_group" ["frame", "thing"] sp_is_group := by
  refine d.clB sc_is_group (fun as L R Ex h => ?_) (fun f cdv A outer s H E hr => ?_)
  · obtain ⟨fa, fr, x, rfl, _⟩ := h; rfl
  · have nd := sc_is_group.nd
    refine ⟨_,
  (ss_cons (s_if (w_t (w_or (t_not (t_val (g_callB k_isi (by rfl) m_isinstance (by decide +kernel) (ga_cons (g_pv 1) (ga_cons (g_ty (n := "tuple") (by rfl) m_tuple (by decide +kernel)) ga_nil))))) (w_or1 (t_cmp c_eqI (g_callB k_len (by rfl) m_len PySem.boot_len (ga_cons (g_pv 1) ga_nil)) g_int (nomark _)))))
     (ss_one (s_ret g_bl))
     ss_nil)
    (ss_cons (s_set (i := 2) nd rfl (by first | exact .inl rfl | exact .inr rfl) (g_neg g_int))
    (ss_cons (s_for (vs := [3]) PassesOwn.never rfl (i_tup (g_pv 1)) (p_name (i := 3) nd rfl (by first | exact .inl rfl | exact .inr rfl))
     (ss_cons (s_if (w_t (w_or (t_not (t_val (g_clA C_is_whole hr (by rfl) (ga_cons (g_pv 3) ga_nil)))) (w_or1 (t_not (t_chain c_lt c_lt (g_pv 2) (g_pv 3) (g_callB k_len (by rfl) m_len PySem.boot_len (ga_cons (g_pv 0) ga_nil)))))))
      (ss_one (s_ret g_bl))
      ss_nil)
     (ss_one (s_set (i := 2) nd rfl (by first | exact .inl rfl | exact .inr rfl) (g_pv 3)))))
    (ss_one (s_ret g_bl))))), fun as L R Ex h hb => ?_⟩
    obtain ⟨fa, fr, x, rfl, hf, q⟩ := h
    cases x with
    | tuple ds =>
      refine ⟨by rfl, ⟨fun z => absurd z (by decide), fun _ => ⟨fun z => ?_, fun z => ?_⟩⟩⟩
      · have z := of_decide_eq_true z
        have e : ds = [] := by
          rw [List.length_map] at z
          exact List.length_eq_zero_iff.mp (by omega)
        subst e
        exact rt0 q (Nat.le_refl _)
      have z := of_decide_eq_false z
      have e : ds.isEmpty = false := by
        cases ds with
        | nil => exact (z rfl).elim
        | cons _ _ => rfl
      have q : R (.d (.bool (upto fr.length (-1) ds))) L := by
        have h2 : (!ds.isEmpty && upto fr.length (-1) ds) = upto fr.length (-1) ds := by rw [e]; rfl
        rw [← h2]; exact q
      refine ⟨fun i s L' => ∃ a x3, s = [some fa, some (.d (.tuple ds)), some (.d (.int a)), x3] ∧ L' = L ∧ upto fr.length (-1) ds = upto fr.length a (ds.drop i), ⟨-1, none, rfl, rfl, by simp⟩, ?_⟩
      rintro i s L' ⟨a, x3, rfl, rfl, hu⟩ hi
      refine ⟨trivial, Nat.le_refl _, fun b eb => ?_, fun e => ?_⟩
      · obtain ⟨d, ed, rfl⟩ := mapd_get eb
        have hd : ds.drop i = d :: ds.drop (i + 1) := by
          obtain ⟨h1, h2⟩ := List.getElem?_eq_some_iff.mp ed
          rw [← h2]; exact (List.drop_eq_getElem_cons h1)
        rw [hd] at hu
        refine ⟨d, rfl, ?_⟩
        have no : isInt d = false → upto fr.length (-1) ds = false := fun h => by
          rw [hu]
          cases d <;> first | rfl | (cases h)
        cases d with
        | int m =>
          refine ⟨fun z => (by cases z), fun _ => ?_⟩
          refine ⟨fun h1 => onO_of (sq_of_td hf) ⟨fun h2 => ?_, fun h2 => ?_⟩, fun h1 => ⟨fun _ => ?_, fun z => (by cases z)⟩⟩
          · have h3 : decide (m < (fr.length : Int)) = false := by simpa using h2
            have e : upto fr.length (-1) ds = false := by
              rw [hu]
              show (decide (a < m) && (decide (m < (fr.length : Int)) && _)) = false
              rw [h3, Bool.false_and, Bool.and_false]
            rw [e] at q
            exact rt0 q (Nat.le_refl _)
          · have h3 : decide (m < (fr.length : Int)) = true := by simpa using h2
            refine ⟨_, _, Wk.refl, Nat.le_refl _, m, some (.d (.int m)), rfl, rfl, ?_⟩
            rw [hu]
            show (decide (a < m) && (decide (m < (fr.length : Int)) && upto fr.length m (ds.drop (i + 1)))) = upto fr.length m (ds.drop (i + 1))
            rw [h3]
            rw [show decide (a < m) = true from h1]
            rfl
          · have e : upto fr.length (-1) ds = false := by
              rw [hu]
              show (decide (a < m) && _) = false
              rw [show decide (a < m) = false from h1]
              rfl
            rw [e] at q
            exact rt0 q (Nat.le_refl _)
        | none => exact ⟨fun _ => ⟨fun _ => (by have := no rfl; rw [this] at q; exact rt0 q (Nat.le_refl _)), fun z => (by cases z)⟩, fun z => (by cases z)⟩
        | bool _ => exact ⟨fun _ => ⟨fun _ => (by have := no rfl; rw [this] at q; exact rt0 q (Nat.le_refl _)), fun z => (by cases z)⟩, fun z => (by cases z)⟩
        | str _ => exact ⟨fun _ => ⟨fun _ => (by have := no rfl; rw [this] at q; exact rt0 q (Nat.le_refl _)), fun z => (by cases z)⟩, fun z => (by cases z)⟩
        | list _ => exact ⟨fun _ => ⟨fun _ => (by have := no rfl; rw [this] at q; exact rt0 q (Nat.le_refl _)), fun z => (by cases z)⟩, fun z => (by cases z)⟩
        | tuple _ => exact ⟨fun _ => ⟨fun _ => (by have := no rfl; rw [this] at q; exact rt0 q (Nat.le_refl _)), fun z => (by cases z)⟩, fun z => (by cases z)⟩
        | grp _ => exact ⟨fun _ => ⟨fun _ => (by have := no rfl; rw [this] at q; exact rt0 q (Nat.le_refl _)), fun z => (by cases z)⟩, fun z => (by cases z)⟩
      · have e' : ds.drop i = [] := by rw [e, List.length_map, List.drop_length]
        rw [e'] at hu
        rw [hu] at q
        exact rt0 q (Nat.le_refl _)
    | grp ds =>
      refine ⟨by rfl, ⟨fun z => absurd z (by decide), fun _ => ⟨fun z => ?_, fun z => ?_⟩⟩⟩
      · have z := of_decide_eq_true z
        have e : ds = [] := by
          rw [List.length_map] at z
          exact List.length_eq_zero_iff.mp (by omega)
        subst e
        exact rt0 q (Nat.le_refl _)
      have z := of_decide_eq_false z
      have e : ds.isEmpty = false := by
        cases ds with
        | nil => exact (z rfl).elim
        | cons _ _ => rfl
      have q : R (.d (.bool (upto fr.length (-1) ds))) L := by
        have h2 : (!ds.isEmpty && upto fr.length (-1) ds) = upto fr.length (-1) ds := by rw [e]; rfl
        rw [← h2]; exact q
      refine ⟨fun i s L' => ∃ a x3, s = [some fa, some (.d (.grp ds)), some (.d (.int a)), x3] ∧ L' = L ∧ upto fr.length (-1) ds = upto fr.length a (ds.drop i), ⟨-1, none, rfl, rfl, by simp⟩, ?_⟩
      rintro i s L' ⟨a, x3, rfl, rfl, hu⟩ hi
      refine ⟨trivial, Nat.le_refl _, fun b eb => ?_, fun e => ?_⟩
      · obtain ⟨d, ed, rfl⟩ := mapd_get eb
        have hd : ds.drop i = d :: ds.drop (i + 1) := by
          obtain ⟨h1, h2⟩ := List.getElem?_eq_some_iff.mp ed
          rw [← h2]; exact (List.drop_eq_getElem_cons h1)
        rw [hd] at hu
        refine ⟨d, rfl, ?_⟩
        have no : isInt d = false → upto fr.length (-1) ds = false := fun h => by
          rw [hu]
          cases d <;> first | rfl | (cases h)
        cases d with
        | int m =>
          refine ⟨fun z => (by cases z), fun _ => ?_⟩
          refine ⟨fun h1 => onO_of (sq_of_td hf) ⟨fun h2 => ?_, fun h2 => ?_⟩, fun h1 => ⟨fun _ => ?_, fun z => (by cases z)⟩⟩
          · have h3 : decide (m < (fr.length : Int)) = false := by simpa using h2
            have e : upto fr.length (-1) ds = false := by
              rw [hu]
              show (decide (a < m) && (decide (m < (fr.length : Int)) && _)) = false
              rw [h3, Bool.false_and, Bool.and_false]
            rw [e] at q
            exact rt0 q (Nat.le_refl _)
          · have h3 : decide (m < (fr.length : Int)) = true := by simpa using h2
            refine ⟨_, _, Wk.refl, Nat.le_refl _, m, some (.d (.int m)), rfl, rfl, ?_⟩
            rw [hu]
            show (decide (a < m) && (decide (m < (fr.length : Int)) && upto fr.length m (ds.drop (i + 1)))) = upto fr.length m (ds.drop (i + 1))
            rw [h3]
            rw [show decide (a < m) = true from h1]
            rfl
          · have e : upto fr.length (-1) ds = false := by
              rw [hu]
              show (decide (a < m) && _) = false
              rw [show decide (a < m) = false from h1]
              rfl
            rw [e] at q
            exact rt0 q (Nat.le_refl _)
        | none => exact ⟨fun _ => ⟨fun _ => (by have := no rfl; rw [this] at q; exact rt0 q (Nat.le_refl _)), fun z => (by cases z)⟩, fun z => (by cases z)⟩
        | bool _ => exact ⟨fun _ => ⟨fun _ => (by have := no rfl; rw [this] at q; exact rt0 q (Nat.le_refl _)), fun z => (by cases z)⟩, fun z => (by cases z)⟩
        | str _ => exact ⟨fun _ => ⟨fun _ => (by have := no rfl; rw [this] at q; exact rt0 q (Nat.le_refl _)), fun z => (by cases z)⟩, fun z => (by cases z)⟩
        | list _ => exact ⟨fun _ => ⟨fun _ => (by have := no rfl; rw [this] at q; exact rt0 q (Nat.le_refl _)), fun z => (by cases z)⟩, fun z => (by cases z)⟩
        | tuple _ => exact ⟨fun _ => ⟨fun _ => (by have := no rfl; rw [this] at q; exact rt0 q (Nat.le_refl _)), fun z => (by cases z)⟩, fun z => (by cases z)⟩
        | grp _ => exact ⟨fun _ => ⟨fun _ => (by have := no rfl; rw [this] at q; exact rt0 q (Nat.le_refl _)), fun z => (by cases z)⟩, fun z => (by cases z)⟩
      · have e' : ds.drop i = [] := by rw [e, List.length_map, List.drop_length]
        rw [e'] at hu
        rw [hu] at q
        exact rt0 q (Nat.le_refl _)
    | int m => exact ⟨by rfl, ⟨fun _ => ⟨fun _ => rt0 q (Nat.le_refl _), fun z => (by cases z)⟩, fun z => absurd z (by decide)⟩⟩
    | bool b => exact ⟨by rfl, ⟨fun _ => ⟨fun _ => rt0 q (Nat.le_refl _), fun z => (by cases z)⟩, fun z => absurd z (by decide)⟩⟩
    | none => exact ⟨by rfl, ⟨fun _ => ⟨fun _ => rt0 q (Nat.le_refl _), fun z => (by cases z)⟩, fun z => absurd z (by decide)⟩⟩
    | str b => exact ⟨by rfl, ⟨fun _ => ⟨fun _ => rt0 q (Nat.le_refl _), fun z => (by cases z)⟩, fun z => absurd z (by decide)⟩⟩
    | list b => exact ⟨by rfl, ⟨fun _ => ⟨fun _ => rt0 q (Nat.le_refl _), fun z => (by cases z)⟩, fun z => absurd z (by decide)⟩⟩
-- rows_by: 0 kinds, 1 found, 2 many, 3 longer, 4 row, 5 kind
abbrev s_rows_by : Stmt := topS 14
theorem sc_rows_by : FnScope ["kinds", "found", "many", "longer", "row", "kind"] ["kinds"] (defScope s_rows_by) := ⟨rfl, rfl, rfl, by decide +kernel, rfl, by decide +kernel, by decide +kernel⟩
def sp_rows_by : ASp := fun as L R _ => ∃ ka ks, as = [ka] ∧ sdOf ka = some (nts ks) ∧ ks.length ≤ 6 ∧ (∀ k ∈ ks, 2 ≤ k ∧ k ≤ 3) ∧ R (.d (.list (rws (rowsR ks)))) L
theorem ok_rows_by (d : Df K mg "rows_by" ["kinds"] s_rows_by) (m_range : mg "range" = none)        : Cl P w K mg base 1 "rows_by" ["kinds"] sp_rows_by := by
  refine d.clB sc_rows_by (fun as L R Ex h => ?_) (fun f cdv A outer s H E hr => ?_)
  · obtain ⟨ka, ks, rfl, _⟩ := h; rfl
  · have nd := sc_rows_by.nd
    refine ⟨_,
  (ss_cons (s_set (i := 1) nd rfl (by first | exact .inl rfl | exact .inr rfl) (g_lstO (ga_cons (g_tup ga_nil) ga_nil)))
    (ss_cons (s_for (vs := [2]) PassesOwn.never rfl (i_seq (g_pv 0)) (p_name (i := 2) nd rfl (by first | exact .inl rfl | exact .inr rfl))
     (ss_cons (s_set (i := 3) nd rfl (by first | exact .inl rfl | exact .inr rfl) (g_lstO ga_nil))
     (ss_cons (s_for (vs := [4]) PassesOwn.never rfl (i_list (g_pv 1)) (p_name (i := 4) nd rfl (by first | exact .inl rfl | exact .inr rfl))
      (ss_one (s_expr (g_ext (g_pv 3) (ga_cons (g_lc rfl nd (i_range1 (by rfl) m_range (ga_cons (g_pv 2) ga_nil)) (blk_by (own := [("kind", 5)]) (by rfl)) (fun _ _ _ _ _ => (p_name (i := 5) nd rfl (by first | exact .inl rfl | exact .inr rfl))) (fun _ _ _ _ _ => ts_nil) (fun _ _ _ _ _ => (g_op o_catT (g_pv 4) (g_tup (ga_cons (g_pv 5) ga_nil))))) ga_nil)))))
     (ss_one (s_set (i := 1) nd rfl (by first | exact .inl rfl | exact .inr rfl) (g_pv 3))))))
    (ss_one (s_ret (g_pv 1))))), fun as L R Ex h hb => ?_⟩
    obtain ⟨ka, ks, rfl, hk, hl, hm, q⟩ := h
    refine ⟨ll rfl, ll rfl, onO_of hk ?_⟩
    refine ⟨fun i s L' => ∃ P x2 x3 x4, Pre L P ∧ s = [some ka, some (.own P.length), x2, x3, x4, none] ∧ L' = P ++ [.lst ((rws ((ks.take i).foldl rowsS [[]])).map .d)], ⟨L, none, none, none, Pre.refl, rfl, rfl⟩, ?_⟩
    rintro i s L' ⟨P, x2, x3, x4, hP, rfl, rfl⟩ hi
    have hPl := hP.len
    refine ⟨trivial, by simp; omega, fun a ea => ?_, fun e => ?_⟩
    · obtain ⟨k, ek, rfl⟩ := nts_get ea
      have hkb := hm k (List.mem_of_getElem? ek)
      have rowsF_mem : ∀ {j : Nat} {r : List Int}, ((ks.take i).foldl rowsS [[]])[j]? = some r → r.length = (ks.take i).length := fun {j r} h => by
        rw [rowsR_fold] at h
        exact (rowsR_mem.mp (List.mem_of_getElem? h)).len
      generalize hrs : (ks.take i).foldl rowsS [[]] = rs at rowsF_mem ⊢
      have hS : rowsS rs k = (ks.take (i + 1)).foldl rowsS [[]] := by
        rw [List.take_add_one, ek, Option.toList_some, List.foldl_append, hrs]; rfl
      have hSl : (rowsS rs k).length ≤ 729 := by
        rw [hS]
        refine Nat.le_trans (rowsF_le _ _ fun x hx => (hm x (List.mem_of_mem_take hx)).2) ?_
        have h1 : (ks.take (i + 1)).length ≤ 6 := by rw [List.length_take]; omega
        have := Nat.pow_le_pow_right (show 0 < 3 by decide) h1
        simpa using this
      have part : ∀ j, (rowsS (rs.take j) k).length ≤ 729 := fun j => by
        refine Nat.le_trans ?_ hSl
        rw [rowsS_len, rowsS_len]
        exact Nat.mul_le_mul_right _ (by rw [List.length_take]; omega)
      have fnd : ∀ X : AO, ((P ++ [.lst ((rws rs).map .d)]) ++ [X])[P.length]? = some (.lst ((rws rs).map .d)) := fun X => by
        rw [List.getElem?_append_left (by simp)]; exact last_at
      refine ⟨ll rfl, onO_of (ls_own (fnd _)) ?_⟩
      refine ⟨fun j s L' => ∃ x4, s = [some ka, some (.own P.length), some (.d (.int k)), some (.own (P ++ [AO.lst ((rws rs).map .d)]).length), x4, none] ∧ L' = (P ++ [.lst ((rws rs).map .d)]) ++ [.lst ((rws (rowsS (rs.take j) k)).map .d)], ⟨x4, rfl, rfl⟩, ?_⟩
      rintro j s L' ⟨x4, rfl, rfl⟩ hj
      refine ⟨ls_own (fnd _), by simp, fun a eb => ?_, fun e => ?_⟩
      · obtain ⟨r, er, rfl⟩ := rws_get eb
        have hkn : k.toNat ≤ 3 := by omega
        refine onO_of (cel_own last_at) ⟨⟨by omega, by omega⟩, ?_⟩
        refine ⟨lcMap (rgI k.toNat) (fun x => .d (.int x)) (fun x => .tuple (nts (r ++ [x]))) (by simp [rngA, rgI]) trivial (Nat.le_refl _) (by rw [rgI_len]; exact le_line (by omega)) (fun i x hi Q hQ => ?_) ?_⟩
        · refine ⟨ll rfl, ?_, by simp, ?_⟩
          · have hr := rowsF_mem er
            show (nts r).length + 1 ≤ _
            rw [nts_len, hr]
            exact le_line (by rw [List.length_take]; omega)
          · have e : nts r ++ [D.int x] = nts (r ++ [x]) := by simp [nts]
            rw [e]; exact hQ
        · refine onO_of (cel_own last_at) ⟨?_, ?_⟩
          · have h1 := part j
            rw [List.length_map, rws_len, List.length_map, List.length_map, rgI_len]
            exact le_line (by omega)
          · refine ⟨_, _, Wk.refl, by simp, _, rfl, ?_⟩
            rw [last_set]
            have h2 : rowsS (rs.take (j + 1)) k = rowsS (rs.take j) k ++ (rgI k.toNat).map fun x => r ++ [x] := by
              rw [List.take_add_one, er]
              simp [rowsS]
            rw [h2]
            simp [rws, List.map_map, Function.comp_def]
      · refine ⟨_, _, Wk.refl, by simp; omega, P ++ [.lst ((rws rs).map .d)], _, _, _, hP.snoc, rfl, ?_⟩
        have e' : j = rs.length := by rw [e]; simp [rws]
        subst e'
        rw [List.take_length, hS]
    · have e' : i = ks.length := by rw [e]; simp [nts]
      subst e'
      rw [List.take_length, rowsR_fold]
      exact ⟨_, _, hP.frz hb, Nat.le_refl _, q⟩
-- rows_of: 0 frame, 1 group, 2 mark
abbrev s_rows_of : Stmt := topS 15
theorem sc_rows_of : FnScope ["frame", "group", "mark"] ["frame", "group"] (defScope s_rows_of) := ⟨rfl, rfl, rfl, by decide +kernel, rfl, by decide +kernel, by decide +kernel⟩
def sp_rows_of : ASp := fun as L R _ => ∃ fa ga fr g, as = [fa, ga] ∧ tdOf fa = some (nts fr) ∧ tdOf ga = some (nts g) ∧ (∀ m ∈ g, 0 ≤ m ∧ m < fr.length) ∧ (∀ k ∈ fr, 2 ≤ k ∧ k ≤ 3) ∧ g.length ≤ 6 ∧ R (.d (.list (rws (rowsR (kindsR fr g))))) L
theorem ok_rows_of (d : Df K mg "rows_of" ["frame", "group"] s_rows_of)         (C_rows_by : Cl P w K mg base 1 "rows_by" ["kinds"] sp_rows_by) : Cl P w K mg base 2 "rows_of" ["frame", "group"] sp_rows_of := by
  refine d.clB sc_rows_of (fun as L R Ex h => ?_) (fun f cdv A outer s H E hr => ?_)
  · obtain ⟨fa, ga, fr, g, rfl, _⟩ := h; rfl
  · have nd := sc_rows_of.nd
    refine ⟨_,
  (ss_one (s_ret (g_clA C_rows_by hr (by rfl) (ga_cons (g_lc rfl nd (i_tup (g_pv 1)) (blk_by (own := [("mark", 2)]) (by rfl)) (fun _ _ _ _ _ => (p_name (i := 2) nd rfl (by first | exact .inl rfl | exact .inr rfl))) (fun _ _ _ _ _ => ts_nil) (fun _ _ _ _ _ => (g_ix (g_pv 0) (g_pv 2)))) ga_nil)))), fun as L R Ex h hb => ?_⟩
    obtain ⟨fa, ga, fr, g, rfl, hf, hg, hm, hk, hl, q⟩ := h
    refine onO_of (tp_of_td hg) ?_
    refine ⟨lcMap g (fun m => .d (.int m)) (fun m => .int (fr.getD m.toNat 0)) (nts_it g) trivial (Nat.le_refl _) (le_line (by omega)) (fun i m hi Q hQ => ?_) ?_⟩
    · have := hm m (List.mem_of_getElem? hi)
      exact ⟨_, item_int' (sq_of_td hf) this.1 this.2, hQ⟩
    · have e : (g.map fun m => D.int (fr.getD m.toNat 0)) = nts (kindsR fr g) := by simp [nts, kindsR, List.map_map]
      rw [e]
      exact ⟨_, kindsR fr g, rfl, rfl, by rw [kindsR_len]; exact hl, kindsR_bd hk hm, rt0 q (Nat.le_refl _)⟩
-- all_rows: 0 frame
abbrev s_all_rows : Stmt := topS 16
theorem sc_all_rows : FnScope ["frame"] ["frame"] (defScope s_all_rows) := ⟨rfl, rfl, rfl, by decide +kernel, rfl, by decide +kernel, by decide +kernel⟩
def sp_all_rows : ASp := fun as L R _ => ∃ fa fr, as = [fa] ∧ tdOf fa = some (nts fr) ∧ (∀ k ∈ fr, 2 ≤ k ∧ k ≤ 3) ∧ fr.length ≤ 6 ∧ R (.d (.list (rws (rowsR fr)))) L
theorem ok_all_rows (d : Df K mg "all_rows" ["frame"] s_all_rows)         (C_rows_by : Cl P w K mg base 1 "rows_by" ["kinds"] sp_rows_by) : Cl P w K mg base 2 "all_rows" ["frame"] sp_all_rows := by
  refine d.clB sc_all_rows (fun as L R Ex h => ?_) (fun f cdv A outer s H E hr => ?_)
  · obtain ⟨fa, fr, rfl, _⟩ := h; rfl
  · have nd := sc_all_rows.nd
    refine ⟨_,
  (ss_one (s_ret (g_clA C_rows_by hr (by rfl) (ga_cons (g_pv 0) ga_nil)))), fun as L R Ex h hb => ?_⟩
    obtain ⟨fa, fr, rfl, hf, hk, hl, q⟩ := h
    obtain ⟨x, rfl, hs⟩ := td_d hf
    exact ⟨_, fr, rfl, hs, hl, hk, rt0 q (Nat.le_refl _)⟩
-- seen: 0 group, 1 row, 2 part, 3 mark
abbrev s_seen : Stmt := topS 17
theorem sc_seen : FnScope ["group", "row", "part", "mark"] ["group", "row", "part"] (defScope s_seen) := ⟨rfl, rfl, rfl, by decide +kernel, rfl, by decide +kernel, by decide +kernel⟩
def sp_seen : ASp := fun as L R _ => ∃ g r p ra pa, as = [.d (.grp (nts g)), ra, pa] ∧ tdOf ra = some (nts r) ∧ tdOf pa = some (nts p) ∧ g.length = r.length ∧ (∀ m ∈ p, m ∈ g) ∧ p.length ≤ 1000 ∧ R (.d (.tuple (nts (seenF g r p)))) L
theorem ok_seen (d : Df K mg "seen" ["group", "row", "part"] s_seen) (m_tuple : mg "tuple" = none)        : Cl P w K mg base 1 "seen" ["group", "row", "part"] sp_seen := by
  refine d.clB sc_seen (fun as L R Ex h => ?_) (fun f cdv A outer s H E hr => ?_)
  · obtain ⟨g, r, p, ra, pa, rfl, _⟩ := h; rfl
  · have nd := sc_seen.nd
    refine ⟨_,
  (ss_one (s_ret (g_callTy k_tupW (by rfl) m_tuple (by decide +kernel) (ga_cons (g_lc rfl nd (i_tup (g_pv 2)) (blk_by (own := [("mark", 3)]) (by rfl)) (fun _ _ _ _ _ => (p_name (i := 3) nd rfl (by first | exact .inl rfl | exact .inr rfl))) (fun _ _ _ _ _ => ts_nil) (fun _ _ _ _ _ => (g_ix (g_pv 1) (g_idx (g_pv 0) (ga_cons (g_pv 3) ga_nil))))) ga_nil)))), fun as L R Ex h hb => ?_⟩
    obtain ⟨g, r, p, ra, pa, rfl, hr1, hp, hl, hm, hz, q⟩ := h
    refine onO_of (tp_of_td hp) ?_
    refine ⟨lcMap p (fun m => .d (.int m)) (fun m => .int (r.getD (g.idxOf m) 0)) (nts_it p) trivial (Nat.le_refl _) (Nat.le_trans hz (by decide)) (fun i m hi Q hQ => ?_) ?_⟩
    · obtain ⟨h1, h2⟩ := idx_at (hm m (List.mem_of_getElem? hi))
      refine ⟨g, rfl, g.idxOf m, h1, h2, _, item_int (sq_of_td hr1) ?_, hQ⟩
      have hlt := (List.getElem?_eq_some_iff.mp h1).1
      rw [List.getD_eq_getElem?_getD, List.getElem?_eq_getElem (by omega)]
      rfl
    · refine ⟨_, rfl, ?_⟩
      refine rt0 ?_ (Nat.le_refl _)
      have e : p.map (fun m => D.int (r.getD (g.idxOf m) 0)) = nts (seenF g r p) := by simp [nts, seenF, List.map_map]
      rw [e]
      exact q
-- as_tuple: 0 thing
abbrev s_as_tuple : Stmt := topS 22
theorem sc_as_tuple : FnScope ["thing"] ["thing"] (defScope s_as_tuple) := ⟨rfl, rfl, rfl, by decide +kernel, rfl, by decide +kernel, by decide +kernel⟩
def sp_as_tuple : ASp := fun as L R _ => ∃ a ds, as = [a] ∧ (plOf L a = some (ds.map .d) ∨ a = .d (.grp ds)) ∧ R (.d (.grp ds)) L
theorem ok_as_tuple (d : Df K mg "as_tuple" ["thing"] s_as_tuple) (m_isinstance : mg "isinstance" = none) (m_list : mg "list" = none) (m_tuple : mg "tuple" = none)        : Cl P w K mg base 1 "as_tuple" ["thing"] sp_as_tuple := by
  refine d.clB sc_as_tuple (fun as L R Ex h => ?_) (fun f cdv A outer s H E hr => ?_)
  · obtain ⟨a, ds, rfl, _⟩ := h; rfl
  · have nd := sc_as_tuple.nd
    refine ⟨_,
  (ss_cons (s_if (t_val (g_callB k_isi (by rfl) m_isinstance (by decide +kernel) (ga_cons (g_pv 0) (ga_cons (g_ty (n := "list") (by rfl) m_list (by decide +kernel)) ga_nil))))
     (ss_one (s_ret (g_callTy k_tupG (by rfl) m_tuple (by decide +kernel) (ga_cons (g_pv 0) ga_nil))))
     ss_nil)
    (ss_one (s_ret (g_pv 0)))), fun as L R Ex h hb => ?_⟩
    obtain ⟨a, ds, rfl, ha, q⟩ := h
    rcases ha with ha | rfl
    · exact onO_of (pl_ty ha) ⟨by rfl, ⟨fun _ => ⟨ds, .inl ha, rt0 q (Nat.le_refl _)⟩, fun z => absurd z (by decide)⟩⟩
    · exact ⟨by rfl, ⟨fun z => absurd z (by decide), fun _ => rt0 q (Nat.le_refl _)⟩⟩
-- parts_of: 0 thing
abbrev s_parts_of : Stmt := topS 23
theorem sc_parts_of : FnScope ["thing"] ["thing"] (defScope s_parts_of) := ⟨rfl, rfl, rfl, by decide +kernel, rfl, by decide +kernel, by decide +kernel⟩
def sp_parts_of : ASp := fun as L R _ => ∃ a p q d1 d2, as = [a] ∧ tpOf a = some [p, q] ∧ (plOf L p = some (d1.map .d) ∨ p = .d (.grp d1)) ∧ (plOf L q = some (d2.map .d) ∨ q = .d (.grp d2)) ∧ R (.d (.tuple [.grp d1, .grp d2])) L
theorem tp_sq {L : Lo} {a : GL.A} {as : List GL.A} (h : tpOf a = some as) : sqOf L a = some as ∧ tyA L a = some "tuple" := by
  unfold tpOf at h
  split at h
  · cases h; exact ⟨rfl, rfl⟩
  · cases h; exact ⟨rfl, rfl⟩
  · cases h; exact ⟨rfl, rfl⟩
  · cases h
theorem ok_parts_of (d : Df K mg "parts_of" ["thing"] s_parts_of) (m_isinstance : mg "isinstance" = none) (m_len : mg "len" = none) (m_tuple : mg "tuple" = none)        (C_as_tuple : Cl P w K mg base 1 "as_tuple" ["thing"] sp_as_tuple) : Cl P w K mg base 2 "parts_of" ["thing"] sp_parts_of := by
  refine d.clB sc_parts_of (fun as L R Ex h => ?_) (fun f cdv A outer s H E hr => ?_)
  · obtain ⟨a, p, q, d1, d2, rfl, _⟩ := h; rfl
  · have nd := sc_parts_of.nd
    refine ⟨_,
  (ss_cons (s_if (w_t (w_or (t_not (t_val (g_callB k_isi (by rfl) m_isinstance (by decide +kernel) (ga_cons (g_pv 0) (ga_cons (g_ty (n := "tuple") (by rfl) m_tuple (by decide +kernel)) ga_nil))))) (w_or1 (t_cmp c_neI (g_callB k_len (by rfl) m_len PySem.boot_len (ga_cons (g_pv 0) ga_nil)) g_int (nomark _)))))
     (ss_one (s_ret (g_tup (ga_cons g_non (ga_cons g_non ga_nil)))))
     ss_nil)
    (ss_one (s_ret (g_tup (ga_cons (g_clA C_as_tuple hr (by rfl) (ga_cons (g_ix (g_pv 0) g_int) ga_nil)) (ga_cons (g_clA C_as_tuple hr (by rfl) (ga_cons (g_ix (g_pv 0) g_int) ga_nil)) ga_nil)))))), fun as L R Ex h hb => ?_⟩
    obtain ⟨a, p, q, d1, d2, rfl, ha, hp, hq, k⟩ := h
    obtain ⟨h1, h2⟩ := tp_sq (L := L) ha
    refine onO_of h2 ⟨by rfl, ⟨fun z => absurd z (by decide), fun _ => ?_⟩⟩
    refine onO_of h1 ⟨fun z => (by simp at z), fun _ => ?_⟩
    refine ⟨p, item_a (j := 0) h1 rfl, p, d1, rfl, hp, ?_⟩
    refine ⟨q, item_a (j := 1) h1 rfl, q, d2, rfl, hq, ?_⟩
    exact ⟨ll rfl, rt0 k (Nat.le_refl _)⟩
-- many_rows: 0 frame, 1 tables, 2 groups, 3 group, 4 counts
abbrev s_many_rows : Stmt := topS 24
theorem sc_many_rows : FnScope ["frame", "tables", "groups", "group", "counts"] ["frame", "tables"] (defScope s_many_rows) := ⟨rfl, rfl, rfl, by decide +kernel, rfl, by decide +kernel, by decide +kernel⟩
def sp_many_rows : ASp := fun as L R _ => ∃ (fr : List Int) (ts : List Tab), as = [.d (.grp (nts fr)), .d (.list (ts.map tbl))] ∧ FrOk fr ∧ (∀ t ∈ ts, GrOk fr.length t.1) ∧ ts.length ≤ 8 ∧ R (.d (.int (((ts.map fun t => volR fr t.1).sum : Nat) : Int))) L
theorem ok_many_rows (d : Df K mg "many_rows" ["frame", "tables"] s_many_rows) (m_len : mg "len" = none) (m_sum : mg "sum" = none)        (C_is_group : Cl P w K mg base 2 "is_group" ["frame", "thing"] sp_is_group) (C_rows_of : Cl P w K mg base 2 "rows_of" ["frame", "group"] sp_rows_of) : Cl P w K mg base 3 "many_rows" ["frame", "tables"] sp_many_rows := by
  refine d.clB sc_many_rows (fun as L R Ex h => ?_) (fun f cdv A outer s H E hr => ?_)
  · obtain ⟨fr, ts, rfl, _⟩ := h; rfl
  · have nd := sc_many_rows.nd
    refine ⟨_,
  (ss_cons (s_setLc (i := 2) rfl nd rfl rfl (sw_true rfl rfl rfl (by decide +kernel)) (i_list (g_pv 1)) (blk_by (own := [("group", 3), ("counts", 4)]) (by rfl)) (fun _ _ _ _ _ => (p_tup (n := 2) rfl (ps_cons (p_name (i := 3) nd rfl (by first | exact .inl rfl | exact .inr rfl)) (ps_cons (p_name (i := 4) nd rfl (by first | exact .inl rfl | exact .inr rfl)) ps_nil)))) (fun _ _ _ _ _ => (ts_one (t_val (g_clA C_is_group hr (by rfl) (ga_cons (g_pv 0) (ga_cons (g_pv 3) ga_nil)))))) (fun _ _ _ _ _ => (g_pv 3)))
    (ss_one (s_ret (g_callB (k_sumS rfl) (by rfl) m_sum (by decide +kernel) (ga_cons (g_lc rfl nd (i_list (g_pv 2)) (blk_by (own := [("group", 3)]) (by rfl)) (fun _ _ _ _ _ => (p_name (i := 3) nd rfl (by first | exact .inl rfl | exact .inr rfl))) (fun _ _ _ _ _ => ts_nil) (fun _ _ _ _ _ => (g_callB k_len (by rfl) m_len PySem.boot_len (ga_cons (g_clA C_rows_of hr (by rfl) (ga_cons (g_pv 0) (ga_cons (g_pv 3) ga_nil))) ga_nil)))) ga_nil))))), fun as L R Ex h hb => ?_⟩
    obtain ⟨fr, ts, rfl, ok, hg, h8, q⟩ := h
    refine ⟨lcFilt ts (fun t => .d (tbl t)) (fun t => true) (fun t => .grp (nts t.1)) (tbl_it ts) rfl (Nat.le_refl _) (le_line (by omega)) (fun i t hi Qy Qn hy hn => ?_) ?_⟩
    · refine ⟨rfl, rfl, ?_⟩
      refine ⟨_, fr, .grp (nts t.1), rfl, rfl, ?_⟩
      rw [grB_ok (hg t (List.mem_of_getElem? hi))]
      exact ⟨fun _ => hy rfl, fun z => (by cases z)⟩
    have e1 : ts.filter (fun t => true) = ts := List.filter_eq_self.mpr fun _ _ => rfl
    rw [e1]
    refine ⟨lcMap ts (fun t => .d (.grp (nts t.1))) (fun t => .int (volR fr t.1)) (by simp [List.map_map, Function.comp_def]) rfl (Nat.le_refl _) (le_line (by omega)) (fun i t hi Q hQ => ?_) ?_⟩
    · have hgt := hg t (List.mem_of_getElem? hi)
      have := hgt.len
      refine ⟨_, _, fr, t.1, rfl, rfl, rfl, hgt.mem, ok.kinds, by have := ok.six; omega, ?_⟩
      have e : ((rws (rowsR (kindsR fr t.1))).map GL.A.d).length = volR fr t.1 := by simp [rws, volR]
      show Q (.d (.int (((rws (rowsR (kindsR fr t.1))).map GL.A.d).length : Nat))) _
      rw [e]; exact hQ
    have e2 : (ts.map fun t => D.int (volR fr t.1)) = nts (ts.map fun t => (volR fr t.1 : Int)) := by simp [nts, List.map_map]
    rw [e2]
    refine ⟨_, rfl, ?_⟩
    have e3 : (ts.map fun t => (volR fr t.1 : Int)).sum = ((ts.map fun t => volR fr t.1).sum : Nat) := by
      clear h8 hg q e1 e2
      induction ts with
      | nil => rfl
      | cons t ts ih => simp only [List.map_cons, List.sum_cons, ih, Int.natCast_add]
    rw [e3]
    exact rt0 q (Nat.le_refl _)
-- is_counted: 0 frame, 1 group, 2 counts, 3 count
abbrev s_is_counted : Stmt := topS 25
theorem sc_is_counted : FnScope ["frame", "group", "counts", "count"] ["frame", "group", "counts"] (defScope s_is_counted) := ⟨rfl, rfl, rfl, by decide +kernel, rfl, by decide +kernel, by decide +kernel⟩
def sp_is_counted : ASp := fun as L R _ => ∃ fr g cs, as = [.d (.grp (nts fr)), .d (.grp (nts g)), .d (.grp (nts cs))] ∧ FrOk fr ∧ GrOk fr.length g ∧ cs.length = volR fr g ∧ (∀ c ∈ cs, 0 ≤ c) ∧ 1 ≤ cs.sum ∧ cs.sum ≤ 1000000000 ∧ R (.d (.bool true)) L
theorem ok_is_counted (d : Df K mg "is_counted" ["frame", "group", "counts"] s_is_counted) (m_isinstance : mg "isinstance" = none) (m_len : mg "len" = none) (m_sum : mg "sum" = none) (m_tuple : mg "tuple" = none)       {t_MOST_WHOLE : Tok} (c_MOST_WHOLE : mg "MOST_WHOLE" = some (.int (1000000000) t_MOST_WHOLE)) (C_rows_of : Cl P w K mg base 2 "rows_of" ["frame", "group"] sp_rows_of) (C_is_whole : Cl P w K mg base 1 "is_whole" ["thing"] sp_is_whole) : Cl P w K mg base 3 "is_counted" ["frame", "group", "counts"] sp_is_counted := by
  refine d.clB sc_is_counted (fun as L R Ex h => ?_) (fun f cdv A outer s H E hr => ?_)
  · obtain ⟨fr, g, cs, rfl, _⟩ := h; rfl
  · have nd := sc_is_counted.nd
    refine ⟨_,
  (ss_cons (s_if (w_t (w_or (t_not (t_val (g_callB k_isi (by rfl) m_isinstance (by decide +kernel) (ga_cons (g_pv 2) (ga_cons (g_ty (n := "tuple") (by rfl) m_tuple (by decide +kernel)) ga_nil))))) (w_or1 (t_cmp c_neI (g_callB k_len (by rfl) m_len PySem.boot_len (ga_cons (g_pv 2) ga_nil)) (g_callB k_len (by rfl) m_len PySem.boot_len (ga_cons (g_clA C_rows_of hr (by rfl) (ga_cons (g_pv 0) (ga_cons (g_pv 1) ga_nil))) ga_nil)) (nomark _)))))
     (ss_one (s_ret g_bl))
     ss_nil)
    (ss_cons (s_for (vs := [3]) PassesOwn.never rfl (i_tup (g_pv 2)) (p_name (i := 3) nd rfl (by first | exact .inl rfl | exact .inr rfl))
     (ss_one (s_if (w_t (w_or (t_not (t_val (g_clA C_is_whole hr (by rfl) (ga_cons (g_pv 3) ga_nil)))) (w_or1 (t_cmp c_lt (g_pv 3) g_int (nomark _)))))
      (ss_one (s_ret g_bl))
      ss_nil)))
    (ss_one (s_ret (g_chain c_le c_le g_int (g_callB (k_sumS rfl) (by rfl) m_sum (by decide +kernel) (ga_cons (g_pv 2) ga_nil)) (g_globI (by rfl) c_MOST_WHOLE)))))), fun as L R Ex h hb => ?_⟩
    obtain ⟨fr, g, cs, rfl, ok, hg, hl, hn, h1, h9, q⟩ := h
    refine ⟨by rfl, ⟨fun z => absurd z (by decide), fun _ => ?_⟩⟩
    have hgl := hg.len
    refine ⟨_, _, fr, g, rfl, rfl, rfl, hg.mem, ok.kinds, by have := ok.six; omega, ?_⟩
    refine ⟨fun z => ?_, fun _ => ?_⟩
    · exfalso
      have e : ((rws (rowsR (kindsR fr g))).map GL.A.d).length = cs.length := by simp [rws, hl, volR]
      have e2 : ((nts cs).map GL.A.d).length = cs.length := by simp
      simp only [e, e2] at z
      simp at z
    refine ⟨fun i s L' => ∃ x3, s = [some (.d (.grp (nts fr))), some (.d (.grp (nts g))), some (.d (.grp (nts cs))), x3] ∧ L' = L, ⟨_, rfl, rfl⟩, ?_⟩
    rintro i s L' ⟨x3, rfl, rfl⟩ hi
    refine ⟨trivial, Nat.le_refl _, fun a ea => ?_, fun e => ?_⟩
    · obtain ⟨c, ec, rfl⟩ := nts_get ea
      have hc := hn c (List.mem_of_getElem? ec)
      refine ⟨_, rfl, ⟨fun z => (by cases z), fun _ => ⟨fun z => ?_, fun _ => ?_⟩⟩⟩
      · have := of_decide_eq_true z; omega
      · exact ⟨_, _, Wk.refl, Nat.le_refl _, _, rfl, rfl⟩
    · refine ⟨cs, rfl, ?_⟩
      have e1 : decide ((1 : Int) ≤ cs.sum) = true := decide_eq_true h1
      refine ⟨fun _ => ?_, fun z => (by rw [e1] at z; cases z)⟩
      have e9 : decide (cs.sum ≤ (1000000000 : Int)) = true := decide_eq_true h9
      rw [← e9] at q
      exact rt0 q (Nat.le_refl _)
-- is_each_marked: 0 frame, 1 tables, 2 marks, 3 group, 4 counts, 5 mark
abbrev s_is_each_marked : Stmt := topS 26
theorem sc_is_each_marked : FnScope ["frame", "tables", "marks", "group", "counts", "mark"] ["frame", "tables"] (defScope s_is_each_marked) := ⟨rfl, rfl, rfl, by decide +kernel, rfl, by decide +kernel, by decide +kernel⟩
def sp_is_each_marked : ASp := fun as L R _ => ∃ (fr : List Int) (ts : List Tab), as = [.d (.grp (nts fr)), .d (.list (ts.map tbl))] ∧ FrOk fr ∧ (∀ t ∈ ts, GrOk fr.length t.1) ∧ ts.length ≤ 8 ∧ (∀ m : Int, 0 ≤ m → m < fr.length → ∃ t ∈ ts, m ∈ t.1) ∧ R (.d (.bool true)) L
theorem ok_is_each_marked (d : Df K mg "is_each_marked" ["frame", "tables"] s_is_each_marked) (m_len : mg "len" = none) (m_range : mg "range" = none)        : Cl P w K mg base 1 "is_each_marked" ["frame", "tables"] sp_is_each_marked := by
  refine d.clB sc_is_each_marked (fun as L R Ex h => ?_) (fun f cdv A outer s H E hr => ?_)
  · obtain ⟨fr, ts, rfl, _⟩ := h; rfl
  · have nd := sc_is_each_marked.nd
    refine ⟨_,
  (ss_cons (s_set (i := 2) nd rfl (by first | exact .inl rfl | exact .inr rfl) (g_lstO ga_nil))
    (ss_cons (s_for (vs := [3, 4]) PassesOwn.never rfl (i_list (g_pv 1)) (p_tup (n := 2) rfl (ps_cons (p_name (i := 3) nd rfl (by first | exact .inl rfl | exact .inr rfl)) (ps_cons (p_name (i := 4) nd rfl (by first | exact .inl rfl | exact .inr rfl)) ps_nil)))
     (ss_one (s_expr (g_extT (g_pv 2) (ga_cons (g_pv 3) ga_nil)))))
    (ss_one (s_ret (g_cmp c_eqI (g_callB k_len (by rfl) m_len PySem.boot_len (ga_cons (g_lc rfl nd (i_range1 (by rfl) m_range (ga_cons (g_callB k_len (by rfl) m_len PySem.boot_len (ga_cons (g_pv 0) ga_nil)) ga_nil)) (blk_by (own := [("mark", 5)]) (by rfl)) (fun _ _ _ _ _ => (p_name (i := 5) nd rfl (by first | exact .inl rfl | exact .inr rfl))) (fun _ _ _ _ _ => (ts_one (t_cmp c_notInS (g_pv 5) (g_pv 2) (by rfl)))) (fun _ _ _ _ _ => (g_pv 5))) ga_nil)) g_int (nomark _)))))), fun as L R Ex h hb => ?_⟩
    obtain ⟨fr, ts, rfl, ok, hg, h8, hall, q⟩ := h
    refine ⟨ll rfl, ?_⟩
    refine ⟨fun i s L' => ∃ x3 x4, s = [some (.d (.grp (nts fr))), some (.d (.list (ts.map tbl))), some (.own L.length), x3, x4, none] ∧ L' = L ++ [.lst ((nts ((ts.take i).flatMap (·.1))).map .d)], ⟨_, _, rfl, rfl⟩, ?_⟩
    rintro i s L' ⟨x3, x4, rfl, rfl⟩ hi
    refine ⟨rfl, by simp, fun a ea => ?_, fun e => ?_⟩
    · obtain ⟨t, et, rfl⟩ := tbl_get ea
      have hgt := (hg t (List.mem_of_getElem? et)).len
      have h6 := ok.six
      refine ⟨rfl, rfl, ?_⟩
      refine onO_of (cel_own last_at) ?_
      refine onO_of (cel_own last_at) ⟨?_, ?_⟩
      · have : ∀ l : List Tab, (∀ t ∈ l, t.1.length ≤ 6) → (l.flatMap (·.1)).length ≤ 6 * l.length := fun l => by
          induction l with
          | nil => simp
          | cons t l ih =>
            intro h
            have h1 := ih fun x hx => h x (List.mem_cons_of_mem _ hx)
            have h2 := h t List.mem_cons_self
            rw [List.flatMap_cons, List.length_append, List.length_cons]; omega
        have h1 := this (ts.take i) fun x hx => Nat.le_trans (hg x (List.mem_of_mem_take hx)).len h6
        rw [List.length_map, nts_len, nts_len]
        rw [List.length_take] at h1
        exact le_line (by omega)
      · refine ⟨_, _, Wk.refl, by simp, some (.d (.grp (nts t.1))), some (.d (.grp (nts t.2))), rfl, ?_⟩
        rw [last_set, List.take_add_one, et]
        simp [nts]
    have e' : i = ts.length := by rw [e]; simp
    subst e'
    rw [List.take_length]
    refine ⟨by simp [nts]; have := ok.six; omega, ?_⟩
    have el : ((nts fr).map GL.A.d).length = fr.length := by simp [nts]
    refine ⟨lcFilt (rgI fr.length) (fun m => .d (.int m)) (fun m => !decide (m ∈ ts.flatMap (·.1))) (fun m => .int m) (by rw [el]; simp [rngA, rgI]) trivial (Nat.le_refl _) (by rw [rgI_len]; exact le_line (by have := ok.six; omega)) (fun i m hi Qy Qn hy hn => ?_) ?_⟩
    · refine ⟨ts.flatMap (·.1), sq_own last_at, ?_⟩
      exact ⟨fun z => hy z, fun z => hn z⟩
    have e : (rgI fr.length).filter (fun m => !decide (m ∈ ts.flatMap (·.1))) = [] := by
      rw [List.filter_eq_nil_iff]
      intro m hm
      obtain ⟨h1, h2⟩ := rgI_mem.mp hm
      obtain ⟨t, ht, hmt⟩ := hall m h1 h2
      simp only [Bool.not_eq_true', decide_eq_false_iff_not, Decidable.not_not]
      exact List.mem_flatMap.mpr ⟨t, ht, hmt⟩
    rw [e]
    exact ⟨_, _, Pre.pop (L := L) (Pre.snoc Pre.refl) hb (by rfl), Nat.le_refl _, q⟩
-- family_of: 0 frame, 1 tables, 2 kinds, 3 found, 4 thing, 5 at, 6 table, 7 group, 8 counts
abbrev s_family_of : Stmt := topS 27
theorem sc_family_of : FnScope ["frame", "tables", "kinds", "found", "thing", "at", "table", "group", "counts"] ["frame", "tables"] (defScope s_family_of) := ⟨rfl, rfl, rfl, by decide +kernel, rfl, by decide +kernel, by decide +kernel⟩
def sp_family_of : ASp := fun as L R _ => ∃ ka ha fr w, ∃ (ts : List Tab), as = [ka, ha] ∧ hand L ka fr ∧ Handed L ha ts ∧ FamOk fr w ts ∧ R (.d (famD fr ts)) L
theorem ok_family_of (d : Df K mg "family_of" ["frame", "tables"] s_family_of) (m_enumerate : mg "enumerate" = none) (m_len : mg "len" = none) (m_sum : mg "sum" = none) (m_tuple : mg "tuple" = none)       {t_MOST_ROWS_tables : Tok} (c_MOST_ROWS_tables : mg "MOST_ROWS_tables" = some (.int (60) t_MOST_ROWS_tables)) {t_MOST_TABLES : Tok} (c_MOST_TABLES : mg "MOST_TABLES" = some (.int (8) t_MOST_TABLES)) (C_frame_of : Cl P w K mg base 2 "frame_of" ["kinds"] sp_frame_of) (C_parts_of : Cl P w K mg base 2 "parts_of" ["thing"] sp_parts_of) (C_many_rows : Cl P w K mg base 3 "many_rows" ["frame", "tables"] sp_many_rows) (C_is_counted : Cl P w K mg base 3 "is_counted" ["frame", "group", "counts"] sp_is_counted) (C_is_group : Cl P w K mg base 2 "is_group" ["frame", "thing"] sp_is_group) (C_is_each_marked : Cl P w K mg base 1 "is_each_marked" ["frame", "tables"] sp_is_each_marked) : Cl P w K mg base 4 "family_of" ["frame", "tables"] sp_family_of := by
  refine d.clB sc_family_of (fun as L R Ex h => ?_) (fun f cdv A outer s H E hr => ?_)
  · obtain ⟨ka, ha, fr, w, ts, rfl, _⟩ := h; rfl
  · have nd := sc_family_of.nd
    refine ⟨_,
  (ss_cons (s_set (i := 2) nd rfl (by first | exact .inl rfl | exact .inr rfl) (g_clA C_frame_of hr (by rfl) (ga_cons (g_pv 0) ga_nil)))
    (ss_cons (s_if (t_cmp c_gt (g_callB k_len (by rfl) m_len PySem.boot_len (ga_cons (g_pv 1) ga_nil)) (g_globI (by rfl) c_MOST_TABLES) (nomark _))
     (ss_one s_never)
     ss_nil)
    (ss_cons (s_setLc (i := 3) rfl nd rfl rfl (sw_true rfl rfl rfl (by decide +kernel)) (i_sq (g_pv 1)) (blk_by (own := [("thing", 4)]) (by rfl)) (fun _ _ _ _ _ => (p_name (i := 4) nd rfl (by first | exact .inl rfl | exact .inr rfl))) (fun _ _ _ _ _ => ts_nil) (fun _ _ _ _ _ => (g_clA C_parts_of hr (by rfl) (ga_cons (g_pv 4) ga_nil))))
    (ss_cons (s_if (t_cmp c_gt (g_clA C_many_rows hr (by rfl) (ga_cons (g_pv 2) (ga_cons (g_pv 3) ga_nil))) (g_globI (by rfl) c_MOST_ROWS_tables) (nomark _))
     (ss_one s_never)
     ss_nil)
    (ss_cons (s_for (vs := [5, 6]) PassesOwn.never rfl (i_enum (by rfl) m_enumerate (ga_cons (g_pv 3) ga_nil)) (p_tup (n := 2) rfl (ps_cons (p_name (i := 5) nd rfl (by first | exact .inl rfl | exact .inr rfl)) (ps_cons (p_name (i := 6) nd rfl (by first | exact .inl rfl | exact .inr rfl)) ps_nil)))
     (ss_cons (s_asg (vs := [7, 8]) (g_pv 6) (p_tup (n := 2) rfl (ps_cons (p_name (i := 7) nd rfl (by first | exact .inl rfl | exact .inr rfl)) (ps_cons (p_name (i := 8) nd rfl (by first | exact .inl rfl | exact .inr rfl)) ps_nil))))
     (ss_cons (s_if (w_t (w_or (t_not (t_val (g_clA C_is_group hr (by rfl) (ga_cons (g_pv 2) (ga_cons (g_pv 7) ga_nil))))) (w_or1 (t_not (t_val (g_clA C_is_counted hr (by rfl) (ga_cons (g_pv 2) (ga_cons (g_pv 7) (ga_cons (g_pv 8) ga_nil)))))))))
      (ss_one s_never)
      ss_nil)
     (ss_one (s_if (t_cmp c_neI (g_callB (k_sumS rfl) (by rfl) m_sum (by decide +kernel) (ga_cons (g_pv 8) ga_nil)) (g_callB (k_sumS rfl) (by rfl) m_sum (by decide +kernel) (ga_cons (g_ix (g_ix (g_pv 3) g_int) g_int) ga_nil)) (nomark _))
      (ss_one s_never)
      ss_nil)))))
    (ss_cons (s_if (w_t (w_or (t_cmp (c_eqD hr.units) (g_pv 3) (g_lst ga_nil) (nomark _)) (w_or1 (t_not (t_val (g_clA C_is_each_marked hr (by rfl) (ga_cons (g_pv 2) (ga_cons (g_pv 3) ga_nil))))))))
     (ss_one s_never)
     ss_nil)
    (ss_one (s_ret (g_tup (ga_cons (g_pv 2) (ga_cons (g_callTy k_tupW (by rfl) m_tuple (by decide +kernel) (ga_cons (g_pv 3) ga_nil)) ga_nil))))))))))), fun as L R Ex h hb => ?_⟩
    obtain ⟨ka, ha, fr, w, ts, rfl, hk, ⟨ths, hs, hl, hth⟩, ok, q⟩ := h
    have h8 := ok.eight
    have h0 := ok.ne
    refine ⟨ka, fr, rfl, hk, ok.frame, ?_⟩
    refine onO_of hs ⟨fun z => ?_, fun _ => ?_⟩
    · have := of_decide_eq_true z; omega
    refine onO_of hs ?_
    refine ⟨fun i acc L' => acc = (ts.take i).map tbl ∧ L' = L, ⟨by simp, rfl⟩, ?_⟩
    rintro i acc L' ⟨rfl, rfl⟩ hi
    refine ⟨hs, Nat.le_refl _, fun a ea => ?_, fun e => ?_⟩
    · have hi2 : i < ts.length := by rw [← hl]; exact (List.getElem?_eq_some_iff.mp ea).1
      obtain ⟨a', p, r, ea', htp, hp, hr⟩ := hth i ts[i] (List.getElem?_eq_getElem hi2)
      rw [ea] at ea'; cases ea'
      refine ⟨fun _ => ⟨a, p, r, nts ts[i].1, nts ts[i].2, rfl, htp, hp, hr, ⟨tbl ts[i], rfl, ?_, Nat.le_refl _, ?_, rfl⟩⟩, fun z => (by cases z)⟩
      · rw [List.length_map, List.length_take]; exact Nat.lt_of_le_of_lt (show min i ts.length ≤ 10 by omega) (by decide)
      · rw [List.take_add_one, List.getElem?_eq_getElem hi2, List.map_append]; rfl
    have e' : i = ts.length := by omega
    subst e'
    rw [List.take_length]
    refine ⟨fr, ts, rfl, ok.frame, fun t ht => (ok.tabs t ht).gr, h8, ⟨fun z => ?_, fun _ => ?_⟩⟩
    · have := of_decide_eq_true z
      have := ok.room
      omega
    obtain ⟨t0, ht0⟩ : ∃ t, ts[0]? = some t := ⟨_, List.getElem?_eq_getElem h0⟩
    have w0 := (ok.tabs t0 (List.mem_of_getElem? ht0)).sum
    refine ⟨fun i s L => ∃ x5 x6 x7 x8, s = [some ka, some ha, some (.d (.grp (nts fr))), some (.d (.list (ts.map tbl))), none, x5, x6, x7, x8] ∧ L = L', ⟨_, _, _, _, rfl, rfl⟩, ?_⟩
    rintro i s L ⟨x5, x6, x7, x8, rfl, rfl⟩ hi
    refine ⟨rfl, Nat.le_refl _, fun a ea => ?_, fun e => ?_⟩
    · obtain ⟨b, eb, rfl⟩ := enA_el ea
      obtain ⟨t, et, rfl⟩ := tbl_get eb
      have ht := ok.tabs t (List.mem_of_getElem? et)
      refine ⟨rfl, rfl, rfl, rfl, ?_⟩
      refine ⟨_, fr, .grp (nts t.1), rfl, rfl, ?_⟩
      rw [grB_ok ht.gr]
      refine ⟨fun z => (by cases z), fun _ => ?_⟩
      refine ⟨fr, t.1, t.2, rfl, ok.frame, ht.gr, ht.len, ht.nn, by rw [ht.sum]; exact ok.w1, by rw [ht.sum]; exact ok.w9, ⟨fun z => (by cases z), fun _ => ?_⟩⟩
      refine ⟨t.2, rfl, .d (tbl t0), item_a (j := 0) (as := (ts.map tbl).map .d) rfl (by rw [List.getElem?_map, List.getElem?_map, ht0]; rfl), .d (.grp (nts t0.2)), rfl, t0.2, rfl, ⟨fun z => ?_, fun _ => ?_⟩⟩
      · rw [ht.sum, w0] at z
        simp at z
      · exact ⟨_, _, Wk.refl, Nat.le_refl _, _, _, _, _, rfl, rfl⟩
    have shp : Sh 3 (.list (ts.map tbl)) := Sh.list fun d hd => by
      obtain ⟨t, _, rfl⟩ := List.mem_map.mp hd
      refine Sh.tuple fun d hd => ?_
      rcases List.mem_cons.mp hd with rfl | hd
      · exact Sh.ntsG
      · simp at hd; subst hd; exact Sh.ntsG
    refine ⟨ll rfl, [], rfl, _, _, .d, .d, shp.ok, (Sh.list (k := 0) (ds := []) (by simp)).ok, ?_⟩
    have ne : PyData.eqv (D.py (.list (ts.map tbl))) (D.py (.list [])) = false := by
      cases ts with
      | nil => simp at h0
      | cons t ts => exact eqv_nil_cons
    rw [ne]
    refine ⟨fun z => (by cases z), fun _ => ?_⟩
    refine ⟨fr, ts, rfl, ok.frame, fun t ht => (ok.tabs t ht).gr, h8, ok.all, ⟨fun z => (by cases z), fun _ => ?_⟩⟩
    exact ⟨ts.map tbl, rfl, ll rfl, rt0 q (Nat.le_refl _)⟩
-- whole: 0 family
abbrev s_whole : Stmt := topS 28
theorem sc_whole : FnScope ["family"] ["family"] (defScope s_whole) := ⟨rfl, rfl, rfl, by decide +kernel, rfl, by decide +kernel, by decide +kernel⟩
def sp_whole : ASp := fun as L R _ => ∃ (fr : List Int) (ts : List Tab) (t0 : Tab), as = [.d (famD fr ts)] ∧ ts[0]? = some t0 ∧ R (.d (.int t0.2.sum)) L
theorem ok_whole (d : Df K mg "whole" ["family"] s_whole) (m_sum : mg "sum" = none)        : Cl P w K mg base 1 "whole" ["family"] sp_whole := by
  refine d.clB sc_whole (fun as L R Ex h => ?_) (fun f cdv A outer s H E hr => ?_)
  · obtain ⟨fr, ts, t0, rfl, _⟩ := h; rfl
  · have nd := sc_whole.nd
    refine ⟨_,
  (ss_one (s_ret (g_callB (k_sumS rfl) (by rfl) m_sum (by decide +kernel) (ga_cons (g_ix (g_ix (g_ix (g_pv 0) g_int) g_int) g_int) ga_nil)))), fun as L R Ex h hb => ?_⟩
    obtain ⟨fr, ts, t0, rfl, ht0, q⟩ := h
    exact ⟨.d (.tuple (ts.map tbl)), rfl, .d (tbl t0), item_a (j := 0) (as := (ts.map tbl).map .d) rfl (by rw [List.getElem?_map, List.getElem?_map, ht0]; rfl), .d (.grp (nts t0.2)), rfl, t0.2, rfl, rt0 q (Nat.le_refl _)⟩
-- places_of: 0 family, 1 frame, 2 tables, 3 where, 4 group, 5 counts, 6 there, 7 row, 8 marks, 9 found, 10 k
abbrev s_places_of : Stmt := topS 30
theorem sc_places_of : FnScope ["family", "frame", "tables", "where", "group", "counts", "there", "row", "marks", "found", "k"] ["family"] (defScope s_places_of) := ⟨rfl, rfl, rfl, by decide +kernel, rfl, by decide +kernel, by decide +kernel⟩
def sp_places_of : ASp := fun as L R _ => ∃ (fr : List Int) (ts : List Tab) (w : Int), as = [.d (famD fr ts)] ∧ FamOk fr w ts ∧ R (.d (.list (lnsD ((rowsR fr).map (plF fr ts))))) L
theorem ok_places_of (d : Df K mg "places_of" ["family"] s_places_of) (m_len : mg "len" = none) (m_range : mg "range" = none) (m_tuple : mg "tuple" = none)        (C_rows_of : Cl P w K mg base 2 "rows_of" ["frame", "group"] sp_rows_of) (C_all_rows : Cl P w K mg base 2 "all_rows" ["frame"] sp_all_rows) (C_seen : Cl P w K mg base 1 "seen" ["group", "row", "part"] sp_seen) : Cl P w K mg base 3 "places_of" ["family"] sp_places_of := by
  refine d.clB sc_places_of (fun as L R Ex h => ?_) (fun f cdv A outer s H E hr => ?_)
  · obtain ⟨fr, ts, w, rfl, _⟩ := h; rfl
  · have nd := sc_places_of.nd
    have hu := hu_of hr
    refine ⟨_,
  (ss_cons (s_asg (vs := [1, 2]) (g_pv 0) (p_tup (n := 2) rfl (ps_cons (p_name (i := 1) nd rfl (by first | exact .inl rfl | exact .inr rfl)) (ps_cons (p_name (i := 2) nd rfl (by first | exact .inl rfl | exact .inr rfl)) ps_nil))))
    (ss_cons (s_set (i := 3) nd rfl (by first | exact .inl rfl | exact .inr rfl) (g_lstO ga_nil))
    (ss_cons (s_for (vs := [4, 5]) PassesOwn.never rfl (i_tup (g_pv 2)) (p_tup (n := 2) rfl (ps_cons (p_name (i := 4) nd rfl (by first | exact .inl rfl | exact .inr rfl)) (ps_cons (p_name (i := 5) nd rfl (by first | exact .inl rfl | exact .inr rfl)) ps_nil)))
     (ss_cons (s_set (i := 6) nd rfl (by first | exact .inl rfl | exact .inr rfl) g_dnT)
     (ss_cons (s_for (vs := [7]) PassesOwn.never rfl (i_list (g_clA C_rows_of hr (by rfl) (ga_cons (g_pv 1) (ga_cons (g_pv 4) ga_nil)))) (p_name (i := 7) nd rfl (by first | exact .inl rfl | exact .inr rfl))
      (ss_one (s_dpT hu (g_pv 6) (g_pv 7) (g_callB k_lenT (by rfl) m_len PySem.boot_len (ga_cons (g_pv 6) ga_nil)) rfl)))
     (ss_one (s_expr (g_app (g_pv 3) (ga_cons (g_pv 6) ga_nil)))))))
    (ss_cons (s_set (i := 8) nd rfl (by first | exact .inl rfl | exact .inr rfl) (g_tupRgS rfl (by rfl) m_tuple (by rfl) m_range (g_callB k_len (by rfl) m_len PySem.boot_len (ga_cons (g_pv 1) ga_nil)) (fun h => prg_1 (by rfl) m_range h)))
    (ss_cons (s_set (i := 9) nd rfl (by first | exact .inl rfl | exact .inr rfl) (g_lstO ga_nil))
    (ss_cons (s_for (vs := [7]) PassesOwn.never rfl (i_list (g_clA C_all_rows hr (by rfl) (ga_cons (g_pv 1) ga_nil))) (p_name (i := 7) nd rfl (by first | exact .inl rfl | exact .inr rfl))
     (ss_one (s_expr (g_app (g_pv 9) (ga_cons (g_lc rfl nd (i_range1 (by rfl) m_range (ga_cons (g_callB k_len (by rfl) m_len PySem.boot_len (ga_cons (g_pv 2) ga_nil)) ga_nil)) (blk_by (own := [("k", 10)]) (by rfl)) (fun _ _ _ _ _ => (p_name (i := 10) nd rfl (by first | exact .inl rfl | exact .inr rfl))) (fun _ _ _ _ _ => ts_nil) (fun _ _ _ _ _ => (g_dgT hu (g_ix (g_pv 3) (g_pv 10)) (g_clA C_seen hr (by rfl) (ga_cons (g_pv 8) (ga_cons (g_pv 7) (ga_cons (g_ix (g_ix (g_pv 2) (g_pv 10)) g_int) ga_nil))))))) ga_nil)))))
    (ss_one (s_ret (g_pv 9))))))))), fun as L R Ex h hb => ?_⟩
    obtain ⟨fr, ts, w, rfl, fam, q⟩ := h
    have ok := fam.frame
    have h8 := fam.eight
    have h6 := ok.six
    have hN := all_n ok
    refine ⟨rfl, rfl, ll rfl, ?_⟩
    have cW : ∀ {as : List GL.A} {r : Lo}, (L ++ (.lst as :: r))[L.length]? = some (.lst as) := fun {as r} => pget0
    refine ⟨fun i s L' => ∃ x4 x5 x6 x7, s = [some (.d (famD fr ts)), some (.d (.grp (nts fr))), some (.d (.tuple (ts.map tbl))), some (.own L.length), x4, x5, x6, x7, none, none, none] ∧ L' = L ++ (.lst (whA (L.length + 1) i) :: (ts.take i).map (dcT fr)), ⟨none, none, none, none, rfl, rfl⟩, ?_⟩
    rintro i s L' ⟨x4, x5, x6, x7, rfl, rfl⟩ hi
    refine ⟨trivial, by simp, fun a ea => ?_, fun e => ?_⟩
    · obtain ⟨t, et, rfl⟩ := tbl_get ea
      have ht := fam.tabs t (List.mem_of_getElem? et)
      have hi2 := (List.getElem?_eq_some_iff.mp et).1
      have hgl := ht.gr.len
      have hdl := rowsR_le (kindsR_bd ok.kinds ht.gr.mem) (by rw [kindsR_len]; omega)
      have hd := rowsR_nodup (kindsR fr t.1)
      have eT : ts.take (i + 1) = ts.take i ++ [t] := by rw [List.take_add_one, et]; rfl
      refine ⟨rfl, rfl, ?_⟩
      refine ⟨_, _, fr, t.1, rfl, rfl, rfl, ht.gr.mem, ok.kinds, by omega, ?_⟩
      have eD : dcT fr t = .dT (kvF (rowsR (kindsR fr t.1)) fun r => (((rowsR (kindsR fr t.1)).idxOf r : Nat) : Int)) := rfl
      generalize rowsR (kindsR fr t.1) = ds at hdl hd eD
      generalize hL1 : L ++ (AO.lst (whA (L.length + 1) i) :: (ts.take i).map (dcT fr)) = L1
      refine ⟨fun j s L' => ∃ x7, s = [some (.d (famD fr ts)), some (.d (.grp (nts fr))), some (.d (.tuple (ts.map tbl))), some (.own L.length), some (.d (.grp (nts t.1))), some (.d (.grp (nts t.2))), some (.own L1.length), x7, none, none, none] ∧ L' = L1 ++ [.dT (kvF (ds.take j) fun r => ((ds.idxOf r : Nat) : Int))], ⟨x7, rfl, rfl⟩, ?_⟩
      rintro j s L' ⟨x7, rfl, rfl⟩ hj
      refine ⟨rfl, by simp, fun a ea => ?_, fun e => ?_⟩
      · obtain ⟨r, er, rfl⟩ := rws_get ea
        have hj2 := (List.getElem?_eq_some_iff.mp er).1
        have hT : ds.take (j + 1) = ds.take j ++ [r] := by rw [List.take_add_one, er]; rfl
        have hn : r ∉ ds.take j := fun z => by
          have := List.take_append_drop (j + 1) ds
          rw [← this, hT] at hd
          rw [List.append_assoc, List.nodup_append] at hd
          exact hd.2.2 r z r (by simp) rfl
        have hx : ds.idxOf r = j := (idx_iff hd (List.mem_of_getElem? er) er).mpr rfl
        refine ⟨_, last_at, _, r, last_at, rfl, by rw [kv_len, List.length_take]; exact Nat.lt_of_le_of_lt (show _ ≤ 1000 by omega) (by decide), ?_⟩
        refine ⟨_, _, Wk.refl, by simp, some (.d (.tuple (nts r))), rfl, ?_⟩
        have el : (((kvF (ds.take j) fun r => ((ds.idxOf r : Nat) : Int)).length : Nat) : Int) = (fun r => ((ds.idxOf r : Nat) : Int)) r := by
          rw [kv_len, List.length_take]; show ((min j ds.length : Nat) : Int) = ((ds.idxOf r : Nat) : Int); rw [hx]; omega
        rw [last_set, hT, el, kv_new hn]
      have e' : j = ds.length := by rw [e]; simp [rws]
      subst e'
      rw [List.take_length, ← eD]
      subst hL1
      have g1 : ((L ++ (AO.lst (whA (L.length + 1) i) :: (ts.take i).map (dcT fr))) ++ [dcT fr t])[L.length]? = some (.lst (whA (L.length + 1) i)) := by rw [papp]; exact pget0
      refine onO_of (cel_own g1) (onO_of (cel_own g1) ⟨?_, ?_⟩)
      · rw [whA_len]; exact Nat.lt_of_le_of_lt (show _ ≤ 100 by omega) (by decide)
      refine ⟨_, _, Wk.refl, by simp, _, _, _, _, rfl, ?_⟩
      have e5 : (L ++ (AO.lst (whA (L.length + 1) i) :: (ts.take i).map (dcT fr))).length = L.length + 1 + i := by simp; omega
      rw [e5, ← whA_snoc, papp, List.cons_append, pset0, eT]
      simp
    have e' : i = ts.length := by rw [e]; simp
    subst e'
    rw [List.take_length]
    have el : ((nts fr).map GL.A.d).length = fr.length := by simp [nts]
    refine ⟨by rw [el]; omega, by rw [el]; omega, ?_⟩
    have ein : nts (rgI ((((nts fr).map GL.A.d).length : Nat) : Int).toNat) = nts (rgI fr.length) := by rw [el, Int.toNat_natCast]
    simp only [ein]
    refine ⟨ll rfl, ?_⟩
    refine ⟨_, fr, rfl, rfl, ok.kinds, h6, ?_⟩
    generalize hL2 : L ++ (AO.lst (whA (L.length + 1) ts.length) :: ts.map (dcT fr)) = L2
    have gW : ∀ X : AO, (L2 ++ [X])[L.length]? = some (.lst (whA (L.length + 1) ts.length)) := fun X => by rw [← hL2, papp]; exact pget0
    have gD : ∀ (X : AO) (k : Nat), k < ts.length → (L2 ++ [X])[L.length + 1 + k]? = some (dcT fr (tb ts k)) := fun X k hk => by
      rw [← hL2, papp, List.cons_append, List.getElem?_append_right (by omega), show L.length + 1 + k - L.length = k + 1 by omega, List.getElem?_cons_succ, List.getElem?_append_left (by rw [List.length_map]; exact hk), List.getElem?_map, tb_get hk]; rfl
    refine ⟨fun i s L' => ∃ x7, s = [some (.d (famD fr ts)), some (.d (.grp (nts fr))), some (.d (.tuple (ts.map tbl))), some (.own L.length), x4, x5, x6, x7, some (.d (.grp (nts (rgI fr.length)))), some (.own L2.length), none] ∧ L' = L2 ++ [.lst ((lnsD (((rowsR fr).take i).map (plF fr ts))).map .d)], ⟨x7, rfl, rfl⟩, ?_⟩
    rintro i s L' ⟨x7', rfl, rfl⟩ hi
    have b2 : L.length ≤ L2.length := by rw [← hL2]; simp
    refine ⟨rfl, by simp, fun a ea => ?_, fun e => ?_⟩
    · obtain ⟨r, er, rfl⟩ := rws_get ea
      have hr := List.mem_of_getElem? er
      have hi2 := (List.getElem?_eq_some_iff.mp er).1
      refine onO_of (cel_own last_at) ?_
      have em : ((ts.map tbl).map GL.A.d).length = ts.length := by simp
      refine ⟨by rw [em]; omega, ?_⟩
      refine ⟨lcMap (rgI ts.length) (fun x => .d (.int x)) (fun x => .int ((plN fr (tb ts x.toNat) r : Nat) : Int)) (by rw [em]; simp [rngA, rgI]) trivial (Nat.le_refl _) (by rw [rgI_len]; exact le_line (by omega)) (fun j x hj Q hQ => ?_) ?_⟩
      · obtain ⟨k0, k1⟩ := rgI_mem.mp (List.mem_of_getElem? hj)
        obtain ⟨k, rfl⟩ : ∃ k : Nat, x = k := ⟨x.toNat, by omega⟩
        have hk : k < ts.length := by omega
        have ht := fam.tabs _ (tb_mem hk)
        have hgl := ht.gr.len
        rw [Int.toNat_natCast] at hQ
        refine ⟨_, item_a (sq_own (gW _)) (whA_get hk), ?_⟩
        refine ⟨.d (tbl (tb ts k)), item_a (as := (ts.map tbl).map .d) rfl (by rw [List.getElem?_map, List.getElem?_map, tb_get hk]; rfl), .d (.grp (nts (tb ts k).1)), rfl, ?_⟩
        refine ⟨rgI fr.length, r, (tb ts k).1, _, _, rfl, rfl, rfl, by rw [rgI_len, (rowsR_mem.mp hr).len], fun m hm => rgI_mem.mpr (ht.gr.mem m hm), by omega, ?_⟩
        exact ⟨_, _, _, gD _ k hk, rfl, kv_val (see_mem ht.gr.mem hr), hQ⟩
      have e3 : (rgI ts.length).map (fun x => D.int ((plN fr (tb ts x.toNat) r : Nat) : Int)) = nts (plF fr ts r) := by
        unfold plF nts rgI
        rw [List.map_map, List.map_map]
        refine List.ext_getElem? fun k => ?_
        by_cases hk : k < ts.length
        · rw [List.getElem?_map, List.getElem?_map, List.getElem?_range hk, tb_get hk]; rfl
        · rw [List.getElem?_eq_none (by simp; omega), List.getElem?_eq_none (by simp; omega)]
      rw [e3]
      refine onO_of (cel_own last_at) ⟨?_, ?_⟩
      · simp only [List.length_map, List.length_take]; exact Nat.lt_of_le_of_lt (show _ ≤ 100 by omega) (by decide)
      refine ⟨_, _, Wk.refl, by simp, some (.d (.tuple (nts r))), rfl, ?_⟩
      rw [last_set, show (rowsR fr).take (i + 1) = (rowsR fr).take i ++ [r] by rw [List.take_add_one, er]; rfl]
      simp
    have e' : i = (rowsR fr).length := by rw [e]; simp [rws]
    subst e'
    rw [List.take_length]
    subst hL2
    refine ⟨_, _, Wk.frzL ?_ hb, Nat.le_refl _, q⟩
    refine belLo_app (belLo_mono (by simp) hb) ?_
    have b1 := bel_whA (k := (L ++ (AO.lst (whA (L.length + 1) ts.length) :: ts.map (dcT fr))).length) (b := L.length + 1) ts.length (by simp; omega)
    show (belL _ _ && belLo _ _) = true
    rw [b1, bel_dcs]; rfl
-- starts_of: 0 family, 1 found, 2 group, 3 counts
abbrev s_starts_of : Stmt := topS 31
theorem sc_starts_of : FnScope ["family", "found", "group", "counts"] ["family"] (defScope s_starts_of) := ⟨rfl, rfl, rfl, by decide +kernel, rfl, by decide +kernel, by decide +kernel⟩
def sp_starts_of : ASp := fun as L R _ => ∃ (fr : List Int) (ts : List Tab), as = [.d (famD fr ts)] ∧ ts.length ≤ 8 ∧ R (.d (.list (nts (stF ts)))) L
theorem ok_starts_of (d : Df K mg "starts_of" ["family"] s_starts_of) (m_len : mg "len" = none)        : Cl P w K mg base 1 "starts_of" ["family"] sp_starts_of := by
  refine d.clB sc_starts_of (fun as L R Ex h => ?_) (fun f cdv A outer s H E hr => ?_)
  · obtain ⟨fr, ts, rfl, _⟩ := h; rfl
  · have nd := sc_starts_of.nd
    refine ⟨_,
  (ss_cons (s_set (i := 1) nd rfl (by first | exact .inl rfl | exact .inr rfl) (g_lstO (ga_cons g_int ga_nil)))
    (ss_cons (s_for (vs := [2, 3]) PassesOwn.never rfl (i_tup (g_ix (g_pv 0) g_int)) (p_tup (n := 2) rfl (ps_cons (p_name (i := 2) nd rfl (by first | exact .inl rfl | exact .inr rfl)) (ps_cons (p_name (i := 3) nd rfl (by first | exact .inl rfl | exact .inr rfl)) ps_nil)))
     (ss_one (s_expr (g_app (g_pv 1) (ga_cons (g_op o_add (g_ix (g_pv 1) (g_neg g_int)) (g_callB k_len (by rfl) m_len PySem.boot_len (ga_cons (g_pv 3) ga_nil))) ga_nil)))))
    (ss_one (s_ret (g_pv 1))))), fun as L R Ex h hb => ?_⟩
    obtain ⟨fr, ts, rfl, h8, q⟩ := h
    refine ⟨ll rfl, .d (.tuple (ts.map tbl)), rfl, ?_⟩
    refine ⟨fun i s L' => ∃ x2 x3, s = [some (.d (famD fr ts)), some (.own L.length), x2, x3] ∧ L' = L ++ [.lst ((nts (stT ts i)).map .d)], ⟨none, none, rfl, rfl⟩, ?_⟩
    rintro i s L' ⟨x2, x3, rfl, rfl⟩ hi
    refine ⟨trivial, by simp, fun a ea => ?_, fun e => ?_⟩
    · obtain ⟨t, et, rfl⟩ := tbl_get ea
      have hi2 := (List.getElem?_eq_some_iff.mp et).1
      have h1 := itLastO (L := L ++ [.lst ((nts (stT ts i)).map .d)]) (n := L.length) (l := stT ts i) last_at (by rw [stT_len]; omega)
      rw [stT_len, show i + 1 - 1 = i by omega, List.getD_eq_getElem?_getD, stT_get (Nat.le_refl i)] at h1
      refine ⟨rfl, rfl, ?_⟩
      refine onO_of (cel_own last_at) ⟨_, h1, onO_of (cel_own last_at) ⟨?_, ?_⟩⟩
      · rw [List.length_map, nts_len, stT_len]; exact Nat.lt_of_le_of_lt (show _ ≤ 100 by omega) (by decide)
      refine ⟨_, _, Wk.refl, by simp, _, _, rfl, ?_⟩
      rw [last_set, stT_snoc, off_succ (by rw [lens_len]; exact hi2), lens_get hi2, tb_of et]
      simp [nts]
    have e' : i = ts.length := by rw [e]; simp
    subst e'
    have := Wk.frzEnd0 (L := L) (ds := nts (stT ts ts.length)) hb
    exact ⟨_, _, this, Nat.le_refl _, q⟩
-- filled: 0 family, 1 weights, 2 starts, 3 members, 4 places, 5 k, 6 caps, 7 group, 8 counts, 9 numbers, 10 prices, 11 scale
abbrev s_filled : Stmt := topS 32
theorem sc_filled : FnScope ["family", "weights", "starts", "members", "places", "k", "caps", "group", "counts", "numbers", "prices", "scale"] ["family", "weights"] (defScope s_filled) := ⟨rfl, rfl, rfl, by decide +kernel, rfl, by decide +kernel, by decide +kernel⟩
def sp_filled : ASp := fun as L R _ => ∃ (fr : List Int) (ts : List Tab) (w : Int) (ws : List Int), as = [.d (famD fr ts), .d (.list (nts ws))] ∧ FamOk fr w ts ∧ ws.length = (rowsR fr).length ∧ (∀ x ∈ ws, x.natAbs < 2 ^ 300) ∧
  ∀ s xs prs J na pa, (PtOk fr ts ws s xs prs ∧ s ≤ ((8 ^ (rowsR fr).length : Nat) : Int) ∧ na = .own L.length) → NmIn (L ++ J) na xs → PrIn (L ++ J) pa prs → R (.tup [na, pa, .d (.int s)]) (L ++ J)
theorem ok_filled (d : Df K mg "filled" ["family", "weights"] s_filled) (m_len : mg "len" = none) (m_range : mg "range" = none)        (C_starts_of : Cl P w K mg base 1 "starts_of" ["family"] sp_starts_of) (C_places_of : Cl P w K mg base 3 "places_of" ["family"] sp_places_of) (C_greatest : Cl P w K mg base 4 "greatest" ["members", "caps", "weights"] sp_greatest) : Cl P w K mg base 5 "filled" ["family", "weights"] sp_filled := by
  refine d.clB sc_filled (fun as L R Ex h => ?_) (fun f cdv A outer s H E hr => ?_)
  · obtain ⟨fr, ts, w, ws, rfl, _⟩ := h; rfl
  · have nd := sc_filled.nd
    refine ⟨_,
  (ss_cons (s_set (i := 2) nd rfl (by first | exact .inl rfl | exact .inr rfl) (g_clA C_starts_of hr (by rfl) (ga_cons (g_pv 0) ga_nil)))
    (ss_cons (s_setLc (i := 3) rfl nd rfl rfl (sw_true rfl rfl rfl (by decide +kernel)) (i_list (g_clA C_places_of hr (by rfl) (ga_cons (g_pv 0) ga_nil))) (blk_by (own := [("places", 4)]) (by rfl)) (fun _ _ _ _ _ => (p_name (i := 4) nd rfl (by first | exact .inl rfl | exact .inr rfl))) (fun _ _ _ _ _ => ts_nil) (fun _ _ _ _ _ => (g_lc rfl nd (i_range1 (by rfl) m_range (ga_cons (g_callB k_len (by rfl) m_len PySem.boot_len (ga_cons (g_pv 4) ga_nil)) ga_nil)) (blk_by (own := [("k", 5)]) (by rfl)) (fun _ _ _ _ _ => (p_name (i := 5) nd rfl (by first | exact .inl rfl | exact .inr rfl))) (fun _ _ _ _ _ => ts_nil) (fun _ _ _ _ _ => (g_op o_add (g_ix (g_pv 2) (g_pv 5)) (g_ix (g_pv 4) (g_pv 5)))))))
    (ss_cons (s_set (i := 6) nd rfl (by first | exact .inl rfl | exact .inr rfl) (g_lstO ga_nil))
    (ss_cons (s_for (vs := [7, 8]) PassesOwn.never rfl (i_tup (g_ix (g_pv 0) g_int)) (p_tup (n := 2) rfl (ps_cons (p_name (i := 7) nd rfl (by first | exact .inl rfl | exact .inr rfl)) (ps_cons (p_name (i := 8) nd rfl (by first | exact .inl rfl | exact .inr rfl)) ps_nil)))
     (ss_one (s_expr (g_extT (g_pv 6) (ga_cons (g_pv 8) ga_nil)))))
    (ss_cons (s_gho (s_asg (vs := [9, 10, 11]) (g_clA C_greatest hr (by rfl) (ga_cons (g_pv 3) (ga_cons (g_pv 6) (ga_cons (g_pv 1) ga_nil)))) (p_tup (n := 3) rfl (ps_cons (p_name (i := 9) nd rfl (by first | exact .inl rfl | exact .inr rfl)) (ps_cons (p_name (i := 10) nd rfl (by first | exact .inl rfl | exact .inr rfl)) (ps_cons (p_name (i := 11) nd rfl (by first | exact .inl rfl | exact .inr rfl)) ps_nil))))))
    (ss_one (s_ret (g_tup (ga_cons (g_pv 9) (ga_cons (g_lcO rfl nd (i_range1 (by rfl) m_range (ga_cons (g_callB k_len (by rfl) m_len PySem.boot_len (ga_cons (g_ix (g_pv 0) g_int) ga_nil)) ga_nil)) (blk_by (own := [("k", 5)]) (by rfl)) (fun _ _ _ _ _ => (p_name (i := 5) nd rfl (by first | exact .inl rfl | exact .inr rfl))) (fun _ _ _ _ _ => ts_nil) (fun _ _ _ _ _ => (g_slLO (g_pv 10) (go_some (g_ix (g_pv 2) (g_pv 5))) (go_some (g_ix (g_pv 2) (g_op o_add (g_pv 5) g_int)))))) (ga_cons (g_pv 11) ga_nil))))))))))), fun as L R Ex h hb => ?_⟩
    obtain ⟨fr, ts, w, ws, rfl, fam, hwl, hwb, q⟩ := h
    have ok := fam.frame
    have h8 := fam.eight
    have hN := all_n ok
    have hS := lens_sum fam
    refine ⟨fr, ts, rfl, h8, ?_⟩
    refine ⟨fr, ts, w, rfl, fam, ?_⟩
    refine ⟨lcMap ((rowsR fr)) (fun r => .d (.list (nts (plF fr ts r)))) (fun r => .list (nts (memF fr ts r))) (by simp [List.map_map, Function.comp_def]) rfl (Nat.le_refl _) (le_line (by omega)) (fun i r hi Q hQ => ?_) ?_⟩
    · have ep : ((nts (plF fr ts r)).map GL.A.d).length = ts.length := by simp [plF]
      refine ⟨by rw [ep]; omega, ?_⟩
      refine ⟨lcMap (rgI ts.length) (fun x => .d (.int x)) (fun x => .int (((off (lens ts) x.toNat : Nat) : Int) + (plN fr (tb ts x.toNat) r : Nat))) (by rw [ep]; simp [rngA, rgI]) trivial (Nat.le_refl _) (by rw [rgI_len]; exact le_line (by omega)) (fun j x hj Q hQ => ?_) ?_⟩
      · obtain ⟨k0, k1⟩ := rgI_mem.mp (List.mem_of_getElem? hj)
        obtain ⟨k, rfl⟩ : ∃ k : Nat, x = k := ⟨x.toNat, by omega⟩
        have hk : k < ts.length := by omega
        rw [Int.toNat_natCast] at hQ
        refine ⟨_, item_int (a := .d (.list (nts (stF ts)))) (ns := stF ts) rfl (stT_get (i := ts.length) (Nat.le_of_lt hk)), _, item_int (a := .d (.list (nts (plF fr ts r)))) (ns := plF fr ts r) rfl (by unfold plF; rw [List.getElem?_map, tb_get hk]; rfl), hQ⟩
      have e3 : (rgI ts.length).map (fun x => D.int (((off (lens ts) x.toNat : Nat) : Int) + (plN fr (tb ts x.toNat) r : Nat))) = nts (memF fr ts r) := by
        unfold memF nts rgI
        rw [List.map_map, List.map_map]; rfl
      rw [e3]
      exact hQ
    have e4 : (rowsR fr).map (fun r => D.list (nts (memF fr ts r))) = lnsD (memsF fr ts) := by simp [memsF, lnsD, List.map_map, Function.comp_def]
    rw [e4]
    refine ⟨ll rfl, .d (.tuple (ts.map tbl)), rfl, ?_⟩
    refine ⟨fun i s L' => ∃ x7 x8, s = [some (.d (famD fr ts)), some (.d (.list (nts ws))), some (.d (.list (nts (stF ts)))), some (.d (.list (lnsD (memsF fr ts)))), none, none, some (.own L.length), x7, x8, none, none, none] ∧ L' = L ++ [.lst ((nts ((ts.take i).flatMap (·.2))).map .d)], ⟨none, none, rfl, rfl⟩, ?_⟩
    rintro i s L' ⟨x7, x8, rfl, rfl⟩ hi
    refine ⟨trivial, by simp, fun a ea => ?_, fun e => ?_⟩
    · obtain ⟨t, et, rfl⟩ := tbl_get ea
      have hi2 := (List.getElem?_eq_some_iff.mp et).1
      refine ⟨rfl, rfl, ?_⟩
      refine onO_of (cel_own last_at) (onO_of (cel_own last_at) ⟨?_, ?_⟩)
      · have h1 := off_le (ls := lens ts) (k := i) (by rw [lens_len]; exact hi2)
        have h2 : ((ts.take i).flatMap (·.2)).length = off (lens ts) i := by simp [off, lens, List.length_flatMap, ← List.map_take]
        rw [lens_get hi2, tb_of et] at h1
        rw [List.length_map, nts_len, h2, nts_len]
        exact le_line (by omega)
      refine ⟨_, _, Wk.refl, by simp, _, _, rfl, ?_⟩
      rw [last_set, show ts.take (i + 1) = ts.take i ++ [t] by rw [List.take_add_one, et]; rfl]
      simp [nts]
    have e' : i = ts.length := by rw [e]; simp
    subst e'
    rw [List.take_length]
    refine ⟨[some (.d (famD fr ts)), some (.d (.list (nts ws))), some (.d (.list (nts (stF ts)))), some (.d (.list (lnsD (memsF fr ts)))), none, none, some (.d (.list (nts (capsF ts)))), none, none, none, none, none], L, ?_, Nat.le_refl _, ?_⟩
    · refine Wk.trans (Wk.less (s1 := [some (.d (famD fr ts)), some (.d (.list (nts ws))), some (.d (.list (nts (stF ts)))), some (.d (.list (lnsD (memsF fr ts)))), none, none, some (.own L.length), none, none, none, none, none]) ?_) ?_ (by show L.length ≤ _; simp)
      · exact ⟨rfl, rfl, rfl, rfl, rfl, trivial⟩
      · have k1 := Wk.frz (b := L.length) (s := [some (.d (famD fr ts)), some (.d (.list (nts ws))), some (.d (.list (nts (stF ts)))), some (.d (.list (lnsD (memsF fr ts)))), none, none, some (.own L.length), none, none, none, none, none]) (ds := nts (capsF ts)) hb
        have e1 : frzS L.length (nts (capsF ts)) [some (.d (famD fr ts)), some (.d (.list (nts ws))), some (.d (.list (nts (stF ts)))), some (.d (.list (lnsD (memsF fr ts)))), none, none, some (.own L.length), none, none, none, none, none] = [some (.d (famD fr ts)), some (.d (.list (nts ws))), some (.d (.list (nts (stF ts)))), some (.d (.list (lnsD (memsF fr ts)))), none, none, some (.d (.list (nts (capsF ts)))), none, none, none, none, none] := by
          simp [frzS, GL.A.frz]
        rw [e1] at k1
        exact k1
    refine ⟨memsF fr ts, capsF ts, ws, rfl, famPr fam hwl hwb, fun s xs ps ⟨bst, os, fe, es⟩ => ?_⟩
    have pt := part_ok fam bst
    have s8 : s ≤ ((8 ^ (rowsR fr).length : Nat) : Int) := by
      have h := Dt_few fe fun mem hm => by
        obtain ⟨r, _, rfl⟩ := List.mem_map.mp hm
        simp [memF]; exact h8
      rw [← es, show (memsF fr ts).length = (rowsR fr).length by simp [memsF]] at h
      exact h
    refine ⟨rfl, rfl, ?_⟩
    refine ⟨.d (.tuple (ts.map tbl)), rfl, ?_⟩
    have em : ((ts.map tbl).map GL.A.d).length = ts.length := by simp
    have psl : ps.length = (lens ts).sum := by rw [bst.pl, capsF_len]
    refine ⟨by rw [em]; omega, ?_⟩
    refine ⟨fun i acc L' => acc = whA (L.length + 1) i ∧ L' = L ++ (.lst ((nts xs).map .d) :: ((prsF ts ps).take i).map fun p => .lst ((nts p).map .d)), ⟨rfl, rfl⟩, ?_⟩
    rintro i acc L' ⟨rfl, rfl⟩ hi
    have pfl : (prsF ts ps).length = ts.length := by simp [prsF]
    have hi1 : i ≤ ts.length := by
      have h1 := hi
      rw [rngA_len] at h1
      simpa [List.length_map] using h1
    refine ⟨trivial, by simp, fun a ea => ?_, fun e => ?_⟩
    · obtain ⟨rfl, hi2⟩ := rng0_el ea
      rw [em, Int.toNat_natCast] at hi2
      have hk1 : (stF ts)[i]? = some ((off (lens ts) i : Nat) : Int) := stT_get (i := ts.length) (Nat.le_of_lt hi2)
      have hk2 : (stF ts)[i + 1]? = some ((off (lens ts) (i + 1) : Nat) : Int) := stT_get (i := ts.length) hi2
      have s1 := off_succ (ls := lens ts) (k := i) (by rw [lens_len]; exact hi2)
      have s2 := off_le (ls := lens ts) (k := i) (by rw [lens_len]; exact hi2)
      rw [lens_get hi2] at s1 s2
      refine ⟨fun _ => ?_, fun z => (by cases z)⟩
      refine ⟨_, item_int (a := .d (.list (nts (stF ts)))) (ns := stF ts) rfl hk1, _, item_int (a := .d (.list (nts (stF ts)))) (ns := stF ts) (j := i + 1) rfl hk2, ?_⟩
      have ec : cutL ((nts ps).map GL.A.d) (some ((off (lens ts) i : Nat) : Int)) (some ((off (lens ts) (i + 1) : Nat) : Int)) = (nts (((ps.drop (off (lens ts) i)).take (tb ts i).2.length))).map .d := by
        rw [cut_mid (by omega) (by rw [List.length_map, nts_len]; omega), show off (lens ts) (i + 1) - off (lens ts) i = (tb ts i).2.length by omega]
        simp [nts, List.map_take, List.map_drop]
      refine ⟨?_, by simp, ?_, ?_⟩
      · rw [whA_len]; exact Nat.lt_of_le_of_lt (show _ ≤ 100 by omega) (by decide)
      · rw [whA_snoc]
        have e5 : (L ++ (AO.lst ((nts xs).map .d) :: ((prsF ts ps).take i).map fun p => AO.lst ((nts p).map .d))).length = L.length + 1 + i := by simp [pfl]; omega
        rw [e5]
      · have e6 : (prsF ts ps)[i]? = some ((ps.drop (off (lens ts) i)).take (tb ts i).2.length) := by unfold prsF; simp [hi2]
        rw [ec, List.take_add_one, e6, papp]
        simp
    have e' : i = ts.length := by rw [e, rngA_len, em, Int.toNat_natCast]
    subst e'
    rw [← pfl, List.take_length, pfl, papp]
    refine ⟨ll rfl, rt0 (q s xs (prsF ts ps) _ _ _ ⟨pt, s8, rfl⟩ ⟨_, rfl, pget0⟩ ⟨_, whA (L.length + 1) ts.length, rfl, ?_, by rw [whA_len, pfl], fun k p ek => ?_⟩) (by simp)⟩
    · rw [← papp]; exact last_at
    · have hk := (List.getElem?_eq_some_iff.mp ek).1
      rw [pfl] at hk
      refine ⟨_, whA_get hk, ?_⟩
      rw [List.cons_append, List.getElem?_append_right (by omega), show L.length + 1 + k - L.length = k + 1 by omega, List.getElem?_cons_succ, List.getElem?_append_left (by simp [pfl]; exact hk), List.getElem?_map, ek]; rfl
-- part: 0 family, 1 numbers, 2 prices, 3 scale
abbrev s_part : Stmt := topS 33
theorem sc_part : FnScope ["family", "numbers", "prices", "scale"] ["family"] (defScope s_part) := ⟨rfl, rfl, rfl, by decide +kernel, rfl, by decide +kernel, by decide +kernel⟩
def sp_part : ASp := fun as L R _ => ∃ (fr : List Int) (ts : List Tab) (w : Int), as = [.d (famD fr ts)] ∧ FamOk fr w ts ∧
  ∀ s xs prs J na pa, PtOk fr ts (List.replicate (rowsR fr).length 1) s xs prs → NmIn (L ++ J) na xs → PrIn (L ++ J) pa prs → R (.tup [na, .d (.int s), pa, .d (.int s)]) (L ++ J)
theorem ok_part (d : Df K mg "part" ["family"] s_part) (m_len : mg "len" = none)        (C_all_rows : Cl P w K mg base 2 "all_rows" ["frame"] sp_all_rows) (C_filled : Cl P w K mg base 5 "filled" ["family", "weights"] sp_filled) : Cl P w K mg base 6 "part" ["family"] sp_part := by
  refine d.clB sc_part (fun as L R Ex h => ?_) (fun f cdv A outer s H E hr => ?_)
  · obtain ⟨fr, ts, w, rfl, _⟩ := h; rfl
  · have nd := sc_part.nd
    refine ⟨_,
  (ss_cons (s_asg (vs := [1, 2, 3]) (g_clA C_filled hr (by rfl) (ga_cons (g_pv 0) (ga_cons (g_op o_repL (g_lst (ga_cons g_int ga_nil)) (g_callB k_len (by rfl) m_len PySem.boot_len (ga_cons (g_clA C_all_rows hr (by rfl) (ga_cons (g_ix (g_pv 0) g_int) ga_nil)) ga_nil))) ga_nil))) (p_tup (n := 3) rfl (ps_cons (p_name (i := 1) nd rfl (by first | exact .inl rfl | exact .inr rfl)) (ps_cons (p_name (i := 2) nd rfl (by first | exact .inl rfl | exact .inr rfl)) (ps_cons (p_name (i := 3) nd rfl (by first | exact .inl rfl | exact .inr rfl)) ps_nil)))))
    (ss_one (s_ret (g_tup (ga_cons (g_pv 1) (ga_cons (g_pv 3) (ga_cons (g_pv 2) (ga_cons (g_pv 3) ga_nil)))))))), fun as L R Ex h hb => ?_⟩
    obtain ⟨fr, ts, w, rfl, fam, q⟩ := h
    have ok := fam.frame
    have hN := all_n ok
    have er : ((rws (rowsR fr)).map GL.A.d).length = (rowsR fr).length := by simp [rws]
    refine ⟨ll rfl, _, rfl, .d (.grp (nts fr)), rfl, _, fr, rfl, rfl, ok.kinds, ok.six, ?_⟩
    refine ⟨⟨by rw [er]; omega, by rw [er]; omega, by rw [er]; show 1 * _ ≤ _; exact le_line (by omega)⟩, _, rfl, ?_⟩
    have en : (List.replicate ((((rws (rowsR fr)).map GL.A.d).length : Nat) : Int).toNat [D.int 1]).flatten = nts (List.replicate (rowsR fr).length 1) := by
      rw [er, Int.toNat_natCast, List.flatten_replicate_singleton]; simp [nts]
    rw [en]
    refine ⟨fr, ts, w, List.replicate (rowsR fr).length 1, rfl, fam, by simp, fun x hx => by rw [(List.mem_replicate.mp hx).2]; exact Nat.one_lt_two_pow (by decide), fun s xs prs J na pa ⟨pt, _⟩ h1 h2 => ?_⟩
    obtain ⟨n1, rfl, h1⟩ := h1
    obtain ⟨n2, as2, rfl, h2⟩ := h2
    refine ⟨rfl, rfl, ?_⟩
    exact ⟨ll rfl, rt0 (q s xs prs J _ _ pt ⟨n1, rfl, h1⟩ ⟨n2, as2, rfl, h2⟩) (by simp)⟩
-- lowest: 0 top, 1 bottom, 2 one, 3 other
abbrev s_lowest : Stmt := topS 34
theorem sc_lowest : FnScope ["top", "bottom", "one", "other"] ["top", "bottom"] (defScope s_lowest) := ⟨rfl, rfl, rfl, by decide +kernel, rfl, by decide +kernel, by decide +kernel⟩
def sp_lowest : ASp := fun as L R _ => ∃ (top bot : Int), as = [.d (.int top), .d (.int bot)] ∧ 0 ≤ top ∧ 0 < bot ∧ bot.natAbs < 2 ^ 4200 ∧ ∀ a b g : Int, 0 < g → Low a b → top = a * g → bot = b * g → R (.d (.tuple [.int a, .int b])) L
theorem ok_lowest (d : Df K mg "lowest" ["top", "bottom"] s_lowest)         : Cl P w K mg base 1 "lowest" ["top", "bottom"] sp_lowest := by
  refine d.clB sc_lowest (fun as L R Ex h => ?_) (fun f cdv A outer s H E hr => ?_)
  · obtain ⟨top, bot, rfl, _⟩ := h; rfl
  · have nd := sc_lowest.nd
    refine ⟨_,
  (ss_cons (s_set (i := 2) nd rfl (by first | exact .inl rfl | exact .inr rfl) (g_pv 0))
    (ss_cons (s_set (i := 3) nd rfl (by first | exact .inl rfl | exact .inr rfl) (g_pv 1))
    (ss_cons (s_while PassesOwn.never (t_cmp c_neI (g_pv 3) g_int (nomark _))
     (ss_one (s_par (i := 2) (j := 3) rfl nd rfl rfl (by decide) rfl rfl (ga_cons (g_pv 3) (ga_cons (g_op o_mod (g_pv 2) (g_pv 3)) ga_nil)) (by rfl))))
    (ss_one (s_ret (g_tup (ga_cons (g_op o_fdivW (g_pv 0) (g_pv 2)) (ga_cons (g_op o_fdivW (g_pv 1) (g_pv 2)) ga_nil)))))))), fun as L R Ex h hb => ?_⟩
    obtain ⟨top, bot, rfl, h0, h1, hb, q⟩ := h
    refine ⟨fun m s L' => ∃ one oth : Int, s = [some (.d (.int top)), some (.d (.int bot)), some (.d (.int one)), some (.d (.int oth))] ∧ L' = L ∧ 0 ≤ one ∧ 0 ≤ oth ∧ 0 < one + oth ∧ Int.gcd one oth = Int.gcd top bot ∧ oth.toNat = m, ⟨_, top, bot, rfl, rfl, h0, by omega, by omega, rfl, rfl⟩, ?_⟩
    rintro m s L' ⟨one, oth, rfl, rfl, o1, o2, o3, hg, rfl⟩
    refine ⟨Nat.le_refl _, fun z => ?_, fun z => ?_⟩
    · have z : oth ≠ 0 := by simpa using z
      have op : 0 < oth := by omega
      have m0 := Int.emod_nonneg one z
      have m1 := Int.emod_lt_of_pos one op
      exact ⟨op, _, _, (one % oth).toNat, Wk.refl, Nat.le_refl _, by omega, oth, one % oth, rfl, rfl, o2, m0, by omega, by rw [← hg]; exact gcd_step o1 op, rfl⟩
    · have z : oth = 0 := by simpa using z
      subst z
      have hp : 0 < one := by omega
      have e : one = (Int.gcd top bot : Nat) := by rw [← hg, Int.gcd_zero_right]; omega
      obtain ⟨low, g0, e1, e2⟩ := Low.of h0 h1
      rw [← e] at low e1 e2
      have b2 : one.natAbs < 2 ^ 4200 := by
        have : one ≤ bot := Int.le_of_dvd h1 (by rw [e]; exact Int.gcd_dvd_right top bot)
        omega
      have cd : ∀ x : Int, CDivW x one := fun x => wide_div hp b2 (by decide) (by decide)
      exact ⟨cd _, cd _, (show 2 ≤ sizeLine by decide), rt0 (q _ _ one hp low e1 e2) (Nat.le_refl _)⟩
-- share: 0 family, 1 numbers, 2 times, 3 prices, 4 scale
abbrev s_share : Stmt := topS 35
theorem sc_share : FnScope ["family", "numbers", "times", "prices", "scale"] ["family"] (defScope s_share) := ⟨rfl, rfl, rfl, by decide +kernel, rfl, by decide +kernel, by decide +kernel⟩
def sp_share : ASp := fun as L R _ => ∃ (fr : List Int) (ts : List Tab) (w : Int), as = [.d (famD fr ts)] ∧ FamOk fr w ts ∧ ∀ a b, IsShr fr ts w a b → R (.d (.tuple [.int a, .int b])) L
theorem ok_share (d : Df K mg "share" ["family"] s_share) (m_sum : mg "sum" = none)        (C_part : Cl P w K mg base 6 "part" ["family"] sp_part) (C_whole : Cl P w K mg base 1 "whole" ["family"] sp_whole) (C_lowest : Cl P w K mg base 1 "lowest" ["top", "bottom"] sp_lowest) : Cl P w K mg base 7 "share" ["family"] sp_share := by
  refine d.clB sc_share (fun as L R Ex h => ?_) (fun f cdv A outer s H E hr => ?_)
  · obtain ⟨fr, ts, w, rfl, _⟩ := h; rfl
  · have nd := sc_share.nd
    refine ⟨_,
  (ss_cons (s_asg (vs := [1, 2, 3, 4]) (g_clA C_part hr (by rfl) (ga_cons (g_pv 0) ga_nil)) (p_tup (n := 4) rfl (ps_cons (p_name (i := 1) nd rfl (by first | exact .inl rfl | exact .inr rfl)) (ps_cons (p_name (i := 2) nd rfl (by first | exact .inl rfl | exact .inr rfl)) (ps_cons (p_name (i := 3) nd rfl (by first | exact .inl rfl | exact .inr rfl)) (ps_cons (p_name (i := 4) nd rfl (by first | exact .inl rfl | exact .inr rfl)) ps_nil))))))
    (ss_one (s_ret (g_clA C_lowest hr (by rfl) (ga_cons (g_callB (k_sumS rfl) (by rfl) m_sum (by decide +kernel) (ga_cons (g_pv 1) ga_nil)) (ga_cons (g_op o_mul (g_pv 2) (g_clA C_whole hr (by rfl) (ga_cons (g_pv 0) ga_nil))) ga_nil)))))), fun as L R Ex h hb => ?_⟩
    obtain ⟨fr, ts, w, rfl, fam, q⟩ := h
    refine ⟨fr, ts, w, rfl, fam, fun s xs prs J na pa pt hn hp => ?_⟩
    obtain ⟨t0, ht0⟩ : ∃ t, ts[0]? = some t := ⟨_, List.getElem?_eq_getElem fam.ne⟩
    have hw := (fam.tabs t0 (List.mem_of_getElem? ht0)).sum
    have w9 := fam.w9
    have w1 := fam.w1
    have sp := pt.sp
    have hN := all_n fam.frame
    refine ⟨rfl, rfl, ?_⟩
    refine ⟨xs, pl_sq hn.pl, fr, ts, t0, rfl, ht0, ?_⟩
    rw [hw]
    have x0 : 0 ≤ xs.sum := (sum_all fun x hx => (pt.xb x hx).1).1
    refine ⟨.inr (by omega), xs.sum, s * w, rfl, x0, Int.mul_pos sp (by omega), ?_, fun a b g hg low e1 e2 => ?_⟩
    · rw [Int.natAbs_mul]
      have h1 : w.natAbs ≤ 2 ^ 100 := Nat.le_trans (show w.natAbs ≤ 1000000000 by omega) (by decide)
      have h2 := Nat.mul_le_mul (Nat.le_of_lt pt.sb) h1
      rw [← Nat.pow_add] at h2
      exact Nat.lt_of_le_of_lt h2 (Nat.pow_lt_pow_right (by decide) (by decide))
    · exact ⟨_, L, Wk.pop (L1 := L) (by rfl) hb, Nat.le_refl _, q a b (pt.shr fam hg low e1 e2)⟩
-- _law_cell_at: 0 _law_script, 1 _law_k
abbrev s_law_cell_at : Stmt := topS 37
theorem sc_law_cell_at : FnScope ["_law_script", "_law_k"] ["_law_script", "_law_k"] (defScope s_law_cell_at) := ⟨rfl, rfl, rfl, by decide +kernel, rfl, by decide +kernel, by decide +kernel⟩
def sp_law_cell_at : ASp := fun as L R _ => ∃ ns k, as = [.scr ns, .d (.int k)] ∧ 0 ≤ k ∧ k ≤ 1000 ∧ ∀ c, R (.d (.int c)) L
theorem ok_law_cell_at (d : Df K mg "_law_cell_at" ["_law_script", "_law_k"] s_law_cell_at) (m_len : mg "len" = none)        : Cl P w K mg base 1 "_law_cell_at" ["_law_script", "_law_k"] sp_law_cell_at := by
  refine d.clB sc_law_cell_at (fun as L R Ex h => ?_) (fun f cdv A outer s H E hr => ?_)
  · obtain ⟨ns, k, rfl, _⟩ := h; rfl
  · have nd := sc_law_cell_at.nd
    refine ⟨_,
  (ss_cons (s_if (t_cmp c_lt (g_pv 1) (g_callB k_len (by rfl) m_len PySem.boot_len (ga_cons (g_pv 0) ga_nil)) (nomark _))
     (ss_one (s_ret (g_ix (g_pv 0) (g_pv 1))))
     ss_nil)
    (ss_one (s_ret (g_op o_add (g_op o_add (g_op o_mul (g_op o_mul g_int (g_pv 1)) (g_pv 1)) (g_op o_mul g_int (g_pv 1))) g_int)))), fun as L R Ex h hb => ?_⟩
    obtain ⟨ns, k, rfl, h0, h1, q⟩ := h
    refine ⟨fun z => ?_, fun z => ?_⟩
    · obtain ⟨v, e⟩ := scr_item (L := L) (ns := ns) (i := k) h0 (by have := of_decide_eq_true z; rw [scr_len] at this; exact this)
      exact ⟨_, e, rt0 (q v) (Nat.le_refl _)⟩
    · exact ⟨.inl (by decide), .inr (by omega), .inl (by decide), rt0 (q _) (Nat.le_refl _)⟩
-- _law_state: 0 _law_script, 1 _law_k
abbrev s_law_state : Stmt := topS 38
theorem sc_law_state : FnScope ["_law_script", "_law_k"] ["_law_script", "_law_k"] (defScope s_law_state) := ⟨rfl, rfl, rfl, by decide +kernel, rfl, by decide +kernel, by decide +kernel⟩
def sp_law_state : ASp := fun as L R _ => ∃ ns k, as = [.scr ns, .d (.int k)] ∧ 0 ≤ k ∧ k ≤ 1000 ∧ ∀ c b, R (.own L.length) (L ++ [stB c b])
theorem ok_law_state (d : Df K mg "_law_state" ["_law_script", "_law_k"] s_law_state)         (C_law_cell_at : Cl P w K mg base 1 "_law_cell_at" ["_law_script", "_law_k"] sp_law_cell_at) : Cl P w K mg base 2 "_law_state" ["_law_script", "_law_k"] sp_law_state := by
  refine d.clB sc_law_state (fun as L R Ex h => ?_) (fun f cdv A outer s H E hr => ?_)
  · obtain ⟨ns, k, rfl, _⟩ := h; rfl
  · have nd := sc_law_state.nd
    refine ⟨_,
  (ss_one (s_ret (g_lstO (ga_cons (g_clA C_law_cell_at hr (by rfl) (ga_cons (g_pv 0) (ga_cons (g_pv 1) ga_nil))) (ga_cons (g_op o_mod (g_clA C_law_cell_at hr (by rfl) (ga_cons (g_pv 0) (ga_cons g_int ga_nil))) g_int) ga_nil))))), fun as L R Ex h hb => ?_⟩
    obtain ⟨ns, k, rfl, h0, h1, q⟩ := h
    exact ⟨ns, k, rfl, h0, h1, fun c => ⟨ns, 0, rfl, by decide, by decide, fun b => ⟨(by decide : (0 : Int) < 2), ll rfl, rt0 (q c _) (by simp)⟩⟩⟩
-- _law_take: 0 _law_state_here, 1 _law_many, 2 _law_digit, 3 _law_second
abbrev s_law_take : Stmt := topS 39
theorem sc_law_take : FnScope ["_law_state_here", "_law_many", "_law_digit", "_law_second"] ["_law_state_here", "_law_many"] (defScope s_law_take) := ⟨rfl, rfl, rfl, by decide +kernel, rfl, by decide +kernel, by decide +kernel⟩
def sp_law_take : ASp := fun as L R _ => ∃ c b many, as = [.own 0, .d (.int many)] ∧ L = [stB c b] ∧ 0 < many ∧ many < 1073741824 ∧ ∀ x c', 0 ≤ x → x < many → R (.d (.int x)) [stB c' b]
theorem ok_law_take (d : Df K mg "_law_take" ["_law_state_here", "_law_many"] s_law_take)         : Cl P w K mg base 1 "_law_take" ["_law_state_here", "_law_many"] sp_law_take := by
  refine d.clB sc_law_take (fun as L R Ex h => ?_) (fun f cdv A outer s H E hr => ?_)
  · obtain ⟨c, b, many, rfl, _⟩ := h; rfl
  · have nd := sc_law_take.nd
    refine ⟨_,
  (ss_cons (s_if (t_cmp c_eqI (g_ix (g_pv 0) g_int) g_int (nomark _))
     (ss_cons (s_set (i := 2) nd rfl (by first | exact .inl rfl | exact .inr rfl) (g_op o_mod (g_ix (g_pv 0) g_int) (g_pv 1)))
     (ss_cons (s_setIx (g_op o_fdiv (g_ix (g_pv 0) g_int) (g_pv 1)) (g_pv 0) g_int)
     (ss_one (s_ret (g_pv 2)))))
     ss_nil)
    (ss_cons (s_setIx (g_op o_mod (g_op o_mul (g_op o_add (g_op o_mod (g_ix (g_pv 0) g_int) g_int) g_int) g_int) g_int) (g_pv 0) g_int)
    (ss_cons (s_set (i := 3) nd rfl (by first | exact .inl rfl | exact .inr rfl) (g_op o_mod (g_op o_mul (g_op o_add (g_ix (g_pv 0) g_int) g_int) g_int) g_int))
    (ss_one (s_ret (g_op o_mod (g_op o_fdiv (g_op o_mod (g_op o_mul (g_pv 3) (g_op o_add (g_op o_mod (g_pv 3) g_int) g_int)) g_int) g_int) (g_pv 1))))))), fun as L R Ex h hb => ?_⟩
    obtain ⟨c, b, many, rfl, rfl, hs, hs2, q⟩ := h
    have fin : ∀ (r c' : Int), 0 ≤ r → r < many → (fnEnds 1 R).rt (.d (.int r)) [stB c' b] := fun r c' h1 h2 => rt0 (q r c' h1 h2) (Nat.le_refl _)
    refine ⟨_, rfl, ⟨fun z => ?_, fun z => ?_⟩⟩
    · exact ⟨_, rfl, hs, _, rfl, ⟨hs, hs2⟩, _, _, rfl, rfl, fin _ _ (Int.emod_nonneg _ (by omega)) (Int.emod_lt_of_pos _ hs)⟩
    · have b1 : ∀ x : Int, 0 ≤ x % 2147483579 ∧ x % 2147483579 < 2147483579 := fun x => ⟨Int.emod_nonneg _ (by decide), Int.emod_lt_of_pos _ (by decide)⟩
      have b2 : ∀ x : Int, 0 ≤ x % 65519 ∧ x % 65519 < 65519 := fun x => ⟨Int.emod_nonneg _ (by decide), Int.emod_lt_of_pos _ (by decide)⟩
      refine ⟨_, rfl, (by decide : (0 : Int) < 2147483629), .inr (by decide), (by decide : (0 : Int) < 2147483629), _, _, rfl, rfl, _, rfl, .inr (by decide), (by decide : (0 : Int) < 2147483579), ?_⟩
      refine ⟨(by decide : (0 : Int) < 65519), .inl ?_, (by decide : (0 : Int) < 2147483587), ⟨by decide, by decide⟩, hs, fin _ _ (Int.emod_nonneg _ (by omega)) (Int.emod_lt_of_pos _ hs)⟩
      have := b1 (((c % 2147483629 + 101) * 48271 % 2147483629 + 7) * 69621)
      omega
-- _law_kinds: 0 _law_state_here, 1 _law_limit, 2 _law_kinds_here, 3 _law_size, 4 _law_k, 5 _law_many
abbrev s_law_kinds : Stmt := topS 40
theorem sc_law_kinds : FnScope ["_law_state_here", "_law_limit", "_law_kinds_here", "_law_size", "_law_k", "_law_many"] ["_law_state_here", "_law_limit"] (defScope s_law_kinds) := ⟨rfl, rfl, rfl, by decide +kernel, rfl, by decide +kernel, by decide +kernel⟩
def sp_law_kinds : ASp := fun as L R _ => ∃ c b limit, as = [.own 0, .d (.int limit)] ∧ L = [stB c b] ∧ 3 ≤ limit ∧ limit ≤ 64 ∧ ∀ fr c', FrOk fr → fr.length ≤ 5 → prod fr ≤ limit → R (.d (.grp (nts fr))) [stB c' b]
theorem ok_law_kinds (d : Df K mg "_law_kinds" ["_law_state_here", "_law_limit"] s_law_kinds) (m_range : mg "range" = none) (m_tuple : mg "tuple" = none)        (C_law_take : Cl P w K mg base 1 "_law_take" ["_law_state_here", "_law_many"] sp_law_take) : Cl P w K mg base 2 "_law_kinds" ["_law_state_here", "_law_limit"] sp_law_kinds := by
  refine d.clB sc_law_kinds (fun as L R Ex h => ?_) (fun f cdv A outer s H E hr => ?_)
  · obtain ⟨c, b, limit, rfl, _⟩ := h; rfl
  · have nd := sc_law_kinds.nd
    refine ⟨_,
  (ss_cons (s_set (i := 2) nd rfl (by first | exact .inl rfl | exact .inr rfl) (g_lstO ga_nil))
    (ss_cons (s_set (i := 3) nd rfl (by first | exact .inl rfl | exact .inr rfl) g_int)
    (ss_cons (s_for (vs := [4]) PassesOwn.never rfl (i_range1 (by rfl) m_range (ga_cons (g_op o_add g_int (g_cl (f := [0]) C_law_take hr (by rfl) (ga_cons (g_pv 0) (ga_cons g_int ga_nil)))) ga_nil)) (p_name (i := 4) nd rfl (by first | exact .inl rfl | exact .inr rfl))
     (ss_cons (s_set (i := 5) nd rfl (by first | exact .inl rfl | exact .inr rfl) (g_op o_add g_int (g_cl (f := [0]) C_law_take hr (by rfl) (ga_cons (g_pv 0) (ga_cons g_int ga_nil)))))
     (ss_cons (s_cut (s_if (t_cmp c_gt (g_op o_mul (g_pv 3) (g_pv 5)) (g_pv 1) (nomark _))
      (ss_one (s_set (i := 5) nd rfl (by first | exact .inl rfl | exact .inr rfl) g_int))
      ss_nil))
     (ss_one (s_if (t_cmp c_le (g_op o_mul (g_pv 3) (g_pv 5)) (g_pv 1) (nomark _))
      (ss_cons (s_expr (g_app (g_pv 2) (ga_cons (g_pv 5) ga_nil)))
      (ss_one (s_set (i := 3) nd rfl (by first | exact .inl rfl | exact .inr rfl) (g_op o_mul (g_pv 3) (g_pv 5)))))
      ss_nil)))))
    (ss_one (s_ret (g_callTy k_tupG (by rfl) m_tuple (by decide +kernel) (ga_cons (g_pv 2) ga_nil))))))), fun as L R Ex h hb => ?_⟩
    obtain ⟨c, b, limit, rfl, rfl, hr1, hr2, q⟩ := h
    refine ⟨ll rfl, [.own 0, .d (.int 5)], [stB c b], rfl, pass_sb, c, b, 5, rfl, rfl, by decide, by decide, fun x c1 h1 h2 => ?_⟩
    refine ⟨by omega, ?_⟩
    refine ⟨fun i s L => ∃ ks c x4 x5, s = [some (.own 0), some (.d (.int limit)), some (.own 1), some (.d (.int (prod ks))), x4, x5] ∧ L = [stB c b, .lst ((nts ks).map .d)] ∧ ks.length ≤ i ∧ (0 < i → 0 < ks.length) ∧ (∀ k ∈ ks, 2 ≤ k ∧ k ≤ 3) ∧ prod ks ≤ limit, ⟨[], c1, none, none, rfl, rfl, Nat.le_refl _, fun z => absurd z (Nat.lt_irrefl _), by simp, by show (1 : Int) ≤ limit; omega⟩, ?_⟩
    rintro i s L ⟨ks, c, x4, x5, rfl, rfl, hl, hp, hk, hv⟩ hi
    rw [rngA_len] at hi
    refine ⟨trivial, Nat.le_refl _, fun a ea => ?_, fun e => ?_⟩
    · have hp0 := prod_bd (ks := ks) fun k hk' => ⟨by have := hk k hk'; omega, (hk k hk').2⟩
      refine ⟨[.own 0, .d (.int 2)], [stB c b], rfl, pass_sb, c, b, 2, rfl, rfl, by decide, by decide, fun y c2 h3 h4 => ?_⟩
      have bd : ∀ z : Int, CMul (prod ks) z := fun z => .inl (by omega)
      refine ⟨fun s L => ∃ m : Int, s = [some (.own 0), some (.d (.int limit)), some (.own 1), some (.d (.int (prod ks))), some a, some (.d (.int m))] ∧ L = [stB c2 b, .lst ((nts ks).map .d)] ∧ 2 ≤ m ∧ m ≤ 3, ?_, ?_⟩
      · refine ⟨bd _, ⟨fun _ => ⟨2, rfl, rfl, by decide, by decide⟩, fun _ => ⟨2 + y, rfl, rfl, by omega, by omega⟩⟩⟩
      rintro s L ⟨m, rfl, rfl, hm1, hm2⟩
      refine ⟨bd _, ⟨fun h5 => ?_, fun h5 => ?_⟩⟩
      · have h5 := of_decide_eq_true h5
        refine ⟨?_, bd _, _, _, Wk.refl, Nat.le_refl _, ks ++ [m], c2, some a, some (.d (.int m)), ?_, ?_, by simpa using hl, fun _ => by simp, ?_, by rw [prod_snoc]; exact h5⟩
        · rw [List.length_map, nts_len]; exact Nat.lt_of_le_of_lt (show ks.length ≤ 10 by omega) (by decide)
        · rw [prod_snoc]; rfl
        · show [stB c2 b, AO.lst ((nts ks).map .d ++ [.d (.int m)])] = _
          simp [nts]
        · intro k hk'
          rcases List.mem_append.mp hk' with h | h
          · exact hk k h
          · simp at h; omega
      · have h5 := of_decide_eq_false h5
        refine ⟨_, _, Wk.refl, Nat.le_refl _, ks, c2, some a, some (.d (.int m)), rfl, rfl, by omega, fun _ => ?_, hk, hv⟩
        cases i with
        | zero =>
          have : ks = [] := List.length_eq_zero_iff.mp (by omega)
          subst this
          exfalso
          apply h5
          show (1 : Int) * m ≤ limit
          omega
        | succ i => exact hp (by omega)
    · rw [rngA_len] at e
      refine ⟨nts ks, .inl rfl, ?_⟩
      exact ⟨_, [stB c b], Wk.pop (L1 := [stB c b]) (by rfl) rfl, Nat.le_refl _, q ks c ⟨hp (by omega), by omega, hk, by omega⟩ (by omega) hv⟩
-- _law_rows: 0 _law_kinds_here, 1 _law_found, 2 _law_many, 3 _law_longer, 4 _law_row, 5 _law_kind
abbrev s_law_rows : Stmt := topS 41
theorem sc_law_rows : FnScope ["_law_kinds_here", "_law_found", "_law_many", "_law_longer", "_law_row", "_law_kind"] ["_law_kinds_here"] (defScope s_law_rows) := ⟨rfl, rfl, rfl, by decide +kernel, rfl, by decide +kernel, by decide +kernel⟩
def sp_law_rows : ASp := fun as L R _ => ∃ ka ks, as = [ka] ∧ sdOf ka = some (nts ks) ∧ ks.length ≤ 6 ∧ (∀ k ∈ ks, 2 ≤ k ∧ k ≤ 3) ∧ R (.d (.list (rws (rowsR ks)))) L
theorem ok_law_rows (d : Df K mg "_law_rows" ["_law_kinds_here"] s_law_rows) (m_range : mg "range" = none)        : Cl P w K mg base 1 "_law_rows" ["_law_kinds_here"] sp_law_rows := by
  refine d.clB sc_law_rows (fun as L R Ex h => ?_) (fun f cdv A outer s H E hr => ?_)
  · obtain ⟨ka, ks, rfl, _⟩ := h; rfl
  · have nd := sc_law_rows.nd
    refine ⟨_,
  (ss_cons (s_set (i := 1) nd rfl (by first | exact .inl rfl | exact .inr rfl) (g_lstO (ga_cons (g_tup ga_nil) ga_nil)))
    (ss_cons (s_for (vs := [2]) PassesOwn.never rfl (i_seq (g_pv 0)) (p_name (i := 2) nd rfl (by first | exact .inl rfl | exact .inr rfl))
     (ss_cons (s_set (i := 3) nd rfl (by first | exact .inl rfl | exact .inr rfl) (g_lstO ga_nil))
     (ss_cons (s_for (vs := [4]) PassesOwn.never rfl (i_list (g_pv 1)) (p_name (i := 4) nd rfl (by first | exact .inl rfl | exact .inr rfl))
      (ss_one (s_expr (g_ext (g_pv 3) (ga_cons (g_lc rfl nd (i_range1 (by rfl) m_range (ga_cons (g_pv 2) ga_nil)) (blk_by (own := [("_law_kind", 5)]) (by rfl)) (fun _ _ _ _ _ => (p_name (i := 5) nd rfl (by first | exact .inl rfl | exact .inr rfl))) (fun _ _ _ _ _ => ts_nil) (fun _ _ _ _ _ => (g_op o_catT (g_pv 4) (g_tup (ga_cons (g_pv 5) ga_nil))))) ga_nil)))))
     (ss_one (s_set (i := 1) nd rfl (by first | exact .inl rfl | exact .inr rfl) (g_pv 3))))))
    (ss_one (s_ret (g_pv 1))))), fun as L R Ex h hb => ?_⟩
    obtain ⟨ka, ks, rfl, hk, hl, hm, q⟩ := h
    refine ⟨ll rfl, ll rfl, onO_of hk ?_⟩
    refine ⟨fun i s L' => ∃ P x2 x3 x4, Pre L P ∧ s = [some ka, some (.own P.length), x2, x3, x4, none] ∧ L' = P ++ [.lst ((rws ((ks.take i).foldl rowsS [[]])).map .d)], ⟨L, none, none, none, Pre.refl, rfl, rfl⟩, ?_⟩
    rintro i s L' ⟨P, x2, x3, x4, hP, rfl, rfl⟩ hi
    have hPl := hP.len
    refine ⟨trivial, by simp; omega, fun a ea => ?_, fun e => ?_⟩
    · obtain ⟨k, ek, rfl⟩ := nts_get ea
      have hkb := hm k (List.mem_of_getElem? ek)
      have rowsF_mem : ∀ {j : Nat} {r : List Int}, ((ks.take i).foldl rowsS [[]])[j]? = some r → r.length = (ks.take i).length := fun {j r} h => by
        rw [rowsR_fold] at h
        exact (rowsR_mem.mp (List.mem_of_getElem? h)).len
      generalize hrs : (ks.take i).foldl rowsS [[]] = rs at rowsF_mem ⊢
      have hS : rowsS rs k = (ks.take (i + 1)).foldl rowsS [[]] := by
        rw [List.take_add_one, ek, Option.toList_some, List.foldl_append, hrs]; rfl
      have hSl : (rowsS rs k).length ≤ 729 := by
        rw [hS]
        refine Nat.le_trans (rowsF_le _ _ fun x hx => (hm x (List.mem_of_mem_take hx)).2) ?_
        have h1 : (ks.take (i + 1)).length ≤ 6 := by rw [List.length_take]; omega
        have := Nat.pow_le_pow_right (show 0 < 3 by decide) h1
        simpa using this
      have part : ∀ j, (rowsS (rs.take j) k).length ≤ 729 := fun j => by
        refine Nat.le_trans ?_ hSl
        rw [rowsS_len, rowsS_len]
        exact Nat.mul_le_mul_right _ (by rw [List.length_take]; omega)
      have fnd : ∀ X : AO, ((P ++ [.lst ((rws rs).map .d)]) ++ [X])[P.length]? = some (.lst ((rws rs).map .d)) := fun X => by
        rw [List.getElem?_append_left (by simp)]; exact last_at
      refine ⟨ll rfl, onO_of (ls_own (fnd _)) ?_⟩
      refine ⟨fun j s L' => ∃ x4, s = [some ka, some (.own P.length), some (.d (.int k)), some (.own (P ++ [AO.lst ((rws rs).map .d)]).length), x4, none] ∧ L' = (P ++ [.lst ((rws rs).map .d)]) ++ [.lst ((rws (rowsS (rs.take j) k)).map .d)], ⟨x4, rfl, rfl⟩, ?_⟩
      rintro j s L' ⟨x4, rfl, rfl⟩ hj
      refine ⟨ls_own (fnd _), by simp, fun a eb => ?_, fun e => ?_⟩
      · obtain ⟨r, er, rfl⟩ := rws_get eb
        have hkn : k.toNat ≤ 3 := by omega
        refine onO_of (cel_own last_at) ⟨⟨by omega, by omega⟩, ?_⟩
        refine ⟨lcMap (rgI k.toNat) (fun x => .d (.int x)) (fun x => .tuple (nts (r ++ [x]))) (by simp [rngA, rgI]) trivial (Nat.le_refl _) (by rw [rgI_len]; exact le_line (by omega)) (fun i x hi Q hQ => ?_) ?_⟩
        · refine ⟨ll rfl, ?_, by simp, ?_⟩
          · have hr := rowsF_mem er
            show (nts r).length + 1 ≤ _
            rw [nts_len, hr]
            exact le_line (by rw [List.length_take]; omega)
          · have e : nts r ++ [D.int x] = nts (r ++ [x]) := by simp [nts]
            rw [e]; exact hQ
        · refine onO_of (cel_own last_at) ⟨?_, ?_⟩
          · have h1 := part j
            rw [List.length_map, rws_len, List.length_map, List.length_map, rgI_len]
            exact le_line (by omega)
          · refine ⟨_, _, Wk.refl, by simp, _, rfl, ?_⟩
            rw [last_set]
            have h2 : rowsS (rs.take (j + 1)) k = rowsS (rs.take j) k ++ (rgI k.toNat).map fun x => r ++ [x] := by
              rw [List.take_add_one, er]
              simp [rowsS]
            rw [h2]
            simp [rws, List.map_map, Function.comp_def]
      · refine ⟨_, _, Wk.refl, by simp; omega, P ++ [.lst ((rws rs).map .d)], _, _, _, hP.snoc, rfl, ?_⟩
        have e' : j = rs.length := by rw [e]; simp [rws]
        subst e'
        rw [List.take_length, hS]
    · have e' : i = ks.length := by rw [e]; simp [nts]
      subst e'
      rw [List.take_length, rowsR_fold]
      exact ⟨_, _, hP.frz hb, Nat.le_refl _, q⟩
-- _law_groups: 0 _law_state_here, 1 _law_kinds_here, 2 _law_limit, 3 _law_groups_here, 4 _law_k, 5 _law_bits, 6 _law_group, 7 _law_mark, 8 _law_size, 9 _law_met
abbrev s_law_groups : Stmt := topS 42
theorem sc_law_groups : FnScope ["_law_state_here", "_law_kinds_here", "_law_limit", "_law_groups_here", "_law_k", "_law_bits", "_law_group", "_law_mark", "_law_size", "_law_met"] ["_law_state_here", "_law_kinds_here", "_law_limit"] (defScope s_law_groups) := ⟨rfl, rfl, rfl, by decide +kernel, rfl, by decide +kernel, by decide +kernel⟩
def sp_law_groups : ASp := fun as L R _ => ∃ c b fr room, as = [.own 0, .d (.grp (nts fr)), .d (.int room)] ∧ L = [stB c b] ∧ FrOk fr ∧ fr.length ≤ 5 ∧ prod fr ≤ 32 ∧ prod fr ≤ room ∧ room ≤ 40 ∧ ∀ gs c', (GrsOk fr gs ∧ (((gs.map fun g => volR fr g).sum : Nat) : Int) ≤ room + 12) → R (.d (.list (gs.map fun g => D.grp (nts g)))) [stB c' b]
theorem ok_law_groups (d : Df K mg "_law_groups" ["_law_state_here", "_law_kinds_here", "_law_limit"] s_law_groups) (m_len : mg "len" = none) (m_range : mg "range" = none) (m_tuple : mg "tuple" = none)        (C_law_take : Cl P w K mg base 1 "_law_take" ["_law_state_here", "_law_many"] sp_law_take) (C_law_rows : Cl P w K mg base 1 "_law_rows" ["_law_kinds_here"] sp_law_rows) : Cl P w K mg base 2 "_law_groups" ["_law_state_here", "_law_kinds_here", "_law_limit"] sp_law_groups := by
  refine d.clB sc_law_groups (fun as L R Ex h => ?_) (fun f cdv A outer s H E hr => ?_)
  · obtain ⟨c, b, fr, room, rfl, _⟩ := h; rfl
  · have nd := sc_law_groups.nd
    refine ⟨_,
  (ss_cons (s_set (i := 3) nd rfl (by first | exact .inl rfl | exact .inr rfl) (g_lstO ga_nil))
    (ss_cons (s_for (vs := [4]) PassesOwn.never rfl (i_range1 (by rfl) m_range (ga_cons (g_op o_add g_int (g_cl (f := [0]) C_law_take hr (by rfl) (ga_cons (g_pv 0) (ga_cons g_int ga_nil)))) ga_nil)) (p_name (i := 4) nd rfl (by first | exact .inl rfl | exact .inr rfl))
     (ss_cons (s_set (i := 5) nd rfl (by first | exact .inl rfl | exact .inr rfl) (g_op o_add g_int (g_cl (f := [0]) C_law_take hr (by rfl) (ga_cons (g_pv 0) (ga_cons (g_op o_sub (g_op o_shl g_int (g_callB k_len (by rfl) m_len PySem.boot_len (ga_cons (g_pv 1) ga_nil))) g_int) ga_nil)))))
     (ss_cons (s_set (i := 6) nd rfl (by first | exact .inl rfl | exact .inr rfl) (g_callTy k_tupG (by rfl) m_tuple (by decide +kernel) (ga_cons (g_lc rfl nd (i_range1 (by rfl) m_range (ga_cons (g_callB k_len (by rfl) m_len PySem.boot_len (ga_cons (g_pv 1) ga_nil)) ga_nil)) (blk_by (own := [("_law_mark", 7)]) (by rfl)) (fun _ _ _ _ _ => (p_name (i := 7) nd rfl (by first | exact .inl rfl | exact .inr rfl))) (fun _ _ _ _ _ => (ts_one (t_cmp c_eqI (g_op o_and (g_op o_shr (g_pv 5) (g_pv 7)) g_int) g_int (nomark _)))) (fun _ _ _ _ _ => (g_pv 7))) ga_nil)))
     (ss_cons (s_set (i := 8) nd rfl (by first | exact .inl rfl | exact .inr rfl) (g_callB k_len (by rfl) m_len PySem.boot_len (ga_cons (g_clA C_law_rows hr (by rfl) (ga_cons (g_lc rfl nd (i_tup (g_pv 6)) (blk_by (own := [("_law_mark", 7)]) (by rfl)) (fun _ _ _ _ _ => (p_name (i := 7) nd rfl (by first | exact .inl rfl | exact .inr rfl))) (fun _ _ _ _ _ => ts_nil) (fun _ _ _ _ _ => (g_ix (g_pv 1) (g_pv 7)))) ga_nil)) ga_nil)))
     (ss_one (s_if (t_cmp c_le (g_pv 8) (g_pv 2) (nomark _))
      (ss_cons (s_expr (g_app (g_pv 3) (ga_cons (g_pv 6) ga_nil)))
      (ss_one (s_set (i := 2) nd rfl (by first | exact .inl rfl | exact .inr rfl) (g_op o_sub (g_pv 2) (g_pv 8)))))
      ss_nil))))))
    (ss_cons (s_set (i := 9) nd rfl (by first | exact .inl rfl | exact .inr rfl) (g_lc rfl nd (i_range1 (by rfl) m_range (ga_cons (g_callB k_len (by rfl) m_len PySem.boot_len (ga_cons (g_pv 1) ga_nil)) ga_nil)) (blk_by (own := [("_law_mark", 7)]) (by rfl)) (fun _ _ _ _ _ => (p_name (i := 7) nd rfl (by first | exact .inl rfl | exact .inr rfl))) (fun _ _ _ _ _ => (ts_one (t_cmp (c_neD hr.units) (g_lc rfl nd (i_list (g_pv 3)) (blk_by (own := [("_law_group", 6)]) (by rfl)) (fun _ _ _ _ _ => (p_name (i := 6) nd rfl (by first | exact .inl rfl | exact .inr rfl))) (fun _ _ _ _ _ => (ts_one (t_cmp c_inS (g_pv 7) (g_pv 6) (by rfl)))) (fun _ _ _ _ _ => (g_pv 6))) (g_lst ga_nil) (nomark _)))) (fun _ _ _ _ _ => (g_pv 7))))
    (ss_one (s_ret (g_op o_catL (g_pv 3) (g_lc rfl nd (i_range1 (by rfl) m_range (ga_cons (g_callB k_len (by rfl) m_len PySem.boot_len (ga_cons (g_pv 1) ga_nil)) ga_nil)) (blk_by (own := [("_law_mark", 7)]) (by rfl)) (fun _ _ _ _ _ => (p_name (i := 7) nd rfl (by first | exact .inl rfl | exact .inr rfl))) (fun _ _ _ _ _ => (ts_one (t_cmp c_notInS (g_pv 7) (g_pv 9) (by rfl)))) (fun _ _ _ _ _ => (g_tupS (ga_cons (g_pv 7) ga_nil)))))))))), fun as L R Ex h hb => ?_⟩
    obtain ⟨c, b, fr, room, rfl, rfl, ok, n5, hp32, hr1, hr2, q⟩ := h
    have n0 := ok.pos
    have el : ((nts fr).map GL.A.d).length = fr.length := by simp [nts]
    have hpow : (2 : Int) ≤ 2 ^ fr.length ∧ (2 : Int) ^ fr.length ≤ 32 := by
      rcases (show fr.length = 1 ∨ fr.length = 2 ∨ fr.length = 3 ∨ fr.length = 4 ∨ fr.length = 5 by omega) with e | e | e | e | e <;> rw [e] <;> decide
    have hp1 := prod_bd (ks := fr) fun k hk => ⟨by have := ok.kinds k hk; omega, (ok.kinds k hk).2⟩
    refine ⟨ll rfl, [.own 0, .d (.int 4)], [stB c b], rfl, pass_sb, c, b, 4, rfl, rfl, by decide, by decide, fun x c1 h1 h2 => ?_⟩
    refine ⟨by omega, ?_⟩
    refine ⟨fun i s L => ∃ gs c room' x4 x5 x6 x8, s = [some (.own 0), some (.d (.grp (nts fr))), some (.d (.int room')), some (.own 1), x4, x5, x6, none, x8, none] ∧ L = [stB c b, .lst ((gs.map fun g => D.grp (nts g)).map .d)] ∧ gs.length ≤ i ∧ (∀ g ∈ gs, GrOk fr.length g) ∧ 0 ≤ room' ∧ (((gs.map fun g => volR fr g).sum : Nat) : Int) + room' = room ∧ (0 < i → 0 < gs.length), ⟨[], c1, room, none, none, none, none, rfl, rfl, Nat.le_refl _, by simp, by omega, by simp, fun z => absurd z (Nat.lt_irrefl _)⟩, ?_⟩
    rintro i s L ⟨gs, c, room', x4, x5, x6, x8, rfl, rfl, hgl, hg, hr0, hrs, hne⟩ hi
    rw [rngA_len] at hi
    refine ⟨trivial, Nat.le_refl _, fun a ea => ?_, fun e => ?_⟩
    · have hi2 : i < (1 + x).toNat := by
        have := (List.getElem?_eq_some_iff.mp ea).1
        rwa [rngA_len] at this
      refine ⟨⟨by omega, by rw [el]; omega, by decide⟩, [.own 0, .d (.int (1 * 2 ^ (((nts fr).map GL.A.d).length : Int).toNat - 1))], [stB c b], rfl, pass_sb, c, b, _, rfl, rfl, ?_, ?_, fun bits c2 h3 h4 => ?_⟩
      · rw [el, Int.toNat_natCast]; omega
      · rw [el, Int.toNat_natCast]; omega
      rw [el, Int.toNat_natCast] at h4
      refine ⟨by rw [el]; omega, ?_⟩
      refine ⟨lcFilt (rgI fr.length) (fun x => .d (.int x)) (fun x => decide (Builtin.bitAnd ((1 + bits) / 2 ^ x.toNat) 1 = 1)) (fun x => .int x) (by rw [el]; simp [rngA, rgI]) trivial (Nat.le_refl _) (by rw [rgI_len]; exact le_line (by omega)) (fun i x hi Qy Qn hy hn => ?_) ?_⟩
      · exact ⟨(rgI_mem.mp (List.mem_of_getElem? hi)).1, ⟨fun z => hy z, fun z => hn z⟩⟩
      have hsub : (bitG fr.length (1 + bits)).Sublist (rgI fr.length) := List.filter_sublist
      have hb := bit1 (n := fr.length) (b := 1 + bits) (by omega) (by omega) (by omega)
      have e1 : ((rgI fr.length).filter (fun x => decide (Builtin.bitAnd ((1 + bits) / 2 ^ x.toNat) 1 = 1))).map (fun x => D.int x) = nts (bitG fr.length (1 + bits)) := rfl
      rw [e1]
      generalize bitG fr.length (1 + bits) = g at hb hsub ⊢
      refine ⟨nts g, .inl rfl, ?_⟩
      have hgn := hb.len
      refine ⟨lcMap g (fun m => .d (.int m)) (fun m => .int (fr.getD m.toNat 0)) (nts_it g) trivial (Nat.le_refl _) (le_line (by omega)) (fun i m hi Q hQ => ?_) ?_⟩
      · have := hb.mem m (List.mem_of_getElem? hi)
        exact ⟨_, item_int' (a := .d (.grp (nts fr))) (ns := fr) rfl this.1 this.2, hQ⟩
      have e2 : (g.map fun m => D.int (fr.getD m.toNat 0)) = nts (kindsR fr g) := by simp [nts, kindsR, List.map_map]
      rw [e2]
      have hkb := kindsR_bd ok.kinds hb.mem
      refine ⟨_, kindsR fr g, rfl, rfl, by rw [kindsR_len]; omega, hkb, ?_⟩
      have ev : ((rws (rowsR (kindsR fr g))).map GL.A.d).length = volR fr g := by simp [rws, volR]
      have vle := vol_le ok hb hsub
      refine ⟨fun h5 => ?_, fun h5 => ?_⟩
      · have h5 := of_decide_eq_true h5
        rw [ev] at h5
        refine ⟨?_, ?_⟩
        · rw [List.length_map, List.length_map]; exact Nat.lt_of_le_of_lt (show gs.length ≤ 10 by omega) (by decide)
        refine ⟨_, _, Wk.refl, Nat.le_refl _, gs ++ [g], c2, room' - (volR fr g : Nat), some a, some (.d (.int (1 + bits))), some (.d (.grp (nts g))), some (.d (.int (volR fr g : Nat))), ?_, ?_, by simpa using hgl, fun g' hg' => ?_, by omega, ?_, fun _ => by simp⟩
        · rw [ev]; rfl
        · show [stB c2 b, AO.lst ((gs.map fun g => D.grp (nts g)).map .d ++ [.d (.grp (nts g))])] = _
          simp
        · rcases List.mem_append.mp hg' with h | h
          · exact hg g' h
          · simp at h; subst h; exact hb
        · rw [List.map_append, List.sum_append]
          simp only [List.map_cons, List.map_nil, List.sum_cons, List.sum_nil, Nat.add_zero]
          omega
      · have h5 := of_decide_eq_false h5
        rw [ev] at h5
        refine ⟨_, _, Wk.refl, Nat.le_refl _, gs, c2, room', some a, some (.d (.int (1 + bits))), some (.d (.grp (nts g))), some (.d (.int (volR fr g : Nat))), ?_, rfl, by omega, hg, hr0, hrs, fun _ => ?_⟩
        · rw [ev]; rfl
        · cases i with
          | zero =>
            have : gs = [] := List.length_eq_zero_iff.mp (by omega)
            subst this
            simp at hrs
            omega
          | succ i => exact hne (by omega)
    rw [rngA_len] at e
    -- the marks met
    refine ⟨by rw [el]; omega, ?_⟩
    let met : Int → Bool := fun m => !decide ((gs.filter fun g => decide (m ∈ g)) = [])
    refine ⟨lcFilt (rgI fr.length) (fun x => .d (.int x)) met (fun x => .int x) (by rw [el]; simp [rngA, rgI]) trivial (Nat.le_refl _) (by rw [rgI_len]; exact le_line (by omega)) (fun i m hi Qy Qn hy hn => ?_) ?_⟩
    · refine ⟨lcFilt gs (fun g => .d (.grp (nts g))) (fun g => decide (m ∈ g)) (fun g => .grp (nts g)) (by simp [List.map_map, Function.comp_def]) rfl (Nat.le_refl _) (le_line (by omega)) (fun i g hi Qy Qn hy hn => ?_) ?_⟩
      · exact ⟨g, rfl, ⟨fun z => hy z, fun z => hn z⟩⟩
      · have shp : Sh 2 (.list ((gs.filter fun g => decide (m ∈ g)).map fun g => D.grp (nts g))) := Sh.list fun d hd => by
          obtain ⟨g, _, rfl⟩ := List.mem_map.mp hd
          exact Sh.ntsG
        refine ⟨ll rfl, [], rfl, _, _, .d, .d, shp.ok, (Sh.list (k := 0) (ds := []) (by simp)).ok, ?_⟩
        rw [eqv_nilL]
        have e3 : (!decide (((gs.filter fun g => decide (m ∈ g)).map fun g => D.grp (nts g)) = [])) = met m := by
          show _ = (!decide ((gs.filter fun g => decide (m ∈ g)) = []))
          simp only [List.map_eq_nil_iff]
        rw [e3]
        exact ⟨fun z => hy z, fun z => hn z⟩
    have em : ((rgI fr.length).filter met).map (fun x => D.int x) = nts ((rgI fr.length).filter met) := rfl
    rw [em]
    refine ⟨by rw [el]; omega, ?_⟩
    refine ⟨lcFilt (rgI fr.length) (fun x => .d (.int x)) (fun m => !decide (m ∈ (rgI fr.length).filter met)) (fun x => .grp (nts [x])) (by rw [el]; simp [rngA, rgI]) trivial (Nat.le_refl _) (by rw [rgI_len]; exact le_line (by omega)) (fun i m hi Qy Qn hy hn => ?_) ?_⟩
    · refine ⟨_, rfl, ⟨fun z => ?_, fun z => hn z⟩⟩
      have := hy z
      exact ⟨ll rfl, _, rfl, this⟩
    generalize hleft : (rgI fr.length).filter (fun m => !decide (m ∈ (rgI fr.length).filter met)) = left
    have hls : left.Sublist (rgI fr.length) := by rw [← hleft]; exact List.filter_sublist
    have hin : ∀ m : Int, 0 ≤ m → m < fr.length → (m ∉ left ↔ ∃ g ∈ gs, m ∈ g) := fun m h0 h1 => by
      have hr : m ∈ rgI fr.length := rgI_mem.mpr ⟨h0, h1⟩
      have e1 : m ∈ left ↔ met m = false := by
        rw [← hleft, List.mem_filter]
        simp [hr, List.mem_filter]
      rw [e1]
      show ¬ (!decide ((gs.filter fun g => decide (m ∈ g)) = [])) = false ↔ _
      simp [List.filter_eq_nil_iff]
    have gok := grs_end2 ok n5 hg (hne (by omega)) (by omega) (by omega) hls hin
    refine ⟨?_, (gs ++ left.map fun m => [m]).map (fun g => D.grp (nts g)), by simp [List.map_map, Function.comp_def], ?_⟩
    · have := gok.eight
      rw [List.length_append, List.length_map] at this
      simp only [List.length_map]
      exact le_line (by omega)
    exact ⟨_, [stB c b], Wk.pop (L1 := [stB c b]) (by rfl) rfl, Nat.le_refl _, q _ c ⟨gok, by have := grs_sum2 ok n5 hg (hne (by omega)) hls hin; omega⟩⟩
-- _law_sums: 0 _law_kinds_here, 1 _law_group, 2 _law_numbers_here, 3 _law_found, 4 _law_row, 5 _law_mark, 6 _law_number, 7 _law_key
abbrev s_law_sums : Stmt := topS 43
theorem sc_law_sums : FnScope ["_law_kinds_here", "_law_group", "_law_numbers_here", "_law_found", "_law_row", "_law_mark", "_law_number", "_law_key"] ["_law_kinds_here", "_law_group", "_law_numbers_here"] (defScope s_law_sums) := ⟨rfl, rfl, rfl, by decide +kernel, rfl, by decide +kernel, by decide +kernel⟩
def sp_law_sums : ASp := fun as L R _ => ∃ fr g na xs, as = [.d (.grp (nts fr)), .d (.grp (nts g)), na] ∧ FrOk fr ∧ (∀ m ∈ g, 0 ≤ m ∧ m < (fr.length : Int)) ∧ g.length ≤ 6 ∧ (∀ J, lsOf (L ++ J) na = some ((nts xs).map .d)) ∧ xs.length = (rowsR fr).length ∧ R (.own L.length) (L ++ [.lst ((nts (smsG fr xs g)).map .d)])
theorem ok_law_sums (d : Df K mg "_law_sums" ["_law_kinds_here", "_law_group", "_law_numbers_here"] s_law_sums) (m_list : mg "list" = none) (m_tuple : mg "tuple" = none) (m_zip : mg "zip" = none)        (C_law_rows : Cl P w K mg base 1 "_law_rows" ["_law_kinds_here"] sp_law_rows) : Cl P w K mg base 2 "_law_sums" ["_law_kinds_here", "_law_group", "_law_numbers_here"] sp_law_sums := by
  refine d.clB sc_law_sums (fun as L R Ex h => ?_) (fun f cdv A outer s H E hr => ?_)
  · obtain ⟨fr, g, na, xs, rfl, _⟩ := h; rfl
  · have nd := sc_law_sums.nd
    have hu := hu_of hr
    refine ⟨_,
  (ss_cons (s_set (i := 3) nd rfl (by first | exact .inl rfl | exact .inr rfl) g_dnT)
    (ss_cons (s_for (vs := [4]) PassesOwn.never rfl (i_list (g_clA C_law_rows hr (by rfl) (ga_cons (g_lc rfl nd (i_tup (g_pv 1)) (blk_by (own := [("_law_mark", 5)]) (by rfl)) (fun _ _ _ _ _ => (p_name (i := 5) nd rfl (by first | exact .inl rfl | exact .inr rfl))) (fun _ _ _ _ _ => ts_nil) (fun _ _ _ _ _ => (g_ix (g_pv 0) (g_pv 5)))) ga_nil))) (p_name (i := 4) nd rfl (by first | exact .inl rfl | exact .inr rfl))
     (ss_one (s_dpT hu (g_pv 3) (g_pv 4) g_int rfl)))
    (ss_cons (s_for (vs := [4, 6]) PassesOwn.never rfl (i_z2 true true (by rfl) m_zip (ga_cons (g_clA C_law_rows hr (by rfl) (ga_cons (g_pv 0) ga_nil)) (ga_cons (g_pv 2) ga_nil))) (p_tup (n := 2) rfl (ps_cons (p_name (i := 4) nd rfl (by first | exact .inl rfl | exact .inr rfl)) (ps_cons (p_name (i := 6) nd rfl (by first | exact .inl rfl | exact .inr rfl)) ps_nil)))
     (ss_cons (s_set (i := 7) nd rfl (by first | exact .inl rfl | exact .inr rfl) (g_callTy k_tupW (by rfl) m_tuple (by decide +kernel) (ga_cons (g_lc rfl nd (i_tup (g_pv 1)) (blk_by (own := [("_law_mark", 5)]) (by rfl)) (fun _ _ _ _ _ => (p_name (i := 5) nd rfl (by first | exact .inl rfl | exact .inr rfl))) (fun _ _ _ _ _ => ts_nil) (fun _ _ _ _ _ => (g_ix (g_pv 4) (g_pv 5)))) ga_nil)))
     (ss_one (s_dpT hu (g_pv 3) (g_pv 7) (g_op o_add (g_dgT hu (g_pv 3) (g_pv 7)) (g_pv 6)) rfl))))
    (ss_one (s_ret (g_lvals rfl (by rfl) m_list (g_pv 3))))))), fun as L R Ex h hb => ?_⟩
    obtain ⟨fr, g, na, xs, rfl, ok, hgm, h6, hna, hxl, q⟩ := h
    have hkb := kindsR_bd ok.kinds hgm
    have hdl := rowsR_le hkb (by rw [kindsR_len]; exact h6)
    have hd := rowsR_nodup (kindsR fr g)
    have hmem : ∀ r ∈ rowsR fr, seenF (rgI fr.length) r g ∈ rowsR (kindsR fr g) := fun r hr => see_mem (t := (g, [])) hgm hr
    have hrl := all_n ok
    unfold smsG at q
    refine ⟨lcMap g (fun m => .d (.int m)) (fun m => .int (fr.getD m.toNat 0)) (nts_it g) trivial (Nat.le_refl _) (le_line (by omega)) (fun i m hi Q hQ => ?_) ?_⟩
    · have := hgm m (List.mem_of_getElem? hi)
      exact ⟨_, item_int' (a := .d (.grp (nts fr))) (ns := fr) rfl this.1 this.2, hQ⟩
    rw [show (g.map fun m => D.int (fr.getD m.toNat 0)) = nts (kindsR fr g) by simp [nts, kindsR, List.map_map]]
    refine ⟨_, kindsR fr g, rfl, rfl, by rw [kindsR_len]; omega, hkb, ?_⟩
    generalize hds : rowsR (kindsR fr g) = ds at q hmem hdl hd
    refine ⟨fun i s L' => ∃ x4, s = [some (.d (.grp (nts fr))), some (.d (.grp (nts g))), some na, some (.own L.length), x4, none, none, none] ∧ L' = L ++ [.dT (kvF (ds.take i) fun _ => 0)], ⟨_, rfl, rfl⟩, ?_⟩
    rintro i s L' ⟨x4, rfl, rfl⟩ hi
    refine ⟨rfl, by simp, fun a ea => ?_, fun e => ?_⟩
    · obtain ⟨r, er, rfl⟩ := rws_get ea
      have hi2 := (List.getElem?_eq_some_iff.mp er).1
      have ht : ds.take (i + 1) = ds.take i ++ [r] := by rw [List.take_add_one, er]; rfl
      have hn : r ∉ ds.take i := fun z => by
        have := List.take_append_drop (i + 1) ds
        rw [← this, ht] at hd
        rw [List.append_assoc, List.nodup_append] at hd
        exact hd.2.2 r z r (by simp) rfl
      refine ⟨_, r, last_at, rfl, by rw [kv_len, List.length_take]; exact Nat.lt_of_le_of_lt (show _ ≤ 1000 by omega) (by decide), ?_⟩
      refine ⟨_, _, Wk.refl, by simp, some (.d (.tuple (nts r))), rfl, ?_⟩
      rw [last_set, ht, kv_new (f := fun _ => 0) hn]
    have e' : i = ds.length := by rw [e]; simp [rws]
    subst e'
    rw [List.take_length]
    refine ⟨_, fr, rfl, rfl, ok.six, ok.kinds, ?_⟩
    refine onO_of (hna _) ?_
    refine ⟨fun i s L' => ∃ x4 x6 x7, s = [some (.d (.grp (nts fr))), some (.d (.grp (nts g))), some na, some (.own L.length), x4, none, x6, x7] ∧ L' = L ++ [.dT (kvF ds fun r => sumAt (rgI fr.length) g ((rowsR fr).take i) (xs.take i) r)], ⟨x4, none, none, rfl, rfl⟩, ?_⟩
    rintro i s L' ⟨x4, x6, x7, rfl, rfl⟩ hi
    refine ⟨⟨rfl, hna _⟩, by simp, fun a ea => ?_, fun e => ?_⟩
    · obtain ⟨b1, b2, e1, e2, rfl⟩ := zipA_el ea
      obtain ⟨x, ex, rfl⟩ := rws_get e1
      obtain ⟨c, ec, rfl⟩ := nts_get e2
      have hx := List.mem_of_getElem? ex
      have hxlen : x.length = fr.length := (rowsR_mem.mp hx).len
      refine ⟨rfl, rfl, ?_⟩
      refine ⟨lcMap g (fun m => .d (.int m)) (fun m => .int (x.getD m.toNat 0)) (nts_it g) trivial (Nat.le_refl _) (le_line (by omega)) (fun i m hi Q hQ => ?_) ?_⟩
      · have := hgm m (List.mem_of_getElem? hi)
        exact ⟨_, item_int' (a := .d (.tuple (nts x))) (ns := x) rfl this.1 (by omega), hQ⟩
      rw [show (g.map fun m => D.int (x.getD m.toNat 0)) = nts (seenF (rgI fr.length) x g) by rw [see_map hgm]; simp [nts, List.map_map]]
      refine ⟨_, rfl, ?_⟩
      have hm := hmem x hx
      refine ⟨_, _, _, last_at, rfl, kv_val hm, ?_⟩
      refine ⟨_, _, last_at, rfl, by rw [kv_len]; exact Nat.lt_of_le_of_lt (show _ ≤ 1000 by omega) (by decide), ?_⟩
      refine ⟨_, _, Wk.refl, by simp, _, _, _, rfl, ?_⟩
      rw [last_set, kv_upd (g := fun r => sumAt (rgI fr.length) g ((rowsR fr).take (i + 1)) (xs.take (i + 1)) r) hm (by rw [sumAt_take ex ec, if_pos rfl]) fun t ht => by rw [sumAt_take ex ec, if_neg (fun z => ht z.symm), Int.add_zero]]
    have e' : i = (rowsR fr).length := by rw [e, zipA_len]; simp; omega
    subst e'
    have e4 : ∀ r, sumAt (rgI fr.length) g ((rowsR fr).take (rowsR fr).length) (xs.take (rowsR fr).length) r = sumAt (rgI fr.length) g (rowsR fr) xs r := fun r => by rw [List.take_length, ← hxl, List.take_length]
    simp only [e4]
    refine ⟨_, last_at, ?_⟩
    rw [kv_snd]
    refine ⟨_, _, Wk.lastP (L := L) (J := [.dT _]) hb (bel_ds _), by simp, q⟩
-- _law_numbers: 0 _law_state_here, 1 _law_many, 2 _law_found, 3 _law_k, 4 _law_spot
abbrev s_law_numbers : Stmt := topS 44
theorem sc_law_numbers : FnScope ["_law_state_here", "_law_many", "_law_found", "_law_k", "_law_spot"] ["_law_state_here", "_law_many"] (defScope s_law_numbers) := ⟨rfl, rfl, rfl, by decide +kernel, rfl, by decide +kernel, by decide +kernel⟩
def sp_law_numbers : ASp := fun as L R _ => ∃ c b n, as = [.own 0, .d (.int n)] ∧ L = [stB c b] ∧ 1 ≤ n ∧ n ≤ 64 ∧ ∀ xs c', (xs.length : Int) = n → (∀ x ∈ xs, 0 ≤ x ∧ x ≤ 6) → 1 ≤ xs.sum → R (.d (.list (nts xs))) [stB c' b]
theorem ok_law_numbers (d : Df K mg "_law_numbers" ["_law_state_here", "_law_many"] s_law_numbers) (m_range : mg "range" = none)        (C_law_take : Cl P w K mg base 1 "_law_take" ["_law_state_here", "_law_many"] sp_law_take) : Cl P w K mg base 2 "_law_numbers" ["_law_state_here", "_law_many"] sp_law_numbers := by
  refine d.clB sc_law_numbers (fun as L R Ex h => ?_) (fun f cdv A outer s H E hr => ?_)
  · obtain ⟨c, b, n, rfl, _⟩ := h; rfl
  · have nd := sc_law_numbers.nd
    refine ⟨_,
  (ss_cons (s_set (i := 2) nd rfl (by first | exact .inl rfl | exact .inr rfl) (g_lstO ga_nil))
    (ss_cons (s_for (vs := [3]) PassesOwn.never rfl (i_range1 (by rfl) m_range (ga_cons (g_pv 1) ga_nil)) (p_name (i := 3) nd rfl (by first | exact .inl rfl | exact .inr rfl))
     (ss_one (s_expr (g_app (g_pv 2) (ga_cons (g_ix (g_lst (ga_cons g_int (ga_cons g_int (ga_cons g_int (ga_cons (g_cl (f := [0]) C_law_take hr (by rfl) (ga_cons (g_pv 0) (ga_cons g_int ga_nil))) ga_nil))))) (g_cl (f := [0]) C_law_take hr (by rfl) (ga_cons (g_pv 0) (ga_cons g_int ga_nil)))) ga_nil)))))
    (ss_cons (s_set (i := 4) nd rfl (by first | exact .inl rfl | exact .inr rfl) (g_cl (f := [0]) C_law_take hr (by rfl) (ga_cons (g_pv 0) (ga_cons (g_pv 1) ga_nil))))
    (ss_cons (s_setIx (g_op o_add (g_ix (g_pv 2) (g_pv 4)) g_int) (g_pv 2) (g_pv 4))
    (ss_one (s_ret (g_pv 2))))))), fun as L R Ex h hb => ?_⟩
    obtain ⟨c, b, n, rfl, rfl, hn1, hn2, q⟩ := h
    refine ⟨ll rfl, by omega, ?_⟩
    refine ⟨fun i s L => ∃ xs c x3, s = [some (.own 0), some (.d (.int n)), some (.own 1), x3, none] ∧ L = [stB c b, .lst ((nts xs).map .d)] ∧ xs.length = i ∧ ∀ x ∈ xs, 0 ≤ x ∧ x ≤ 5, ⟨[], c, none, rfl, rfl, rfl, by simp⟩, ?_⟩
    rintro i s L ⟨xs, c, x3, rfl, rfl, hl, hk⟩ hi
    rw [rngA_len] at hi
    refine ⟨trivial, Nat.le_refl _, fun a ea => ?_, fun e => ?_⟩
    · refine ⟨[.own 0, .d (.int 6)], [stB c b], rfl, pass_sb, c, b, 6, rfl, rfl, by decide, by decide, fun y c1 h1 h2 => ?_⟩
      refine ⟨ll rfl, _, rfl, [.own 0, .d (.int 4)], [stB c1 b], rfl, pass_sb, c1, b, 4, rfl, rfl, by decide, by decide, fun z c2 h3 h4 => ?_⟩
      obtain ⟨v, hv, hv1, hv2⟩ : ∃ v : Int, (∀ L, itemA L (.d (.list [.int 0, .int 1, .int 0, .int y])) (.d (.int z)) = some (.d (.int v))) ∧ 0 ≤ v ∧ v ≤ 5 := by
        have : z = 0 ∨ z = 1 ∨ z = 2 ∨ z = 3 := by omega
        rcases this with rfl | rfl | rfl | rfl
        · exact ⟨0, fun L => rfl, by decide, by decide⟩
        · exact ⟨1, fun L => rfl, by decide, by decide⟩
        · exact ⟨0, fun L => rfl, by decide, by decide⟩
        · exact ⟨y, fun L => rfl, h1, by omega⟩
      refine ⟨_, hv _, ?_, ?_⟩
      · rw [List.length_map, nts_len]; exact Nat.lt_of_le_of_lt (show xs.length ≤ 100 by omega) (by decide)
      refine ⟨_, _, Wk.refl, Nat.le_refl _, xs ++ [v], c2, some a, rfl, (by show [stB c2 b, AO.lst ((nts xs).map .d ++ [.d (.int v)])] = _; simp [nts]), by simp [hl], fun x hx => ?_⟩
      rcases List.mem_append.mp hx with h | h
      · exact hk x h
      · simp at h; omega
    rw [rngA_len] at e
    refine ⟨[.own 0, .d (.int n)], [stB c b], rfl, pass_sb, c, b, n, rfl, rfl, by omega, by omega, fun y c2 h3 h4 => ?_⟩
    obtain ⟨j, rfl⟩ : ∃ j : Nat, y = j := ⟨y.toNat, by omega⟩
    have hj : j < xs.length := by omega
    refine ⟨.d (.int (xs.getD j 0)), item_int (a := .own 1) (ns := xs) rfl (getD_some hj), (nts xs).map .d, j, rfl, ?_, ?_⟩
    · rw [List.length_map, nts_len]
      unfold ixN; simp [hj]
    have e2 : ((nts xs).map GL.A.d).set j (.d (.int (xs.getD j 0 + 1))) = (nts (xs.set j (xs.getD j 0 + 1))).map .d := by simp [nts, List.map_set]
    show (fnEnds 1 R).rt (.own 1) [stB c2 b, .lst (((nts xs).map GL.A.d).set j (.d (.int (xs.getD j 0 + 1))))]
    rw [e2]
    have h0 := hk (xs.getD j 0) (List.mem_of_getElem? (getD_some hj))
    have hset : ∀ x ∈ xs.set j (xs.getD j 0 + 1), 0 ≤ x ∧ x ≤ 6 := fun x hx => by
      rcases List.mem_or_eq_of_mem_set hx with h | h
      · have := hk x h; omega
      · omega
    refine ⟨.d (.list (nts (xs.set j (xs.getD j 0 + 1)))), [stB c2 b], Wk.frz (L1 := [stB c2 b]) (s := [some (.own 1)]) rfl, Nat.le_refl _, q _ c2 (by rw [List.length_set]; omega) hset ?_⟩
    have h5 := (sum_all fun x hx => (hset x hx).1).2 _ (List.mem_set hj (xs.getD j 0 + 1))
    omega
-- _law_any_counts: 0 _law_state_here, 1 _law_many, 2 _law_full, 3 _law_found, 4 _law_k, 5 _law_spot
abbrev s_law_any_counts : Stmt := topS 45
theorem sc_law_any_counts : FnScope ["_law_state_here", "_law_many", "_law_full", "_law_found", "_law_k", "_law_spot"] ["_law_state_here", "_law_many", "_law_full"] (defScope s_law_any_counts) := ⟨rfl, rfl, rfl, by decide +kernel, rfl, by decide +kernel, by decide +kernel⟩
def sp_law_any_counts : ASp := fun as L R _ => ∃ c b n full, as = [.own 0, .d (.int n), .d (.int full)] ∧ L = [stB c b] ∧ 1 ≤ n ∧ n ≤ 64 ∧ 1 ≤ full ∧ full ≤ 1000 ∧ ∀ xs c', (xs.length : Int) = n → (∀ x ∈ xs, 0 ≤ x) → xs.sum = full → R (.d (.list (nts xs))) [stB c' b]
theorem ok_law_any_counts (d : Df K mg "_law_any_counts" ["_law_state_here", "_law_many", "_law_full"] s_law_any_counts) (m_range : mg "range" = none)        (C_law_take : Cl P w K mg base 1 "_law_take" ["_law_state_here", "_law_many"] sp_law_take) : Cl P w K mg base 2 "_law_any_counts" ["_law_state_here", "_law_many", "_law_full"] sp_law_any_counts := by
  refine d.clB sc_law_any_counts (fun as L R Ex h => ?_) (fun f cdv A outer s H E hr => ?_)
  · obtain ⟨c, b, n, full, rfl, _⟩ := h; rfl
  · have nd := sc_law_any_counts.nd
    refine ⟨_,
  (ss_cons (s_set (i := 3) nd rfl (by first | exact .inl rfl | exact .inr rfl) (g_op o_repLO (g_lst (ga_cons g_int ga_nil)) (g_pv 1)))
    (ss_cons (s_for (vs := [4]) PassesOwn.never rfl (i_range1 (by rfl) m_range (ga_cons (g_pv 2) ga_nil)) (p_name (i := 4) nd rfl (by first | exact .inl rfl | exact .inr rfl))
     (ss_cons (s_set (i := 5) nd rfl (by first | exact .inl rfl | exact .inr rfl) (g_cl (f := [0]) C_law_take hr (by rfl) (ga_cons (g_pv 0) (ga_cons (g_pv 1) ga_nil))))
     (ss_one (s_setIx (g_op o_add (g_ix (g_pv 3) (g_pv 5)) g_int) (g_pv 3) (g_pv 5)))))
    (ss_one (s_ret (g_pv 3))))), fun as L R Ex h hb => ?_⟩
    obtain ⟨c, b, n, full, rfl, rfl, hn1, hn2, hf1, hf2, q⟩ := h
    obtain ⟨n, rfl⟩ : ∃ k : Nat, n = k := ⟨n.toNat, by omega⟩
    refine ⟨ll rfl, _, rfl, ⟨by omega, by omega, by show 1 * _ ≤ _; exact le_line (by omega)⟩, ?_⟩
    have en : (List.replicate ((n : Nat) : Int).toNat (List.map GL.A.d [.int 0])).flatten = (nts (List.replicate n 0)).map .d := by
      rw [Int.toNat_natCast]
      show (List.replicate _ [GL.A.d (.int 0)]).flatten = _
      rw [List.flatten_replicate_singleton]; simp [nts]
    rw [en]
    refine ⟨by omega, ?_⟩
    refine ⟨fun i s L => ∃ xs c x4 x5, s = [some (.own 0), some (.d (.int n)), some (.d (.int full)), some (.own 1), x4, x5] ∧ L = [stB c b, .lst ((nts xs).map .d)] ∧ xs.length = n ∧ (∀ x ∈ xs, 0 ≤ x) ∧ xs.sum = i, ⟨List.replicate n 0, c, none, none, rfl, rfl, by simp, fun x hx => by rw [(List.mem_replicate.mp hx).2]; exact Int.le_refl _, by simp⟩, ?_⟩
    rintro i s L ⟨xs, c, x4, x5, rfl, rfl, hl, hk, hs⟩ hi
    rw [rngA_len] at hi
    refine ⟨trivial, Nat.le_refl _, fun a ea => ?_, fun e => ?_⟩
    · refine ⟨[.own 0, .d (.int n)], [stB c b], rfl, pass_sb, c, b, n, rfl, rfl, by omega, by omega, fun y c2 h3 h4 => ?_⟩
      obtain ⟨j, rfl⟩ : ∃ j : Nat, y = j := ⟨y.toNat, by omega⟩
      have hj : j < xs.length := by omega
      refine ⟨.d (.int (xs.getD j 0)), item_int (a := .own 1) (ns := xs) rfl (getD_some hj), (nts xs).map .d, j, rfl, ?_, ?_⟩
      · rw [List.length_map, nts_len]
        unfold ixN; simp [hj]
      have e2 : ((nts xs).map GL.A.d).set j (.d (.int (xs.getD j 0 + 1))) = (nts (xs.set j (xs.getD j 0 + 1))).map .d := by simp [nts, List.map_set]
      refine ⟨_, _, Wk.refl, Nat.le_refl _, xs.set j (xs.getD j 0 + 1), c2, some a, some (.d (.int (j : Nat))), rfl, ?_, by rw [List.length_set]; exact hl, fun x hx => ?_, ?_⟩
      · rw [← e2]; rfl
      · rcases List.mem_or_eq_of_mem_set hx with h | h
        · exact hk x h
        · have := hk _ (List.mem_of_getElem? (getD_some hj)); omega
      · rw [GM.sum_set (getD_some hj), hs]; omega
    rw [rngA_len] at e
    exact ⟨.d (.list (nts xs)), [stB c b], Wk.frz (L1 := [stB c b]) (s := [some (.own 1)]) rfl, Nat.le_refl _, q xs c (by omega) hk (by omega)⟩
-- _law_bent: 0 _law_state_here, 1 _law_tables_here, 2 _law_k, 3 _law_counts, 4 _law_one, 5 _law_other, 6 _law_by
abbrev s_law_bent : Stmt := topS 46
theorem sc_law_bent : FnScope ["_law_state_here", "_law_tables_here", "_law_k", "_law_counts", "_law_one", "_law_other", "_law_by"] ["_law_state_here", "_law_tables_here"] (defScope s_law_bent) := ⟨rfl, rfl, rfl, by decide +kernel, rfl, by decide +kernel, by decide +kernel⟩
def sp_law_bent : ASp := fun as L R _ => ∃ c b, ∃ gs css : List (List Int), ∃ wh : Int, as = [.own 0, .own (1 + gs.length)] ∧ L = stB c b :: (css.map cntO ++ [.lst (prT 1 gs)]) ∧ css.length = gs.length ∧ 1 ≤ gs.length ∧ gs.length ≤ 8 ∧ (∀ cs ∈ css, 1 ≤ cs.length ∧ cs.length ≤ 1000 ∧ (∀ x ∈ cs, 0 ≤ x) ∧ cs.sum = wh) ∧
  ∀ (css' : List (List Int)) c', css'.length = gs.length → (∀ (i : Nat) (cs cs' : List Int), css[i]? = some cs → css'[i]? = some cs' → cs'.length = cs.length ∧ (∀ x ∈ cs', 0 ≤ x) ∧ cs'.sum = wh) → R (.d .none) (stB c' b :: (css'.map cntO ++ [.lst (prT 1 gs)]))
theorem bt_get {o : AO} {css : List (List Int)} {r : Lo} {j : Nat} {cs : List Int} (h : css[j]? = some cs) : (o :: (css.map cntO ++ r))[1 + j]? = some (cntO cs) := by
  have hj := (List.getElem?_eq_some_iff.mp h).1
  rw [Nat.add_comm, List.getElem?_cons_succ, List.getElem?_append_left (by rw [List.length_map]; exact hj), List.getElem?_map, h]; rfl
theorem bt_set {o : AO} {css : List (List Int)} {r : Lo} {j : Nat} {cs : List Int} (h : j < css.length) : (o :: (css.map cntO ++ r)).set (1 + j) (cntO cs) = o :: ((css.set j cs).map cntO ++ r) := by
  rw [Nat.add_comm, List.set_cons_succ, List.set_append_left _ _ (by rw [List.length_map]; exact h), List.map_set]
theorem bt_last {o x : AO} {css : List (List Int)} {r : Lo} {n : Nat} (h : css.length = n) : (o :: (css.map cntO ++ x :: r))[1 + n]? = some x := by
  rw [Nat.add_comm, List.getElem?_cons_succ, List.getElem?_append_right (by rw [List.length_map]; omega), List.length_map, show n - css.length = 0 by omega]; rfl
theorem ok_law_bent (d : Df K mg "_law_bent" ["_law_state_here", "_law_tables_here"] s_law_bent) (m_len : mg "len" = none) (m_min : mg "min" = none) (m_range : mg "range" = none)        (C_law_take : Cl P w K mg base 1 "_law_take" ["_law_state_here", "_law_many"] sp_law_take) : Cl P w K mg base 2 "_law_bent" ["_law_state_here", "_law_tables_here"] sp_law_bent := by
  refine d.clB sc_law_bent (fun as L R Ex h => ?_) (fun f cdv A outer s H E hr => ?_)
  · obtain ⟨c, b, gs, css, wh, rfl, _⟩ := h; rfl
  · have nd := sc_law_bent.nd
    refine ⟨_,
  (ss_one (s_for (vs := [2]) PassesOwn.never rfl (i_range1 (by rfl) m_range (ga_cons (g_op o_add g_int (g_cl (f := [0]) C_law_take hr (by rfl) (ga_cons (g_pv 0) (ga_cons g_int ga_nil)))) ga_nil)) (p_name (i := 2) nd rfl (by first | exact .inl rfl | exact .inr rfl))
     (ss_cons (s_set (i := 3) nd rfl (by first | exact .inl rfl | exact .inr rfl) (g_ix (g_ix (g_pv 1) (g_cl (f := [0]) C_law_take hr (by rfl) (ga_cons (g_pv 0) (ga_cons (g_callB k_len (by rfl) m_len PySem.boot_len (ga_cons (g_pv 1) ga_nil)) ga_nil)))) g_int))
     (ss_cons (s_set (i := 4) nd rfl (by first | exact .inl rfl | exact .inr rfl) (g_cl (f := [0]) C_law_take hr (by rfl) (ga_cons (g_pv 0) (ga_cons (g_callB k_len (by rfl) m_len PySem.boot_len (ga_cons (g_pv 3) ga_nil)) ga_nil))))
     (ss_cons (s_set (i := 5) nd rfl (by first | exact .inl rfl | exact .inr rfl) (g_cl (f := [0]) C_law_take hr (by rfl) (ga_cons (g_pv 0) (ga_cons (g_callB k_len (by rfl) m_len PySem.boot_len (ga_cons (g_pv 3) ga_nil)) ga_nil))))
     (ss_cons (s_set (i := 6) nd rfl (by first | exact .inl rfl | exact .inr rfl) (g_callB (k_min2 rfl) (by rfl) m_min (by decide +kernel) (ga_cons (g_ix (g_pv 3) (g_pv 4)) (ga_cons (g_op o_add g_int (g_cl (f := [0]) C_law_take hr (by rfl) (ga_cons (g_pv 0) (ga_cons g_int ga_nil)))) ga_nil))))
     (ss_cons (s_setIx (g_op o_sub (g_ix (g_pv 3) (g_pv 4)) (g_pv 6)) (g_pv 3) (g_pv 4))
     (ss_one (s_setIx (g_op o_add (g_ix (g_pv 3) (g_pv 5)) (g_pv 6)) (g_pv 3) (g_pv 5)))))))))), fun as L R Ex h hb => ?_⟩
    obtain ⟨c, b, gs, css, wh, rfl, rfl, hcl, hg1, hg8, hcs, q⟩ := h
    refine ⟨[.own 0, .d (.int 3)], [stB c b], rfl, pass_sb, c, b, 3, rfl, rfl, by decide, by decide, fun y c2 h3 h4 => ?_⟩
    simp only [mrgB]
    refine ⟨by omega, ?_⟩
    refine ⟨fun i s L => ∃ css' : List (List Int), ∃ c' x2 x3 x4 x5 x6, s = [some (.own 0), some (.own (1 + gs.length)), x2, x3, x4, x5, x6] ∧ L = stB c' b :: (css'.map cntO ++ [.lst (prT 1 gs)]) ∧ css'.length = gs.length ∧ (∀ (i : Nat) (cs cs' : List Int), css[i]? = some cs → css'[i]? = some cs' → cs'.length = cs.length ∧ (∀ x ∈ cs', 0 ≤ x) ∧ cs'.sum = wh), ⟨css, c2, _, _, _, _, _, rfl, rfl, hcl, fun i cs cs' e1 e2 => ?_⟩, ?_⟩
    · rw [e1] at e2; cases e2
      exact ⟨rfl, (hcs cs (List.mem_of_getElem? e1)).2.2⟩
    rintro i s L ⟨css', c', x2, x3, x4, x5, x6, rfl, rfl, hl', hk⟩ hi
    refine ⟨trivial, by simp [hl', hcl], fun a ea => ?_, fun e => ?_⟩
    · refine onO_of (sq_own (bt_last hl')) ?_
      rw [prT_len]
      refine ⟨[.own 0, .d (.int (gs.length : Nat))], [stB c' b], rfl, pass_sb, c', b, _, rfl, rfl, by omega, by omega, fun t c3 h5 h6 => ?_⟩
      obtain ⟨j, rfl⟩ : ∃ j : Nat, t = j := ⟨t.toNat, by omega⟩
      have hj : j < gs.length := by omega
      have hjc : css'[j]? = some (css'.getD j []) := by rw [List.getD_eq_getElem?_getD, List.getElem?_eq_getElem (by omega)]; rfl
      have hj0 : css[j]? = some (css.getD j []) := by rw [List.getD_eq_getElem?_getD, List.getElem?_eq_getElem (by omega)]; rfl
      obtain ⟨k1, k2, k3⟩ := hk j _ _ hj0 hjc
      obtain ⟨k4, k5, _⟩ := hcs _ (List.mem_of_getElem? hj0)
      generalize css'.getD j [] = cs at hjc k1 k2 k3
      simp only [mrgB]
      refine ⟨_, item_a (sq_own (bt_last hl')) (prT_get (List.getElem?_eq_getElem hj)), .own (1 + j), by rfl, ?_⟩
      have gc : ∀ c1 : Int, sqOf (stB c1 b :: (css'.map cntO ++ [.lst (prT 1 gs)])) (.own (1 + j)) = some ((nts cs).map .d) := fun c1 => sq_own (bt_get hjc)
      have ecl : ((nts cs).map GL.A.d).length = cs.length := by simp
      refine onO_of (gc _) ?_
      rw [ecl]
      refine ⟨[.own 0, .d (.int (cs.length : Nat))], [stB c3 b], rfl, pass_sb, c3, b, _, rfl, rfl, by omega, by omega, fun one c4 o1 o2 => ?_⟩
      simp only [mrgB]
      refine onO_of (gc _) ?_
      rw [ecl]
      refine ⟨[.own 0, .d (.int (cs.length : Nat))], [stB c4 b], rfl, pass_sb, c4, b, _, rfl, rfl, by omega, by omega, fun oth c5 p1 p2 => ?_⟩
      obtain ⟨one, rfl⟩ : ∃ j : Nat, one = j := ⟨one.toNat, by omega⟩
      obtain ⟨oth, rfl⟩ : ∃ j : Nat, oth = j := ⟨oth.toNat, by omega⟩
      have ho : one < cs.length := by omega
      have hp : oth < cs.length := by omega
      simp only [mrgB]
      refine ⟨_, item_int (gc _) (getD_some ho), ?_⟩
      refine ⟨[.own 0, .d (.int 3)], [stB c5 b], rfl, pass_sb, c5, b, 3, rfl, rfl, by decide, by decide, fun z c6 z1 z2 => ?_⟩
      have hv := k2 _ (List.mem_of_getElem? (getD_some ho))
      simp only [mrgB]
      refine ⟨_, item_int (gc _) (getD_some ho), _, one, bt_get hjc, ixN_n (by rw [ecl]; exact ho), ?_⟩
      rw [nts_set]
      generalize hby : (if 1 + z < cs.getD one 0 then 1 + z else cs.getD one 0) = by_
      have hb1 : 0 ≤ by_ ∧ by_ ≤ cs.getD one 0 := by rw [← hby]; split <;> omega
      have st1 : (stB c6 b :: (css'.map cntO ++ [.lst (prT 1 gs)])).set (1 + j) (.lst ((nts (cs.set one (cs.getD one 0 - by_))).map .d)) = stB c6 b :: ((css'.set j (cs.set one (cs.getD one 0 - by_))).map cntO ++ [.lst (prT 1 gs)]) := bt_set (by omega)
      rw [st1]
      generalize hcs1 : cs.set one (cs.getD one 0 - by_) = cs1
      have l1 : cs1.length = cs.length := by rw [← hcs1, List.length_set]
      have n1 : ∀ x ∈ cs1, 0 ≤ x := fun x hx => by
        rw [← hcs1] at hx
        rcases List.mem_or_eq_of_mem_set hx with h | h
        · exact k2 x h
        · omega
      have s1 : cs1.sum = wh - by_ := by rw [← hcs1, GM.sum_set (getD_some ho), k3]; omega
      have g1 : (css'.set j cs1)[j]? = some cs1 := List.getElem?_set_self (by omega)
      have hp1 : oth < cs1.length := by omega
      refine ⟨_, item_int (sq_own (bt_get g1)) (getD_some hp1), _, oth, bt_get g1, ixN_n (by simp; exact hp1), ?_⟩
      rw [nts_set]
      have st2 : (stB c6 b :: ((css'.set j cs1).map cntO ++ [.lst (prT 1 gs)])).set (1 + j) (.lst ((nts (cs1.set oth (cs1.getD oth 0 + by_))).map .d)) = stB c6 b :: (((css'.set j cs1).set j (cs1.set oth (cs1.getD oth 0 + by_))).map cntO ++ [.lst (prT 1 gs)]) := bt_set (by rw [List.length_set]; omega)
      rw [st2, List.set_set]
      refine ⟨_, _, Wk.refl, by simp [hl', hcl], css'.set j (cs1.set oth (cs1.getD oth 0 + by_)), c6, some a, _, _, _, _, rfl, rfl, by rw [List.length_set]; exact hl', fun i d d' e1 e2 => ?_⟩
      by_cases hij : j = i
      · subst hij
        rw [List.getElem?_set_self (by omega)] at e2
        cases e2
        rw [hj0] at e1; cases e1
        refine ⟨by rw [List.length_set]; omega, fun x hx => ?_, by rw [GM.sum_set (getD_some hp1), s1]; omega⟩
        rcases List.mem_or_eq_of_mem_set hx with h | h
        · exact n1 x h
        · have := n1 _ (List.mem_of_getElem? (getD_some hp1)); omega
      · rw [List.getElem?_set_ne hij] at e2
        exact hk i d d' e1 e2
    refine ⟨_, _, Wk.refl, by simp [hl', hcl], q css' c' hl' hk⟩
-- _law_tables: 0 _law_state_here, 1 _law_kinds_here, 2 _law_groups_here, 3 _law_way, 4 _law_numbers_here, 5 _law_tables_here, 6 _law_group, 7 _law_full, 8 _law_counts, 9 _law_by, 10 _law_count
abbrev s_law_tables : Stmt := topS 47
theorem sc_law_tables : FnScope ["_law_state_here", "_law_kinds_here", "_law_groups_here", "_law_way", "_law_numbers_here", "_law_tables_here", "_law_group", "_law_full", "_law_counts", "_law_by", "_law_count"] ["_law_state_here", "_law_kinds_here", "_law_groups_here", "_law_way"] (defScope s_law_tables) := ⟨rfl, rfl, rfl, by decide +kernel, rfl, by decide +kernel, by decide +kernel⟩
def sp_law_tables : ASp := fun as L R _ => ∃ c b, ∃ fr : List Int, ∃ gs : List (List Int), ∃ way : Int, as = [.own 0, .d (.grp (nts fr)), .d (.list (gs.map fun g => D.grp (nts g))), .d (.int way)] ∧ L = [stB c b] ∧ FrOk fr ∧ GrsOk fr gs ∧
  ∀ (css : List (List Int)) w c', TabsOk fr w gs css → ((way = 0 → ∃ xs : List Int, xs.length = (rowsR fr).length ∧ (∀ x ∈ xs, 0 ≤ x) ∧ css = gs.map (smsG fr xs)) ∧ w ≤ 6000000 * ((rowsR fr).length : Int)) → R (.d (.list ((gs.zip css).map tblL))) [stB c' b]
theorem ok_law_tables (d : Df K mg "_law_tables" ["_law_state_here", "_law_kinds_here", "_law_groups_here", "_law_way"] s_law_tables) (m_len : mg "len" = none)        (C_law_rows : Cl P w K mg base 1 "_law_rows" ["_law_kinds_here"] sp_law_rows) (C_law_numbers : Cl P w K mg base 2 "_law_numbers" ["_law_state_here", "_law_many"] sp_law_numbers) (C_law_sums : Cl P w K mg base 2 "_law_sums" ["_law_kinds_here", "_law_group", "_law_numbers_here"] sp_law_sums) (C_law_bent : Cl P w K mg base 2 "_law_bent" ["_law_state_here", "_law_tables_here"] sp_law_bent) (C_law_take : Cl P w K mg base 1 "_law_take" ["_law_state_here", "_law_many"] sp_law_take) (C_law_any_counts : Cl P w K mg base 2 "_law_any_counts" ["_law_state_here", "_law_many", "_law_full"] sp_law_any_counts) : Cl P w K mg base 3 "_law_tables" ["_law_state_here", "_law_kinds_here", "_law_groups_here", "_law_way"] sp_law_tables := by
  refine d.clB sc_law_tables (fun as L R Ex h => ?_) (fun f cdv A outer s H E hr => ?_)
  · obtain ⟨c, b, fr, gs, way, rfl, _⟩ := h; rfl
  · have nd := sc_law_tables.nd
    refine ⟨_,
  (ss_cons (s_set (i := 4) nd rfl (by first | exact .inl rfl | exact .inr rfl) (g_cl (f := [0]) C_law_numbers hr (by rfl) (ga_cons (g_pv 0) (ga_cons (g_callB k_len (by rfl) m_len PySem.boot_len (ga_cons (g_clA C_law_rows hr (by rfl) (ga_cons (g_pv 1) ga_nil)) ga_nil)) ga_nil))))
    (ss_cons (s_setLcO (i := 5) rfl nd rfl rfl (sw_true rfl rfl rfl (by decide +kernel)) (i_list (g_pv 2)) (blk_by (own := [("_law_group", 6)]) (by rfl)) (fun _ _ _ _ _ => (p_name (i := 6) nd rfl (by first | exact .inl rfl | exact .inr rfl))) (fun _ _ _ _ _ => ts_nil) (fun _ _ _ _ _ => (g_tup (ga_cons (g_pv 6) (ga_cons (g_clA C_law_sums hr (by rfl) (ga_cons (g_pv 1) (ga_cons (g_pv 6) (ga_cons (g_pv 4) ga_nil)))) ga_nil)))))
    (ss_cons (s_cut (s_if (t_cmp c_eqI (g_pv 3) g_int (nomark _))
     (ss_one (s_expr (g_clA C_law_bent hr (by rfl) (ga_cons (g_pv 0) (ga_cons (g_pv 5) ga_nil)))))
     ss_nil))
    (ss_cons (s_cut (s_if (t_cmp c_eqI (g_pv 3) g_int (nomark _))
     (ss_cons (s_set (i := 7) nd rfl (by first | exact .inl rfl | exact .inr rfl) (g_op o_add g_int (g_cl (f := [0]) C_law_take hr (by rfl) (ga_cons (g_pv 0) (ga_cons g_int ga_nil)))))
     (ss_one (s_setLc (i := 5) rfl nd rfl rfl (sw_true rfl rfl rfl (by decide +kernel)) (i_list (g_pv 5)) (blk_by (own := [("_law_group", 6), ("_law_counts", 8)]) (by rfl)) (fun _ _ _ _ _ => (p_tup (n := 2) rfl (ps_cons (p_name (i := 6) nd rfl (by first | exact .inl rfl | exact .inr rfl)) (ps_cons (p_name (i := 8) nd rfl (by first | exact .inl rfl | exact .inr rfl)) ps_nil)))) (fun _ _ _ _ _ => ts_nil) (fun _ _ _ _ _ => (g_tup (ga_cons (g_pv 6) (ga_cons (g_cl (f := [0]) C_law_any_counts hr (by rfl) (ga_cons (g_pv 0) (ga_cons (g_callB k_len (by rfl) m_len PySem.boot_len (ga_cons (g_pv 8) ga_nil)) (ga_cons (g_pv 7) ga_nil)))) ga_nil)))))))
     ss_nil))
    (ss_cons (s_set (i := 9) nd rfl (by first | exact .inl rfl | exact .inr rfl) (g_ix (g_lst (ga_cons g_int (ga_cons g_int (ga_cons g_int (ga_cons (g_op o_add g_int (g_cl (f := [0]) C_law_take hr (by rfl) (ga_cons (g_pv 0) (ga_cons g_int ga_nil)))) ga_nil))))) (g_cl (f := [0]) C_law_take hr (by rfl) (ga_cons (g_pv 0) (ga_cons g_int ga_nil)))))
    (ss_one (s_ret (g_lc rfl nd (i_list (g_pv 5)) (blk_by (own := [("_law_group", 6), ("_law_counts", 8)]) (by rfl)) (fun _ _ _ _ _ => (p_tup (n := 2) rfl (ps_cons (p_name (i := 6) nd rfl (by first | exact .inl rfl | exact .inr rfl)) (ps_cons (p_name (i := 8) nd rfl (by first | exact .inl rfl | exact .inr rfl)) ps_nil)))) (fun _ _ _ _ _ => ts_nil) (fun _ _ _ _ _ => (g_tup (ga_cons (g_pv 6) (ga_cons (g_lc rfl nd (i_list (g_pv 8)) (blk_by (own := [("_law_count", 10)]) (by rfl)) (fun _ _ _ _ _ => (p_name (i := 10) nd rfl (by first | exact .inl rfl | exact .inr rfl))) (fun _ _ _ _ _ => ts_nil) (fun _ _ _ _ _ => (g_op o_mul (g_pv 10) (g_pv 9)))) ga_nil)))))))))))), fun as L R Ex h hb => ?_⟩
    obtain ⟨c, b, fr, gs, way, rfl, rfl, ok, gok, q⟩ := h
    have hn := all_n ok
    have er : ((rws (rowsR fr)).map GL.A.d).length = (rowsR fr).length := by simp [rws]
    have g8 := gok.eight
    have g0 := gok.ne
    refine ⟨_, fr, rfl, rfl, ok.six, ok.kinds, ?_⟩
    refine ⟨[.own 0, .d (.int (((rws (rowsR fr)).map GL.A.d).length : Nat))], [stB c b], rfl, pass_sb, c, b, _, rfl, rfl, by rw [er]; omega, by rw [er]; omega, fun xs c1 hxl hxb hxs => ?_⟩
    rw [er] at hxl
    have hxl : xs.length = (rowsR fr).length := by omega
    simp only [mrgB]
    refine ⟨fun i acc L' => acc = prT 1 (gs.take i) ∧ L' = stB c1 b :: ((gs.take i).map fun g => cntO (smsG fr xs g)), ⟨rfl, rfl⟩, ?_⟩
    rintro i acc L' ⟨rfl, rfl⟩ hi
    refine ⟨rfl, by simp, fun a ea => ?_, fun e => ?_⟩
    · obtain ⟨d, ed, rfl⟩ := mapd_get ea
      rw [List.getElem?_map] at ed
      obtain ⟨g, eg, rfl⟩ : ∃ g, gs[i]? = some g ∧ d = D.grp (nts g) := by
        cases q1 : gs[i]? with
        | none => rw [q1] at ed; cases ed
        | some g => rw [q1] at ed; cases ed; exact ⟨g, rfl, rfl⟩
      have hgi := gok.gr g (List.mem_of_getElem? eg)
      have hi2 := (List.getElem?_eq_some_iff.mp eg).1
      have ht : gs.take (i + 1) = gs.take i ++ [g] := by rw [List.take_add_one, eg]; rfl
      have h6 := ok.six
      have h7 := hgi.len
      refine ⟨fun _ => ⟨fr, g, _, xs, rfl, ok, hgi.mem, by omega, fun J => rfl, hxl, ll rfl, ?_, by simp, ?_, ?_⟩, fun z => (by cases z)⟩
      · rw [prT_len, List.length_take]; exact Nat.lt_of_le_of_lt (show _ ≤ 10 by omega) (by decide)
      · rw [ht, prT_snoc]
        have e4 : (gs.take i).length = i := by rw [List.length_take]; omega
        have e5 : (stB c1 b :: ((gs.take i).map fun g => cntO (smsG fr xs g))).length = 1 + (gs.take i).length := by simp; omega
        rw [e5]; rfl
      · rw [ht]; simp [cntO]
    have e' : i = gs.length := by rw [e]; simp
    subst e'
    rw [List.take_length]
    have xnn : ∀ x ∈ xs, 0 ≤ x := fun x hx => (hxb x hx).1
    have e5 : (stB c1 b :: (gs.map fun g => cntO (smsG fr xs g))).length = 1 + gs.length := by simp; omega
    rw [e5]
    have e6 : (stB c1 b :: (gs.map fun g => cntO (smsG fr xs g))) ++ [AO.lst (prT 1 gs)] = stB c1 b :: ((gs.map (smsG fr xs)).map cntO ++ [.lst (prT 1 gs)]) := by simp [Function.comp_def]
    rw [e6]
    have xtop6 : xs.sum ≤ 6 * ((rowsR fr).length : Int) := by
      have := sum_top (cs := xs) (k := 6) fun x hx => (hxb x hx).2
      omega
    have xtop : xs.sum ≤ 384 := by
      have := sum_top (cs := xs) (k := 6) fun x hx => (hxb x hx).2
      omega
    refine ⟨fun s L => ∃ css : List (List Int), ∃ c x6, s = [some (.own 0), some (.d (.grp (nts fr))), some (.d (.list (gs.map fun g => D.grp (nts g)))), some (.d (.int way)), some (.d (.list (nts xs))), some (.own (1 + gs.length)), x6, none, none, none, none] ∧ L = stB c b :: (css.map cntO ++ [.lst (prT 1 gs)]) ∧ css.length = gs.length ∧ (∀ (i : Nat) (g cs : List Int), gs[i]? = some g → css[i]? = some cs → cs.length = volR fr g ∧ (∀ x ∈ cs, 0 ≤ x) ∧ cs.sum = xs.sum) ∧ (way = 0 → css = gs.map (smsG fr xs)), ?_, ?_⟩
    · have base : ∀ (i : Nat) (g cs : List Int), gs[i]? = some g → (gs.map (smsG fr xs))[i]? = some cs → cs.length = volR fr g ∧ (∀ x ∈ cs, 0 ≤ x) ∧ cs.sum = xs.sum := fun i g cs eg ec => by
        rw [List.getElem?_map, eg] at ec
        cases ec
        exact ⟨smsG_len, smsG_nn xnn, smsG_sum (gok.gr g (List.mem_of_getElem? eg)).mem hxl⟩
      refine ⟨fun z => ?_, fun z => ?_⟩
      · have z := of_decide_eq_true z
        refine ⟨c1, b, gs, gs.map (smsG fr xs), xs.sum, rfl, rfl, by simp, g0, g8, fun cs hcs => ?_, fun css' c' l1 l2 => ?_⟩
        · obtain ⟨g, hg, rfl⟩ := List.mem_map.mp hcs
          obtain ⟨i, hi, e⟩ := List.getElem_of_mem hg
          have h1 := base i g _ (by rw [List.getElem?_eq_getElem hi, e]) (by rw [List.getElem?_map, List.getElem?_eq_getElem hi, e]; rfl)
          have h2 := rowsR_le (kindsR_bd ok.kinds (gok.gr g hg).mem) (by rw [kindsR_len]; have := (gok.gr g hg).len; have := ok.six; omega)
          refine ⟨?_, by rw [h1.1]; unfold volR; omega, h1.2⟩
          by_cases e0 : (smsG fr xs g).length = 0
          · have e1 := List.length_eq_zero_iff.mp e0
            have e2 := h1.2.2
            rw [e1] at e2
            simp at e2; omega
          · omega
        · refine ⟨css', c', _, rfl, rfl, l1, fun i g cs eg ec => ?_, fun z0 => by omega⟩
          have hc0 : (gs.map (smsG fr xs))[i]? = some (smsG fr xs g) := by rw [List.getElem?_map, eg]; rfl
          have h1 := base i g _ eg hc0
          have h2 := l2 i _ cs hc0 ec
          exact ⟨by rw [h2.1, h1.1], h2.2⟩
      · exact ⟨gs.map (smsG fr xs), c1, _, rfl, rfl, by simp, base, fun _ => rfl⟩
    rintro s L ⟨css, c2, x6, rfl, rfl, hcl, hcs, hw0⟩
    have gt : ∀ c : Int, TabR (stB c b :: (css.map cntO ++ [.lst (prT 1 gs)])) (.own (1 + gs.length)) gs css := fun c => ⟨prT 1 gs, ls_own (bt_last hcl), prT_len, hcl, fun i g cs eg ec => ⟨_, .own (1 + i), prT_get eg, rfl, ls_own (bt_get ec)⟩⟩
    refine ⟨fun s L => ∃ cs2 : List (List Int), ∃ ta c x6 x7 x8, ∃ wh : Int, s = [some (.own 0), some (.d (.grp (nts fr))), some (.d (.list (gs.map fun g => D.grp (nts g)))), some (.d (.int way)), some (.d (.list (nts xs))), some ta, x6, x7, x8, none, none] ∧ L = stB c b :: (css.map cntO ++ [.lst (prT 1 gs)]) ∧ (∀ c : Int, TabR (stB c b :: (css.map cntO ++ [.lst (prT 1 gs)])) ta gs cs2) ∧ (∀ (i : Nat) (g cs : List Int), gs[i]? = some g → cs2[i]? = some cs → cs.length = volR fr g ∧ (∀ x ∈ cs, 0 ≤ x) ∧ cs.sum = wh) ∧ 1 ≤ wh ∧ (wh ≤ 1000 ∧ wh ≤ 6 * ((rowsR fr).length : Int)) ∧ (way = 0 → cs2 = gs.map (smsG fr xs)), ?_, ?_⟩
    · refine ⟨fun z => ?_, fun z => ?_⟩
      · have z := of_decide_eq_true z
        refine ⟨[.own 0, .d (.int 6)], [stB c2 b], rfl, pass_sb, c2, b, 6, rfl, rfl, by decide, by decide, fun y c3 h3 h4 => ?_⟩
        simp only [mrgB]
        refine onO_of (ls_own (bt_last hcl)) ?_
        refine ⟨fun i acc L' => ∃ cs2 : List (List Int), ∃ c, acc = ((gs.take i).zip cs2).map tblL ∧ L' = stB c b :: (css.map cntO ++ [.lst (prT 1 gs)]) ∧ cs2.length = i ∧ (∀ (i : Nat) (g cs : List Int), gs[i]? = some g → cs2[i]? = some cs → cs.length = volR fr g ∧ (∀ x ∈ cs, 0 ≤ x) ∧ cs.sum = 1 + y), ⟨[], c3, rfl, rfl, rfl, fun i g cs _ e => by simp at e⟩, ?_⟩
        rintro i acc L' ⟨cs2, c4, rfl, rfl, hl2, hk2⟩ hi
        rw [prT_len] at hi
        refine ⟨ls_own (bt_last hcl), by simp, fun a ea => ?_, fun e => ?_⟩
        · obtain ⟨g, eg, rfl⟩ := prT_el ea
          have hi2 := (List.getElem?_eq_some_iff.mp eg).1
          obtain ⟨cs, ec⟩ : ∃ cs, css[i]? = some cs := ⟨_, List.getElem?_eq_getElem (by omega)⟩
          obtain ⟨k1, k2, k3⟩ := hcs i g cs eg ec
          have ht : gs.take (i + 1) = gs.take i ++ [g] := by rw [List.take_add_one, eg]; rfl
          have h6 := (gok.gr g (List.mem_of_getElem? eg)).len
          have n6 := ok.six
          have hv := volR_prod ok.kinds (gok.gr g (List.mem_of_getElem? eg)).mem
          have hv2 : volR fr g ≤ 60 := by
            have h1 := gok.room
            have go : ∀ l : List (List Int), g ∈ l → volR fr g ≤ (l.map fun g => volR fr g).sum := fun l => by
              induction l with
              | nil => intro h; simp at h
              | cons x l ih =>
                intro h
                rw [List.map_cons, List.sum_cons]
                rcases List.mem_cons.mp h with rfl | h
                · omega
                · have := ih h; omega
            have := go gs (List.mem_of_getElem? eg)
            omega
          have hv1 : 1 ≤ cs.length := by
            by_cases e0 : cs.length = 0
            · have e1 := List.length_eq_zero_iff.mp e0
              rw [e1] at k3
              simp at k3; omega
            · omega
          have ecl : ((nts cs).map GL.A.d).length = cs.length := by simp
          refine ⟨rfl, rfl, fun _ => ?_, fun z => (by cases z)⟩
          refine onO_of (sq_own (bt_get ec)) ?_
          rw [ecl]
          refine ⟨[.own 0, .d (.int (cs.length : Nat)), .d (.int (1 + y))], [stB c4 b], rfl, pass_sb, c4, b, _, _, rfl, rfl, by omega, by omega, by omega, by omega, fun ns c5 l1 l2 l3 => ?_⟩
          simp only [mrgB]
          refine ⟨ll rfl, _, rfl, ?_, by simp, cs2 ++ [ns], c5, ?_, rfl, by simp [hl2], fun j g' cs' e1 e2 => ?_⟩
          · rw [List.length_map, List.length_zip]; exact Nat.lt_of_le_of_lt (show _ ≤ 10 by rw [List.length_take]; omega) (by decide)
          · rw [ht, List.zip_append (by rw [List.length_take]; omega)]
            simp [tblL]
          · by_cases hj : j < cs2.length
            · rw [List.getElem?_append_left hj] at e2
              exact hk2 j g' cs' e1 e2
            · have hj2 : j = i := by
                have := (List.getElem?_eq_some_iff.mp e2).1
                simp at this; omega
              subst hj2
              rw [List.getElem?_append_right (by omega), show j - cs2.length = 0 by omega] at e2
              cases e2
              rw [eg] at e1; cases e1
              exact ⟨by omega, l2, l3⟩
        have e' : i = gs.length := by rw [e, prT_len]
        subst e'
        rw [List.take_length]
        refine ⟨cs2, _, c4, _, _, _, 1 + y, rfl, rfl, fun c => ⟨((gs.zip cs2).map tblL).map .d, rfl, by simp [hl2], hl2, fun i g cs eg ec => ?_⟩, hk2, by omega, ⟨by omega, by omega⟩, fun z0 => by omega⟩
        refine ⟨.d (tblL (g, cs)), .d (.list (nts cs)), ?_, rfl, rfl⟩
        have ez : (gs.zip cs2)[i]? = some (g, cs) := List.getElem?_zip_eq_some.mpr ⟨eg, ec⟩
        rw [List.getElem?_map, List.getElem?_map, ez]; rfl
      · exact ⟨css, _, c2, _, _, _, xs.sum, rfl, rfl, gt, hcs, hxs, ⟨by omega, xtop6⟩, hw0⟩
    rintro s L ⟨cs2, ta, c3, x6, x7, x8, wh, rfl, rfl, hta, hk2, hw1, ⟨hw2, hw6⟩, hway⟩
    refine ⟨[.own 0, .d (.int 1000000)], [stB c3 b], rfl, pass_sb, c3, b, _, rfl, rfl, by decide, by decide, fun y c4 h3 h4 => ?_⟩
    simp only [mrgB]
    refine ⟨ll rfl, _, rfl, [.own 0, .d (.int 4)], [stB c4 b], rfl, pass_sb, c4, b, _, rfl, rfl, by decide, by decide, fun u c5 h5 h6 => ?_⟩
    simp only [mrgB]
    obtain ⟨by_, hby, hb1, hb2⟩ : ∃ v : Int, (∀ L, itemA L (.d (.list [.int 1, .int 1, .int 1, .int (1 + y)])) (.d (.int u)) = some (.d (.int v))) ∧ 1 ≤ v ∧ v ≤ 1000000 := by
      have : u = 0 ∨ u = 1 ∨ u = 2 ∨ u = 3 := by omega
      rcases this with rfl | rfl | rfl | rfl
      · exact ⟨1, fun L => rfl, by decide, by decide⟩
      · exact ⟨1, fun L => rfl, by decide, by decide⟩
      · exact ⟨1, fun L => rfl, by decide, by decide⟩
      · exact ⟨1 + y, fun L => rfl, by omega, by omega⟩
    refine ⟨_, hby _, ?_⟩
    obtain ⟨ths, t1, t2, t3, t4⟩ := hta c5
    refine onO_of t1 ?_
    refine ⟨fun i acc L' => acc = ((gs.zip (cs2.map fun cs => cs.map (· * by_))).take i).map tblL ∧ L' = stB c5 b :: (css.map cntO ++ [.lst (prT 1 gs)]), ⟨rfl, rfl⟩, ?_⟩
    rintro i acc L' ⟨rfl, rfl⟩ hi
    refine ⟨t1, Nat.le_refl _, fun a ea => ?_, fun e => ?_⟩
    · have hi2 : i < gs.length := by rw [← t2]; exact (List.getElem?_eq_some_iff.mp ea).1
      obtain ⟨g, eg⟩ : ∃ g, gs[i]? = some g := ⟨_, List.getElem?_eq_getElem hi2⟩
      obtain ⟨cs, ec⟩ : ∃ cs, cs2[i]? = some cs := ⟨_, List.getElem?_eq_getElem (by omega)⟩
      obtain ⟨a', qa, r1, r2, r3⟩ := t4 i g cs eg ec
      rw [ea] at r1; cases r1
      obtain ⟨k1, k2, k3⟩ := hk2 i g cs eg ec
      have hv2 := (rowsR_le (kindsR_bd ok.kinds (gok.gr g (List.mem_of_getElem? eg)).mem) (by rw [kindsR_len]; have := (gok.gr g (List.mem_of_getElem? eg)).len; have := ok.six; omega))
      have hv3 : cs.length ≤ 729 := by rw [k1]; exact hv2
      refine onO_of r2 ⟨rfl, rfl, fun _ => ?_, fun z => (by cases z)⟩
      refine onO_of r3 ?_
      refine ⟨lcMap cs (fun x => .d (.int x)) (fun x => .int (x * by_)) (nts_it cs) r3 (Nat.le_refl _) (le_line (by omega)) (fun i x hi Q hQ => ⟨.inr (by omega), hQ⟩) ?_⟩
      refine ⟨ll rfl, _, rfl, ?_, Nat.le_refl _, ?_, rfl⟩
      · rw [List.length_map, List.length_take]; exact Nat.lt_of_le_of_lt (show _ ≤ 100 by omega) (by decide)
      · have ez : (gs.zip (cs2.map fun cs => cs.map (· * by_)))[i]? = some (g, cs.map (· * by_)) := List.getElem?_zip_eq_some.mpr ⟨eg, by rw [List.getElem?_map, ec]; rfl⟩
        rw [List.take_add_one, ez]
        simp [tblL, nts, Function.comp_def]
    have e' : i = gs.length := by rw [e, t2]
    subst e'
    rw [List.take_of_length_le (by simp; omega)]
    refine ⟨_, [stB c5 b], Wk.pop (L1 := [stB c5 b]) (by rfl) rfl, Nat.le_refl _, q (cs2.map fun cs => cs.map (· * by_)) (wh * by_) c5 ⟨ok, gok, by simp [t3], fun j g cs eg ec => ?_, ?_, ?_⟩ ⟨fun z => ?_, ?_⟩⟩
    · rw [List.getElem?_map] at ec
      cases h2 : cs2[j]? with
      | none => rw [h2] at ec; cases ec
      | some cs0 =>
        rw [h2] at ec; cases ec
        obtain ⟨k1, k2, k3⟩ := hk2 j g cs0 eg h2
        refine ⟨gok.gr g (List.mem_of_getElem? eg), by rw [List.length_map]; exact k1, fun x hx => ?_, by rw [sum_mulL, k3]⟩
        obtain ⟨y, hy, rfl⟩ := List.mem_map.mp hx
        exact Int.mul_nonneg (k2 y hy) (by omega)
    · have := Int.mul_le_mul hw1 hb1 (by decide) (by omega); omega
    · have := Int.mul_le_mul hw2 hb2 (by omega) (by decide); omega
    · refine ⟨xs.map (· * by_), by rw [List.length_map]; exact hxl, fun x hx => ?_, ?_⟩
      · obtain ⟨y, hy, rfl⟩ := List.mem_map.mp hx
        exact Int.mul_nonneg (xnn y hy) (by omega)
      · rw [hway z, List.map_map]
        exact List.map_congr_left fun g _ => smsG_lin hxl
    · have := Int.mul_le_mul hw6 hb2 (by omega) (by omega); omega
-- _law_drawn: 0 _law_script, 1 _law_k, 2 _law_limit, 3 _law_state_here, 4 _law_kinds_here, 5 _law_groups_here, 6 _law_way
abbrev s_law_drawn : Stmt := topS 48
theorem sc_law_drawn : FnScope ["_law_script", "_law_k", "_law_limit", "_law_state_here", "_law_kinds_here", "_law_groups_here", "_law_way"] ["_law_script", "_law_k", "_law_limit"] (defScope s_law_drawn) := ⟨rfl, rfl, rfl, by decide +kernel, rfl, by decide +kernel, by decide +kernel⟩
def sp_law_drawn : ASp := fun as L R _ => ∃ ns k, ∃ limit : Int, as = [.scr ns, .d (.int k), .d (.int limit)] ∧ L = [] ∧ 0 ≤ k ∧ k ≤ 100 ∧ 3 ≤ limit ∧ limit ≤ 32 ∧ ∀ fr gs css w, TabsOk fr w gs css → (prod fr ≤ limit ∧ w ≤ 6000000 * limit ∧ (((gs.map fun g => volR fr g).sum : Nat) : Int) ≤ limit + 20) → R (.d (.tuple [.grp (nts fr), .list ((gs.zip css).map tblL)])) []
theorem ok_law_drawn (d : Df K mg "_law_drawn" ["_law_script", "_law_k", "_law_limit"] s_law_drawn)         (C_law_state : Cl P w K mg base 2 "_law_state" ["_law_script", "_law_k"] sp_law_state) (C_law_kinds : Cl P w K mg base 2 "_law_kinds" ["_law_state_here", "_law_limit"] sp_law_kinds) (C_law_groups : Cl P w K mg base 2 "_law_groups" ["_law_state_here", "_law_kinds_here", "_law_limit"] sp_law_groups) (C_law_take : Cl P w K mg base 1 "_law_take" ["_law_state_here", "_law_many"] sp_law_take) (C_law_tables : Cl P w K mg base 3 "_law_tables" ["_law_state_here", "_law_kinds_here", "_law_groups_here", "_law_way"] sp_law_tables) : Cl P w K mg base 4 "_law_drawn" ["_law_script", "_law_k", "_law_limit"] sp_law_drawn := by
  refine d.clB sc_law_drawn (fun as L R Ex h => ?_) (fun f cdv A outer s H E hr => ?_)
  · obtain ⟨ns, k, limit, rfl, _⟩ := h; rfl
  · have nd := sc_law_drawn.nd
    refine ⟨_,
  (ss_cons (s_set (i := 3) nd rfl (by first | exact .inl rfl | exact .inr rfl) (g_clA C_law_state hr (by rfl) (ga_cons (g_pv 0) (ga_cons (g_pv 1) ga_nil))))
    (ss_cons (s_set (i := 4) nd rfl (by first | exact .inl rfl | exact .inr rfl) (g_cl (f := [0]) C_law_kinds hr (by rfl) (ga_cons (g_pv 3) (ga_cons (g_pv 2) ga_nil))))
    (ss_cons (s_set (i := 5) nd rfl (by first | exact .inl rfl | exact .inr rfl) (g_cl (f := [0]) C_law_groups hr (by rfl) (ga_cons (g_pv 3) (ga_cons (g_pv 4) (ga_cons (g_op o_add (g_pv 2) g_int) ga_nil)))))
    (ss_cons (s_set (i := 6) nd rfl (by first | exact .inl rfl | exact .inr rfl) (g_ix (g_lst (ga_cons g_int (ga_cons g_int (ga_cons g_int (ga_cons g_int (ga_cons g_int (ga_cons g_int ga_nil))))))) (g_cl (f := [0]) C_law_take hr (by rfl) (ga_cons (g_pv 3) (ga_cons g_int ga_nil)))))
    (ss_one (s_ret (g_tup (ga_cons (g_pv 4) (ga_cons (g_cl (f := [1]) C_law_tables hr (by rfl) (ga_cons (g_clA C_law_state hr (by rfl) (ga_cons (g_pv 0) (ga_cons (g_op o_add (g_pv 1) g_int) ga_nil))) (ga_cons (g_pv 4) (ga_cons (g_pv 5) (ga_cons (g_pv 6) ga_nil))))) ga_nil))))))))), fun as L R Ex h hb => ?_⟩
    obtain ⟨ns, k, limit, rfl, rfl, h0, h1, l1, l2, q⟩ := h
    refine ⟨ns, k, rfl, h0, by omega, fun c b => ?_⟩
    refine ⟨[.own 0, .d (.int limit)], [stB c b], rfl, pass_sb, c, b, limit, rfl, rfl, l1, by omega, fun fr c1 ok f5 hp => ?_⟩
    refine ⟨[.own 0, .d (.grp (nts fr)), .d (.int (limit + 8))], [stB c1 b], rfl, pass_sb, c1, b, fr, limit + 8, rfl, rfl, ok, f5, by omega, by omega, by omega, fun gs c2 ⟨gok, gsum⟩ => ?_⟩
    refine ⟨ll rfl, _, rfl, [.own 0, .d (.int 6)], [stB c2 b], rfl, pass_sb, c2, b, 6, rfl, rfl, by decide, by decide, fun y c3 h3 h4 => ?_⟩
    obtain ⟨way, hway⟩ : ∃ v : Int, (∀ L, itemA L (.d (.list [.int 0, .int 0, .int 1, .int 1, .int 2, .int 2])) (.d (.int y)) = some (.d (.int v))) := by
      have : y = 0 ∨ y = 1 ∨ y = 2 ∨ y = 3 ∨ y = 4 ∨ y = 5 := by omega
      rcases this with rfl | rfl | rfl | rfl | rfl | rfl
      · exact ⟨0, fun L => rfl⟩
      · exact ⟨0, fun L => rfl⟩
      · exact ⟨1, fun L => rfl⟩
      · exact ⟨1, fun L => rfl⟩
      · exact ⟨2, fun L => rfl⟩
      · exact ⟨2, fun L => rfl⟩
    refine ⟨_, hway _, ?_⟩
    refine ⟨ns, k + 1, rfl, by omega, by omega, fun c4 b4 => ?_⟩
    refine ⟨[.own 0, .d (.grp (nts fr)), .d (.list (gs.map fun g => D.grp (nts g))), .d (.int way)], [stB c4 b4], rfl, pass_s1, c4, b4, fr, gs, way, rfl, rfl, ok, gok, fun css w c5 tok ⟨_, hw⟩ => ?_⟩
    have hrl := rowsR_len fr fun k hk => by have := ok.kinds k hk; omega
    exact ⟨ll rfl, _, [], Wk.pop (L1 := []) (by rfl) rfl, Nat.le_refl _, q fr gs css w tok ⟨hp, by omega, by omega⟩⟩
-- _law_is_whole: 0 _law_thing
abbrev s_law_is_whole : Stmt := topS 49
theorem sc_law_is_whole : FnScope ["_law_thing"] ["_law_thing"] (defScope s_law_is_whole) := ⟨rfl, rfl, rfl, by decide +kernel, rfl, by decide +kernel, by decide +kernel⟩
def sp_law_is_whole : ASp := fun as L R _ => ∃ x, as = [.d x] ∧ R (.d (.bool (isInt x))) L
theorem ok_law_is_whole (d : Df K mg "_law_is_whole" ["_law_thing"] s_law_is_whole) (m_bool : mg "bool" = none) (m_int : mg "int" = none) (m_isinstance : mg "isinstance" = none)        : Cl P w K mg base 1 "_law_is_whole" ["_law_thing"] sp_law_is_whole := by
  refine d.clB sc_law_is_whole (fun as L R Ex h => ?_) (fun f cdv A outer s H E hr => ?_)
  · obtain ⟨x, rfl, _⟩ := h; rfl
  · have nd := sc_law_is_whole.nd
    refine ⟨_,
  (ss_one (s_ret (g_and (g_callB k_isi (by rfl) m_isinstance (by decide +kernel) (ga_cons (g_pv 0) (ga_cons (g_ty (n := "int") (by rfl) m_int (by decide +kernel)) ga_nil))) (g_one (g_not (g_callB k_isi (by rfl) m_isinstance (by decide +kernel) (ga_cons (g_pv 0) (ga_cons (g_ty (n := "bool") (by rfl) m_bool (by decide +kernel)) ga_nil)))))))), fun as L R Ex h hb => ?_⟩
    obtain ⟨x, rfl, q⟩ := h
    cases x with
    | int m => exact ⟨by rfl, ⟨fun _ => ⟨by rfl, rt0 q (Nat.le_refl _)⟩, fun z => absurd z (by decide)⟩⟩
    | bool b => exact ⟨by rfl, ⟨fun _ => ⟨by rfl, rt0 q (Nat.le_refl _)⟩, fun z => absurd z (by decide)⟩⟩
    | none => exact ⟨by rfl, ⟨fun z => absurd z (by decide), fun _ => rt0 q (Nat.le_refl _)⟩⟩
    | str b => exact ⟨by rfl, ⟨fun z => absurd z (by decide), fun _ => rt0 q (Nat.le_refl _)⟩⟩
    | list b => exact ⟨by rfl, ⟨fun z => absurd z (by decide), fun _ => rt0 q (Nat.le_refl _)⟩⟩
    | tuple b => exact ⟨by rfl, ⟨fun z => absurd z (by decide), fun _ => rt0 q (Nat.le_refl _)⟩⟩
    | grp b => exact ⟨by rfl, ⟨fun z => absurd z (by decide), fun _ => rt0 q (Nat.le_refl _)⟩⟩
-- _law_order: 0 _law_state_here, 1 _law_many, 2 _law_left, 3 _law_k, 4 _law_found
abbrev s_law_order : Stmt := topS 51
theorem sc_law_order : FnScope ["_law_state_here", "_law_many", "_law_left", "_law_k", "_law_found"] ["_law_state_here", "_law_many"] (defScope s_law_order) := ⟨rfl, rfl, rfl, by decide +kernel, rfl, by decide +kernel, by decide +kernel⟩
def sp_law_order : ASp := fun as L R _ => ∃ (c b : Int) (N : Nat), as = [.own 0, .d (.int (N : Nat))] ∧ L = [stB c b] ∧ N ≤ 100 ∧ ∀ (c' : Int) (o : List Int), o.Perm (rgI N) → R (.d (.list (nts o))) [stB c' b]
theorem ok_law_order (d : Df K mg "_law_order" ["_law_state_here", "_law_many"] s_law_order) (m_len : mg "len" = none) (m_range : mg "range" = none)        (C_law_take : Cl P w K mg base 1 "_law_take" ["_law_state_here", "_law_many"] sp_law_take) : Cl P w K mg base 2 "_law_order" ["_law_state_here", "_law_many"] sp_law_order := by
  refine d.clB sc_law_order (fun as L R Ex h => ?_) (fun f cdv A outer s H E hr => ?_)
  · obtain ⟨c, b, N, rfl, _⟩ := h; rfl
  · have nd := sc_law_order.nd
    refine ⟨_,
  (ss_cons (s_setLcO (i := 2) rfl nd rfl rfl (sw_true rfl rfl rfl (by decide +kernel)) (i_range1 (by rfl) m_range (ga_cons (g_pv 1) ga_nil)) (blk_by (own := [("_law_k", 3)]) (by rfl)) (fun _ _ _ _ _ => (p_name (i := 3) nd rfl (by first | exact .inl rfl | exact .inr rfl))) (fun _ _ _ _ _ => ts_nil) (fun _ _ _ _ _ => (g_pv 3)))
    (ss_cons (s_set (i := 4) nd rfl (by first | exact .inl rfl | exact .inr rfl) (g_lstO ga_nil))
    (ss_cons (s_for (vs := [3]) PassesOwn.never rfl (i_range1 (by rfl) m_range (ga_cons (g_pv 1) ga_nil)) (p_name (i := 3) nd rfl (by first | exact .inl rfl | exact .inr rfl))
     (ss_one (s_expr (g_app (g_pv 4) (ga_cons (g_popAt (g_pv 2) (ga_cons (g_cl (f := [0]) C_law_take hr (by rfl) (ga_cons (g_pv 0) (ga_cons (g_callB k_len (by rfl) m_len PySem.boot_len (ga_cons (g_pv 2) ga_nil)) ga_nil))) ga_nil)) ga_nil)))))
    (ss_one (s_ret (g_pv 4)))))), fun as L R Ex h hb => ?_⟩
    obtain ⟨c, b, N, rfl, rfl, h8, q⟩ := h
    refine ⟨by omega, ?_⟩
    refine ⟨⟨fun i acc L' => acc = (nts (rgI i)).map .d ∧ L' = [stB c b], ⟨rfl, rfl⟩, ?_⟩⟩
    rintro i acc L' ⟨rfl, rfl⟩ hi
    rw [rngA_len, Int.toNat_natCast] at hi
    refine ⟨trivial, Nat.le_refl _, fun a ea => ?_, fun e => ?_⟩
    · obtain ⟨rfl, hi2⟩ := rng0_el ea
      have e1 : (nts (rgI (i + 1))).map GL.A.d = (nts (rgI i)).map GL.A.d ++ [.d (.int (i : Nat))] := by simp [rgI, nts, List.range_succ]
      rw [Int.toNat_natCast] at hi2
      refine ⟨fun _ => ⟨?_, Nat.le_refl _, e1.symm, rfl⟩, fun z => (by cases z)⟩
      rw [List.length_map, nts_len, rgI_len]; exact Nat.lt_of_le_of_lt (show i ≤ 100 by omega) (by decide)
    rw [rngA_len, Int.toNat_natCast] at e
    rw [e]
    clear hi e
    refine ⟨ll rfl, by omega, ?_⟩
    refine ⟨fun i s L => ∃ (c : Int) (left found : List Int) (x3 : Option GL.A), s = [some (.own 0), some (.d (.int (N : Nat))), some (.own 1), x3, some (.own 2)] ∧ L = [stB c b, .lst ((nts left).map .d), .lst ((nts found).map .d)] ∧ found.length = i ∧ (found ++ left).Perm (rgI N), ⟨c, rgI N, [], none, rfl, rfl, rfl, List.Perm.refl _⟩, ?_⟩
    rintro i s L ⟨c, left, found, x3, rfl, rfl, hfl, hp⟩ hi
    have hlen := hp.length_eq
    rw [List.length_append, rgI_len] at hlen
    have em : ∀ l : List Int, ((nts l).map GL.A.d).length = l.length := fun l => by simp [nts]
    refine ⟨trivial, Nat.le_refl _, fun a ea => ?_, fun e => ?_⟩
    · obtain ⟨rfl, hi2⟩ := rng0_el ea
      rw [Int.toNat_natCast] at hi2
      refine ⟨[.own 0, .d (.int (((nts left).map GL.A.d).length : Nat))], [stB c b], rfl, pass_sb, c, b, _, rfl, rfl, by rw [em]; omega, by rw [em]; omega, fun x c1 h1 h2 => ?_⟩
      rw [em] at h2
      obtain ⟨x, rfl⟩ : ∃ k : Nat, x = k := ⟨x.toNat, by omega⟩
      have hx : x < left.length := by omega
      obtain ⟨t, et⟩ : ∃ t, left[x]? = some t := ⟨_, List.getElem?_eq_getElem hx⟩
      refine ⟨x, .d (.int t), ⟨by omega, by omega⟩, by rw [em]; exact sqi hx, by rw [List.getElem?_map, nts, List.getElem?_map, et]; rfl, ?_⟩
      refine ⟨?_, ?_⟩
      · rw [em]; exact Nat.lt_of_le_of_lt (show _ ≤ 100 by omega) (by decide)
      refine ⟨_, _, Wk.refl, Nat.le_refl _, c1, left.eraseIdx x, found ++ [t], some (.d (.int (i : Nat))), rfl, ?_, by simp [hfl], ?_⟩
      · have e1 : ((nts left).map GL.A.d).eraseIdx x = (nts (left.eraseIdx x)).map GL.A.d := by unfold nts; rw [erase_map, erase_map]
        have e2 : (nts (found ++ [t])).map GL.A.d = (nts found).map GL.A.d ++ [.d (.int t)] := by simp [nts]
        rw [← e1, e2]; rfl
      · refine List.Perm.trans ?_ hp
        rw [List.append_assoc]
        exact List.Perm.append_left _ (perm_erase et)
    rw [rngA_len, Int.toNat_natCast] at e
    subst e
    have hl0 : left = [] := List.length_eq_zero_iff.mp (by omega)
    subst hl0
    rw [List.append_nil] at hp
    exact ⟨_, _, Wk.frzL (L := [stB c b]) (J := [.lst ((nts []).map .d)]) (by rfl) rfl, Nat.le_refl _, q c found hp⟩
-- _law_keys: 0 _law_kinds_here, 1 _law_tables_here, 2 _law_found, 3 _law_row, 4 _law_k, 5 _law_mark
abbrev s_law_keys : Stmt := topS 52
theorem sc_law_keys : FnScope ["_law_kinds_here", "_law_tables_here", "_law_found", "_law_row", "_law_k", "_law_mark"] ["_law_kinds_here", "_law_tables_here"] (defScope s_law_keys) := ⟨rfl, rfl, rfl, by decide +kernel, rfl, by decide +kernel, by decide +kernel⟩
def keyD (r : List Int) (ts : List Tab) (k : Nat) : D := .tuple [.int (k : Nat), .tuple (nts (skF r (tb ts k).1))]
def keysD (fr : List Int) (ts : List Tab) : List D := (rowsR fr).map fun r => D.list ((List.range ts.length).map (keyD r ts))
def sp_law_keys : ASp := fun as L R _ => ∃ (fr : List Int) (ts : List Tab) (w : Int), as = [.d (.grp (nts fr)), .d (.list (ts.map tblL))] ∧ FamOk fr w ts ∧ R (.d (.list (keysD fr ts))) L
theorem ok_law_keys (d : Df K mg "_law_keys" ["_law_kinds_here", "_law_tables_here"] s_law_keys) (m_len : mg "len" = none) (m_range : mg "range" = none) (m_tuple : mg "tuple" = none)        (C_law_rows : Cl P w K mg base 1 "_law_rows" ["_law_kinds_here"] sp_law_rows) : Cl P w K mg base 2 "_law_keys" ["_law_kinds_here", "_law_tables_here"] sp_law_keys := by
  refine d.clB sc_law_keys (fun as L R Ex h => ?_) (fun f cdv A outer s H E hr => ?_)
  · obtain ⟨fr, ts, w, rfl, _⟩ := h; rfl
  · have nd := sc_law_keys.nd
    refine ⟨_,
  (ss_cons (s_set (i := 2) nd rfl (by first | exact .inl rfl | exact .inr rfl) (g_lstO ga_nil))
    (ss_cons (s_for (vs := [3]) PassesOwn.never rfl (i_list (g_clA C_law_rows hr (by rfl) (ga_cons (g_pv 0) ga_nil))) (p_name (i := 3) nd rfl (by first | exact .inl rfl | exact .inr rfl))
     (ss_one (s_expr (g_app (g_pv 2) (ga_cons (g_lc rfl nd (i_range1 (by rfl) m_range (ga_cons (g_callB k_len (by rfl) m_len PySem.boot_len (ga_cons (g_pv 1) ga_nil)) ga_nil)) (blk_by (own := [("_law_k", 4)]) (by rfl)) (fun _ _ _ _ _ => (p_name (i := 4) nd rfl (by first | exact .inl rfl | exact .inr rfl))) (fun _ _ _ _ _ => ts_nil) (fun _ _ _ _ _ => (g_tup (ga_cons (g_pv 4) (ga_cons (g_callTy k_tupW (by rfl) m_tuple (by decide +kernel) (ga_cons (g_lc rfl nd (i_tup (g_ix (g_ix (g_pv 1) (g_pv 4)) g_int)) (blk_by (own := [("_law_mark", 5)]) (by rfl)) (fun _ _ _ _ _ => (p_name (i := 5) nd rfl (by first | exact .inl rfl | exact .inr rfl))) (fun _ _ _ _ _ => ts_nil) (fun _ _ _ _ _ => (g_ix (g_pv 3) (g_pv 5)))) ga_nil)) ga_nil))))) ga_nil)))))
    (ss_one (s_ret (g_pv 2))))), fun as L R Ex h hb => ?_⟩
    obtain ⟨fr, ts, w, rfl, fam, q⟩ := h
    have ok := fam.frame
    have h8 := fam.eight
    have h6 := ok.six
    have hN := all_n ok
    have et : ((ts.map tblL).map GL.A.d).length = ts.length := by simp
    refine ⟨ll rfl, ?_⟩
    refine ⟨_, fr, rfl, rfl, h6, ok.kinds, ?_⟩
    refine ⟨fun i s L' => ∃ x3 x4 x5, s = [some (.d (.grp (nts fr))), some (.d (.list (ts.map tblL))), some (.own L.length), x3, x4, x5] ∧ L' = L ++ [.lst ((((rowsR fr).take i).map fun r => D.list ((List.range ts.length).map (keyD r ts))).map .d)], ⟨none, none, none, rfl, rfl⟩, ?_⟩
    rintro i s L' ⟨x3, x4, x5, rfl, rfl⟩ hi
    refine ⟨rfl, by simp, fun a ea => ?_, fun e => ?_⟩
    · obtain ⟨r, er, rfl⟩ := rws_get ea
      have hi2 := (List.getElem?_eq_some_iff.mp er).1
      have hr := rowsR_mem.mp (List.mem_of_getElem? er)
      refine onO_of (cel_own last_at) ?_
      refine ⟨by rw [et]; omega, ?_⟩
      refine ⟨lcMap (List.range ts.length) (fun k => .d (.int (k : Nat))) (keyD r ts) (by rw [et, Int.toNat_natCast]; simp [rngA]) trivial (Nat.le_refl _) (le_line (by simp; omega)) (fun j k hk Q hQ => ?_) ?_⟩
      · have hk2 : k < ts.length := by
          have := List.mem_of_getElem? hk
          exact List.mem_range.mp this
        have ht := fam.tabs _ (tb_mem hk2)
        refine ⟨_, item_a (j := k) rfl (show ((ts.map tblL).map GL.A.d)[k]? = some (.d (tblL (tb ts k))) by rw [List.getElem?_map, List.getElem?_map, tb_get hk2]; rfl), ?_⟩
        refine ⟨_, rfl, ?_⟩
        refine ⟨lcMap (tb ts k).1 (fun m => .d (.int m)) (fun m => .int (r.getD m.toNat 0)) (nts_it _) trivial (Nat.le_refl _) (le_line (by have := ht.gr.len; omega)) (fun i m hm Q hQ => ?_) ?_⟩
        · have hm2 := ht.gr.mem m (List.mem_of_getElem? hm)
          exact ⟨_, item_int' (a := .d (.tuple (nts r))) (ns := r) rfl hm2.1 (by rw [hr.len]; exact hm2.2), hQ⟩
        refine ⟨_, rfl, ?_⟩
        refine ⟨ll rfl, ?_⟩
        have e1 : ((tb ts k).1.map fun m => D.int (r.getD m.toNat 0)) = nts (skF r (tb ts k).1) := by simp [nts, skF]
        rw [e1]
        exact hQ
      refine onO_of (cel_own last_at) ⟨?_, ?_⟩
      · simp only [List.length_map, List.length_take]; exact Nat.lt_of_le_of_lt (show _ ≤ 100 by omega) (by decide)
      refine ⟨_, _, Wk.refl, by simp, _, _, _, rfl, ?_⟩
      rw [last_set, List.take_add_one, er]
      simp
    have e' : i = (rowsR fr).length := by rw [e]; simp [rws]
    subst e'
    rw [List.take_length]
    exact ⟨_, _, Wk.frzEnd0 (L := L) (ds := keysD fr ts) hb, Nat.le_refl _, q⟩
-- _law_filled: 0 _law_kinds_here, 1 _law_tables_here, 2 _law_order_here, 3 _law_left, 4 _law_k, 5 _law_group, 6 _law_counts, 7 _law_row, 8 _law_count, 9 _law_mark, 10 _law_keys_here, 11 _law_numbers_here, 12 _law_spot, 13 _law_key
abbrev s_law_filled : Stmt := topS 53
theorem sc_law_filled : FnScope ["_law_kinds_here", "_law_tables_here", "_law_order_here", "_law_left", "_law_k", "_law_group", "_law_counts", "_law_row", "_law_count", "_law_mark", "_law_keys_here", "_law_numbers_here", "_law_spot", "_law_key"] ["_law_kinds_here", "_law_tables_here", "_law_order_here"] (defScope s_law_filled) := ⟨rfl, rfl, rfl, by decide +kernel, rfl, by decide +kernel, by decide +kernel⟩
def sp_law_filled : ASp := fun as L R _ => ∃ (fr : List Int) (ts : List Tab) (w : Int) (o : List Int), as = [.d (.grp (nts fr)), .d (.list (ts.map tblL)), .d (.list (nts o))] ∧ FamOk fr w ts ∧ o.Perm (rgI (rowsR fr).length) ∧ ∀ ys, Fs fr ts ys 1 → R (.d (.list (nts ys))) L
theorem ok_law_filled (d : Df K mg "_law_filled" ["_law_kinds_here", "_law_tables_here", "_law_order_here"] s_law_filled) (m_len : mg "len" = none) (m_min : mg "min" = none) (m_range : mg "range" = none) (m_zip : mg "zip" = none)        (C_law_rows : Cl P w K mg base 1 "_law_rows" ["_law_kinds_here"] sp_law_rows) (C_law_keys : Cl P w K mg base 2 "_law_keys" ["_law_kinds_here", "_law_tables_here"] sp_law_keys) : Cl P w K mg base 3 "_law_filled" ["_law_kinds_here", "_law_tables_here", "_law_order_here"] sp_law_filled := by
  refine d.clB sc_law_filled (fun as L R Ex h => ?_) (fun f cdv A outer s H E hr => ?_)
  · obtain ⟨fr, ts, w, o, rfl, _⟩ := h; rfl
  · have nd := sc_law_filled.nd
    refine ⟨_,
  (ss_cons (s_set (i := 3) nd rfl (by first | exact .inl rfl | exact .inr rfl) g_xn)
    (ss_cons (s_for (vs := [4]) PassesOwn.never rfl (i_range1 (by rfl) m_range (ga_cons (g_callB k_len (by rfl) m_len PySem.boot_len (ga_cons (g_pv 1) ga_nil)) ga_nil)) (p_name (i := 4) nd rfl (by first | exact .inl rfl | exact .inr rfl))
     (ss_cons (s_asg (vs := [5, 6]) (g_ix (g_pv 1) (g_pv 4)) (p_tup (n := 2) rfl (ps_cons (p_name (i := 5) nd rfl (by first | exact .inl rfl | exact .inr rfl)) (ps_cons (p_name (i := 6) nd rfl (by first | exact .inl rfl | exact .inr rfl)) ps_nil))))
     (ss_one (s_for (vs := [7, 8]) PassesOwn.never rfl (i_z2 true true (by rfl) m_zip (ga_cons (g_clA C_law_rows hr (by rfl) (ga_cons (g_lc rfl nd (i_tup (g_pv 5)) (blk_by (own := [("_law_mark", 9)]) (by rfl)) (fun _ _ _ _ _ => (p_name (i := 9) nd rfl (by first | exact .inl rfl | exact .inr rfl))) (fun _ _ _ _ _ => ts_nil) (fun _ _ _ _ _ => (g_ix (g_pv 0) (g_pv 9)))) ga_nil)) (ga_cons (g_pv 6) ga_nil))) (p_tup (n := 2) rfl (ps_cons (p_name (i := 7) nd rfl (by first | exact .inl rfl | exact .inr rfl)) (ps_cons (p_name (i := 8) nd rfl (by first | exact .inl rfl | exact .inr rfl)) ps_nil)))
      (ss_one (s_xp (lt16 hr.units) (g_pv 3) (g_tup (ga_cons (g_pv 4) (ga_cons (g_pv 7) ga_nil))) (g_pv 8) rfl))))))
    (ss_cons (s_set (i := 10) nd rfl (by first | exact .inl rfl | exact .inr rfl) (g_clA C_law_keys hr (by rfl) (ga_cons (g_pv 0) (ga_cons (g_pv 1) ga_nil))))
    (ss_cons (s_set (i := 11) nd rfl (by first | exact .inl rfl | exact .inr rfl) (g_op o_repLO (g_lst (ga_cons g_int ga_nil)) (g_callB k_len (by rfl) m_len PySem.boot_len (ga_cons (g_pv 10) ga_nil))))
    (ss_cons (s_for (vs := [12]) PassesOwn.never rfl (i_list (g_pv 2)) (p_name (i := 12) nd rfl (by first | exact .inl rfl | exact .inr rfl))
     (ss_cons (s_setIx (g_callB (k_min rfl) (by rfl) m_min (by decide +kernel) (ga_cons (g_lc rfl nd (i_list (g_ix (g_pv 10) (g_pv 12))) (blk_by (own := [("_law_key", 13)]) (by rfl)) (fun _ _ _ _ _ => (p_name (i := 13) nd rfl (by first | exact .inl rfl | exact .inr rfl))) (fun _ _ _ _ _ => ts_nil) (fun _ _ _ _ _ => (g_xg (lt16 hr.units) (g_pv 3) (g_pv 13)))) ga_nil)) (g_pv 11) (g_pv 12))
     (ss_one (s_for (vs := [13]) PassesOwn.never rfl (i_list (g_ix (g_pv 10) (g_pv 12))) (p_name (i := 13) nd rfl (by first | exact .inl rfl | exact .inr rfl))
      (ss_one (s_xp (lt16 hr.units) (g_pv 3) (g_pv 13) (g_op o_sub (g_xg (lt16 hr.units) (g_pv 3) (g_pv 13)) (g_ix (g_pv 11) (g_pv 12))) rfl))))))
    (ss_one (s_ret (g_pv 11)))))))), fun as L R Ex h hb => ?_⟩
    obtain ⟨fr, ts, w, o, rfl, fam, hp, q⟩ := h
    have ok := fam.frame
    have h8 := fam.eight
    have h6 := ok.six
    have hN := all_n ok
    have et : ((ts.map tblL).map GL.A.d).length = ts.length := by simp
    have vk : ∀ t ∈ ts, (rowsR (kindsR fr t.1)).length ≤ 1000 ∧ t.2.length = (rowsR (kindsR fr t.1)).length := fun t ht => by
      have h := fam.tabs t ht
      have hgl := h.gr.len
      exact ⟨by have := rowsR_le (kindsR_bd ok.kinds h.gr.mem) (by rw [kindsR_len]; omega); omega, h.len⟩
    refine ⟨by rw [et]; omega, ?_⟩
    refine ⟨fun i s L' => ∃ x4 x5 x6 x7 x8 f n, s = [some (.d (.grp (nts fr))), some (.d (.list (ts.map tblL))), some (.d (.list (nts o))), some (.own L.length), x4, x5, x6, x7, x8, none, none, none, none, none] ∧ L' = L ++ [.dX f n] ∧ n ≤ 1000 * i ∧ ∀ k, k < i → ∀ j r, (rowsR (kindsR fr (tb ts k).1))[j]? = some r → f ((k : Nat), r) = some ((tb ts k).2.getD j 0), ⟨none, none, none, none, none, _, _, rfl, rfl, Nat.le_refl _, fun k hk => absurd hk (Nat.not_lt_zero k)⟩, ?_⟩
    rintro i s L' ⟨x4, x5, x6, x7, x8, f, n, rfl, rfl, hn, hf⟩ hi
    rw [rngA_len, et, Int.toNat_natCast] at hi
    refine ⟨trivial, by simp, fun a ea => ?_, fun e => ?_⟩
    · obtain ⟨rfl, hi2⟩ := rng0_el ea
      rw [et, Int.toNat_natCast] at hi2
      have ht := fam.tabs _ (tb_mem hi2)
      obtain ⟨v1, v2⟩ := vk _ (tb_mem hi2)
      refine ⟨_, item_a (j := i) rfl (show ((ts.map tblL).map GL.A.d)[i]? = some (.d (tblL (tb ts i))) by rw [List.getElem?_map, List.getElem?_map, tb_get hi2]; rfl), ?_⟩
      refine ⟨rfl, rfl, ?_⟩
      refine ⟨lcMap (tb ts i).1 (fun m => .d (.int m)) (fun m => .int (fr.getD m.toNat 0)) (nts_it _) trivial (Nat.le_refl _) (le_line (by have := ht.gr.len; omega)) (fun j m hm Q hQ => ?_) ?_⟩
      · have hm2 := ht.gr.mem m (List.mem_of_getElem? hm)
        exact ⟨_, item_int' (a := .d (.grp (nts fr))) (ns := fr) rfl hm2.1 hm2.2, hQ⟩
      refine ⟨_, kindsR fr (tb ts i).1, rfl, by simp [sdOf, kindsR, nts], by rw [kindsR_len]; have := ht.gr.len; omega, fun k hk => kindsR_bd ok.kinds ht.gr.mem k hk, ?_⟩
      refine ⟨fun j s' L' => ∃ x5 x7 x8 f n, s' = [some (.d (.grp (nts fr))), some (.d (.list (ts.map tblL))), some (.d (.list (nts o))), some (.own L.length), some (.d (.int (i : Nat))), x5, some (.d (.list (nts (tb ts i).2))), x7, x8, none, none, none, none, none] ∧ L' = L ++ [.dX f n] ∧ n ≤ 1000 * i + j ∧ (∀ k, k < i → ∀ j r, (rowsR (kindsR fr (tb ts k).1))[j]? = some r → f ((k : Nat), r) = some ((tb ts k).2.getD j 0)) ∧ ∀ j', j' < j → ∀ r, (rowsR (kindsR fr (tb ts i).1))[j']? = some r → f ((i : Nat), r) = some ((tb ts i).2.getD j' 0), ⟨_, _, _, f, n, rfl, rfl, hn, hf, fun j' hj => absurd hj (Nat.not_lt_zero j')⟩, ?_⟩
      rintro j s' L' ⟨y5, y7, y8, f2, n2, rfl, rfl, hn2, hf2, hf3⟩ hj
      refine ⟨⟨rfl, rfl⟩, by simp, fun a ea => ?_, fun e => ?_⟩
      · obtain ⟨a1, a2, e1, e2, rfl⟩ := zipA_el ea
        obtain ⟨r, er, rfl⟩ := rws_get e1
        have hj2 := (List.getElem?_eq_some_iff.mp er).1
        obtain ⟨c, ec, rfl⟩ : ∃ c, (tb ts i).2[j]? = some c ∧ a2 = .d (.int c) := by
          rw [List.getElem?_map, nts, List.getElem?_map] at e2
          cases q1 : (tb ts i).2[j]? with
          | none => rw [q1] at e2; cases e2
          | some c => rw [q1] at e2; cases e2; exact ⟨c, rfl, rfl⟩
        refine ⟨rfl, rfl, ?_⟩
        refine ⟨ll rfl, ?_⟩
        refine ⟨f2, n2, i, r, c, rfl, last_at, rfl, Nat.lt_of_le_of_lt (show n2 ≤ 10000 by omega) (by decide), ?_⟩
        refine ⟨_, _, Wk.refl, by simp, _, _, _, putX f2 ((i : Nat), r) c, n2 + 1, rfl, by rw [last_set], by omega, fun k hk j' r' er' => ?_, fun j' hj' r' er' => ?_⟩
        · unfold putX
          rw [if_neg (fun z => by rw [Prod.mk.injEq] at z; omega)]
          exact hf2 k hk j' r' er'
        · unfold putX
          rcases Nat.lt_succ_iff_lt_or_eq.mp hj' with h | rfl
          · have hne : r' ≠ r := fun z => by
              subst z
              have hd := rowsR_nodup (kindsR fr (tb ts i).1)
              have := (List.getElem?_inj (List.getElem?_eq_some_iff.mp er').1 hd).mp (er'.trans er.symm)
              omega
            rw [if_neg (fun z => by rw [Prod.mk.injEq] at z; exact hne z.2)]
            exact hf3 j' h r' er'
          · have : r' = r := Option.some.inj (er'.symm.trans er)
            subst this
            rw [if_pos rfl, List.getD_eq_getElem?_getD, ec]; rfl
      have e' : j = (rowsR (kindsR fr (tb ts i).1)).length := by rw [e, zipA_len]; simp [rws]; omega
      subst e'
      refine ⟨_, _, Wk.refl, by simp, _, _, _, _, _, f2, n2, rfl, rfl, by omega, fun k hk j' r' er' => ?_⟩
      rcases Nat.lt_succ_iff_lt_or_eq.mp hk with h | rfl
      · exact hf2 k h j' r' er'
      · exact hf3 j' (List.getElem?_eq_some_iff.mp er').1 r' er'
    rw [rngA_len, et, Int.toNat_natCast] at e
    subst e
    refine ⟨fr, ts, w, rfl, fam, ?_⟩
    have ek : ((keysD fr ts).map GL.A.d).length = (rowsR fr).length := by simp [keysD]
    refine ⟨ll rfl, [D.int 0], rfl, ?_⟩
    refine ⟨⟨by rw [ek]; omega, by rw [ek]; omega, (by rw [ek, Int.toNat_natCast]; show 1 * _ ≤ sizeLine; exact le_line (by omega))⟩, ?_⟩
    have en : (List.replicate (((keysD fr ts).map GL.A.d).length : Int).toNat (List.map GL.A.d [.int 0])).flatten = (nts (List.replicate (rowsR fr).length 0)).map .d := by
      rw [Int.toNat_natCast, ek]
      show (List.replicate _ [GL.A.d (.int 0)]).flatten = _
      rw [List.flatten_replicate_singleton]; simp [nts]
    rw [en]
    have I0 := FillI.start fam hf
    have el1 : (L ++ [AO.dX f n]).length = L.length + 1 := by simp
    rw [el1, papp]
    have on : o.Nodup := hp.nodup_iff.mpr (rgI_nodup _)
    have oN : o.length = (rowsR fr).length := by rw [hp.length_eq, rgI_len]
    refine ⟨fun i s' L' => ∃ x12 x13 ys f n, s' = [some (.d (.grp (nts fr))), some (.d (.list (ts.map tblL))), some (.d (.list (nts o))), some (.own L.length), x4, x5, x6, x7, x8, none, some (.d (.list (keysD fr ts))), some (.own (L.length + 1)), x12, x13] ∧ L' = L ++ (.dX f n :: [.lst ((nts ys).map .d)]) ∧ n ≤ 10000 + 10 * i ∧ FillI fr ts (o.take i) ys f, ⟨none, none, _, f, n, rfl, rfl, by omega, I0⟩, ?_⟩
    clear I0 hf
    rintro i s' L' ⟨x12, x13, ys, f, n, rfl, rfl, hn, I⟩ hi
    refine ⟨rfl, by simp, fun a ea => ?_, fun e => ?_⟩
    · obtain ⟨d, ed, rfl⟩ := mapd_get ea
      obtain ⟨sI, es, rfl⟩ : ∃ x, o[i]? = some x ∧ d = .int x := by
        rw [nts, List.getElem?_map] at ed
        cases q1 : o[i]? with
        | none => rw [q1] at ed; cases ed
        | some c => rw [q1] at ed; cases ed; exact ⟨c, rfl, rfl⟩
      obtain ⟨s0, s1⟩ := rgI_mem.mp (hp.mem_iff.mp (List.mem_of_getElem? es))
      obtain ⟨s, rfl⟩ : ∃ k : Nat, sI = k := ⟨sI.toNat, by omega⟩
      have hs : s < (rowsR fr).length := by omega
      have hi2 := (List.getElem?_eq_some_iff.mp es).1
      have hnot : ((s : Nat) : Int) ∉ o.take i := fun z => by
        have := List.take_append_drop (i + 1) o
        rw [List.take_add_one, es] at this
        rw [← this] at on
        rw [List.append_assoc, List.nodup_append] at on
        exact on.2.2 _ z _ (by simp) rfl
      have eK : ((keysD fr ts).map GL.A.d)[s]? = some (.d (.list ((List.range ts.length).map (keyD (rw_ fr s) ts)))) := by
        unfold keysD
        rw [List.getElem?_map, List.getElem?_map, rw_get hs]; rfl
      refine ⟨_, item_a (j := s) rfl eK, ?_⟩
      refine ⟨lcMap (List.range ts.length) (fun k => .d (keyD (rw_ fr s) ts k)) (fun k => .int ((f (keyN fr ts s k)).getD 0)) (by simp [List.map_map, Function.comp_def]) rfl (Nat.le_refl _) (le_line (by simp; omega)) (fun j k hk Q hQ => ?_) ?_⟩
      · have hk2 : k < ts.length := List.mem_range.mp (List.mem_of_getElem? hk)
        obtain ⟨v, hv, v0⟩ := I.key fam hs hk2
        rw [hv] at hQ
        exact ⟨f, n, (k : Nat), skF (rw_ fr s) (tb ts k).1, v, pget0, rfl, hv, hQ⟩
      have eV : ((List.range ts.length).map fun k => D.int ((f (keyN fr ts s k)).getD 0)) = ((List.range ts.length).map fun k => (f (keyN fr ts s k)).getD 0).map .int := by rw [List.map_map]; rfl
      rw [eV]
      refine ⟨_, .d, by rw [List.length_map, List.length_range]; exact fam.ne, fun m hm hmin => ?_⟩
      have m0 : 0 ≤ m := by
        obtain ⟨k, hk, rfl⟩ := List.mem_map.mp hm
        obtain ⟨v, hv, v0⟩ := I.key fam hs (List.mem_range.mp hk)
        rw [hv]; exact v0
      have hmv : ∀ k, k < ts.length → ∀ v, f (keyN fr ts s k) = some v → m ≤ v := fun k hk v hv => by
        have := hmin _ (List.mem_map.mpr ⟨k, List.mem_range.mpr hk, rfl⟩)
        rw [hv] at this; exact this
      have I2 := I.step fam hs hnot m0 hmv
      have hyl := I.len
      refine ⟨(nts ys).map .d, s, pget1, ?_, ?_⟩
      · rw [List.length_map, nts_len]; unfold ixN; simp [hyl, hs]
      rw [pset1]
      have e2 : ((nts ys).map GL.A.d).set s (.d (.int m)) = (nts (ys.set s m)).map .d := by simp [nts, List.map_set]
      rw [e2]
      refine ⟨_, item_a (j := s) rfl eK, ?_⟩
      refine ⟨fun k s' L' => ∃ x13 n2, s' = [some (.d (.grp (nts fr))), some (.d (.list (ts.map tblL))), some (.d (.list (nts o))), some (.own L.length), x4, x5, x6, x7, x8, none, some (.d (.list (keysD fr ts))), some (.own (L.length + 1)), some (.d (.int (s : Nat))), x13] ∧ L' = L ++ (.dX (subX f fr ts s m k) n2 :: [.lst ((nts (ys.set s m)).map .d)]) ∧ n2 ≤ n + k, ⟨_, n, rfl, rfl, Nat.le_refl _⟩, ?_⟩
      rintro k s' L' ⟨y13, n2, rfl, rfl, hn2⟩ hk
      refine ⟨rfl, by simp, fun a ea => ?_, fun e => ?_⟩
      · obtain ⟨d, ed, rfl⟩ := mapd_get ea
        have hk2 : k < ts.length := by have := (List.getElem?_eq_some_iff.mp ed).1; simpa using this
        obtain rfl : d = keyD (rw_ fr s) ts k := by
          rw [List.getElem?_map, List.getElem?_range hk2] at ed
          exact (Option.some.inj ed).symm
        obtain ⟨v, hv, v0⟩ := I.key fam hs hk2
        have hv2 : subX f fr ts s m k (keyN fr ts s k) = some v := by
          unfold keyN
          rw [subX_hi (Nat.le_refl _)]; exact hv
        refine ⟨subX f fr ts s m k, n2, (k : Nat), skF (rw_ fr s) (tb ts k).1, v, pget0, rfl, hv2, ?_⟩
        refine ⟨.d (.int m), ?_, ?_⟩
        · have hsq : sqOf (L ++ [AO.dX (subX f fr ts s m k) n2, AO.lst ((nts (ys.set s m)).map GL.A.d)]) (.own (L.length + 1)) = some ((nts (ys.set s m)).map .d) := by
            show (match (L ++ [AO.dX (subX f fr ts s m k) n2, AO.lst ((nts (ys.set s m)).map GL.A.d)])[L.length + 1]? with | some (.lst as) => some as | _ => none) = _
            rw [pget1]
          exact item_int (a := .own (L.length + 1)) (ns := ys.set s m) hsq (List.getElem?_set_self (by omega))
        refine ⟨subX f fr ts s m k, n2, (k : Nat), skF (rw_ fr s) (tb ts k).1, v - m, rfl, pget0, rfl, Nat.lt_of_le_of_lt (show n2 ≤ 20000 by omega) (by decide), ?_⟩
        refine ⟨_, _, Wk.refl, by simp, _, n2 + 1, rfl, ?_, by omega⟩
        rw [pset0]
        have eS : putX (subX f fr ts s m k) ((k : Nat), skF (rw_ fr s) (tb ts k).1) (v - m) = subX f fr ts s m (k + 1) := by
          show _ = putX _ (keyN fr ts s k) ((f (keyN fr ts s k)).getD 0 - m)
          rw [hv]; rfl
        rw [eS]
      have e' : k = ts.length := by rw [e]; simp
      subst e'
      refine ⟨_, _, Wk.refl, by simp, _, _, ys.set s m, subX f fr ts s m ts.length, n2, rfl, rfl, by omega, ?_⟩
      rw [List.take_add_one, es]
      exact I2
    have e' : i = o.length := by rw [e]; simp [nts]
    subst e'
    rw [List.take_length] at I
    have k := Wk.frzL (L := L) (J := [.dX f n]) (ds := nts ys) (belLo_app (belLo_mono (by simp) hb) rfl) hb
    have el2 : (L ++ [AO.dX f n]).length = L.length + 1 := by simp
    rw [el2, papp] at k
    exact ⟨_, L, k, Nat.le_refl _, q ys (I.fs fam)⟩
-- _law_no_common: 0 _law_top, 1 _law_bottom
abbrev s_law_no_common : Stmt := topS 54
theorem sc_law_no_common : FnScope ["_law_top", "_law_bottom"] ["_law_top", "_law_bottom"] (defScope s_law_no_common) := ⟨rfl, rfl, rfl, by decide +kernel, rfl, by decide +kernel, by decide +kernel⟩
def sp_law_no_common : ASp := fun as L R _ => ∃ (a b : Int), as = [.d (.int a), .d (.int b)] ∧ Low a b ∧ R (.d (.bool true)) L
theorem ok_law_no_common (d : Df K mg "_law_no_common" ["_law_top", "_law_bottom"] s_law_no_common)         : Cl P w K mg base 1 "_law_no_common" ["_law_top", "_law_bottom"] sp_law_no_common := by
  refine d.clB sc_law_no_common (fun as L R Ex h => ?_) (fun f cdv A outer s H E hr => ?_)
  · obtain ⟨a, b, rfl, _⟩ := h; rfl
  · have nd := sc_law_no_common.nd
    refine ⟨_,
  (ss_cons (s_while PassesOwn.never (t_cmp c_neI (g_pv 1) g_int (nomark _))
     (ss_one (s_par (i := 0) (j := 1) rfl nd rfl rfl (by decide) rfl rfl (ga_cons (g_pv 1) (ga_cons (g_op o_mod (g_pv 0) (g_pv 1)) ga_nil)) (by rfl))))
    (ss_one (s_ret (g_cmp c_eqI (g_pv 0) g_int (nomark _))))), fun as L R Ex h hb => ?_⟩
    obtain ⟨a, b, rfl, low, q⟩ := h
    refine ⟨fun m s L' => ∃ one oth : Int, s = [some (.d (.int one)), some (.d (.int oth))] ∧ L' = L ∧ 0 ≤ one ∧ 0 ≤ oth ∧ 0 < one + oth ∧ Int.gcd one oth = 1 ∧ oth.toNat = m, ⟨_, a, b, rfl, rfl, low.1, by have := low.2.1; omega, by have := low.1; have := low.2.1; omega, low.2.2, rfl⟩, ?_⟩
    rintro m s L' ⟨one, oth, rfl, rfl, o1, o2, o3, hg, rfl⟩
    refine ⟨Nat.le_refl _, fun z => ?_, fun z => ?_⟩
    · have z : oth ≠ 0 := by simpa using z
      have op : 0 < oth := by omega
      have m0 := Int.emod_nonneg one z
      have m1 := Int.emod_lt_of_pos one op
      exact ⟨op, _, _, (one % oth).toNat, Wk.refl, Nat.le_refl _, by omega, oth, one % oth, rfl, rfl, o2, m0, by omega, by rw [← hg]; exact gcd_step o1 op, rfl⟩
    · have z : oth = 0 := by simpa using z
      subst z
      have hp : 0 < one := by omega
      have e : one = 1 := by rw [Int.gcd_zero_right] at hg; omega
      subst e
      exact rt0 q (Nat.le_refl _)
-- law: 0 _law_script, 1 _law_kinds_here, 2 _law_tables_here, 3 _law_family, 4 _law_found, 5 _law_top, 6 _law_bottom, 7 _law_full, 8 _law_told, 9 _law_k, 10 _law_order_here
abbrev s_law : Stmt := topS 55
theorem sc_law : FnScope ["_law_script", "_law_kinds_here", "_law_tables_here", "_law_family", "_law_found", "_law_top", "_law_bottom", "_law_full", "_law_told", "_law_k", "_law_order_here"] ["_law_script"] (defScope s_law) := ⟨rfl, rfl, rfl, by decide +kernel, rfl, by decide +kernel, by decide +kernel⟩
def sp_law : ASp := fun as L R _ => ∃ ns, as = [.scr ns] ∧ L = [] ∧ R (.d (.bool true)) []
theorem law_init {ns : List Int} {R : KA} {Ex : KX} (hl : ns.length ≤ 63) (q : R (.d (.bool true)) []) : sp_law [.scr ns] [] R Ex := ⟨ns, rfl, rfl, q⟩
theorem ok_law {f : Addr} {fd : FuncData} (F : Fun K "law" "law" s_law f fd) (m_isinstance : mg "isinstance" = none) (m_len : mg "len" = none) (m_range : mg "range" = none) (m_sum : mg "sum" = none) (m_tuple : mg "tuple" = none)        (C_law_drawn : Cl P w K mg base 4 "_law_drawn" ["_law_script", "_law_k", "_law_limit"] sp_law_drawn) (C_family_of : Cl P w K mg base 4 "family_of" ["frame", "tables"] sp_family_of) (C_share : Cl P w K mg base 7 "share" ["family"] sp_share) (C_law_is_whole : Cl P w K mg base 1 "_law_is_whole" ["_law_thing"] sp_law_is_whole) (C_whole : Cl P w K mg base 1 "whole" ["family"] sp_whole) (C_law_no_common : Cl P w K mg base 1 "_law_no_common" ["_law_top", "_law_bottom"] sp_law_no_common) (C_part : Cl P w K mg base 6 "part" ["family"] sp_part) (C_law_rows : Cl P w K mg base 1 "_law_rows" ["_law_kinds_here"] sp_law_rows) (C_law_state : Cl P w K mg base 2 "_law_state" ["_law_script", "_law_k"] sp_law_state) (C_law_order : Cl P w K mg base 2 "_law_order" ["_law_state_here", "_law_many"] sp_law_order) (C_law_filled : Cl P w K mg base 3 "_law_filled" ["_law_kinds_here", "_law_tables_here", "_law_order_here"] sp_law_filled) : FnOk P w K mg base CX0 8 f fd ["_law_script"] (liftSp K sp_law) := by
  refine okG F sc_law (fun as L R Ex h => ?_) (fun cdv A outer s H E hr => ?_)
  · obtain ⟨ns, rfl, _⟩ := h; rfl
  · have nd := sc_law.nd
    refine ⟨_,
  (ss_cons (s_asg (vs := [1, 2]) (g_cl (f := []) C_law_drawn hr (by rfl) (ga_cons (g_pv 0) (ga_cons g_int (ga_cons g_int ga_nil)))) (p_tup (n := 2) rfl (ps_cons (p_name (i := 1) nd rfl (by first | exact .inl rfl | exact .inr rfl)) (ps_cons (p_name (i := 2) nd rfl (by first | exact .inl rfl | exact .inr rfl)) ps_nil))))
    (ss_cons (s_set (i := 3) nd rfl (by first | exact .inl rfl | exact .inr rfl) (g_clA C_family_of hr (by rfl) (ga_cons (g_pv 1) (ga_cons (g_pv 2) ga_nil))))
    (ss_cons (s_set (i := 4) nd rfl (by first | exact .inl rfl | exact .inr rfl) (g_clA C_share hr (by rfl) (ga_cons (g_pv 3) ga_nil)))
    (ss_cons (s_if (w_t (w_or (t_not (t_val (g_callB k_isi (by rfl) m_isinstance (by decide +kernel) (ga_cons (g_pv 4) (ga_cons (g_ty (n := "tuple") (by rfl) m_tuple (by decide +kernel)) ga_nil))))) (w_or (t_cmp c_neI (g_callB k_len (by rfl) m_len PySem.boot_len (ga_cons (g_pv 4) ga_nil)) g_int (nomark _)) (w_or (t_not (t_val (g_clA C_law_is_whole hr (by rfl) (ga_cons (g_ix (g_pv 4) g_int) ga_nil)))) (w_or1 (t_not (t_val (g_clA C_law_is_whole hr (by rfl) (ga_cons (g_ix (g_pv 4) g_int) ga_nil)))))))))
     (ss_one (s_ret g_bl))
     ss_nil)
    (ss_cons (s_asg (vs := [5, 6]) (g_pv 4) (p_tup (n := 2) rfl (ps_cons (p_name (i := 5) nd rfl (by first | exact .inl rfl | exact .inr rfl)) (ps_cons (p_name (i := 6) nd rfl (by first | exact .inl rfl | exact .inr rfl)) ps_nil))))
    (ss_cons (s_set (i := 7) nd rfl (by first | exact .inl rfl | exact .inr rfl) (g_clA C_whole hr (by rfl) (ga_cons (g_pv 3) ga_nil)))
    (ss_cons (s_if (w_t (w_or (t_cmp c_lt (g_pv 6) g_int (nomark _)) (w_or (t_not (t_chain c_le c_le g_int (g_pv 5) (g_pv 6))) (w_or1 (t_not (t_val (g_clA C_law_no_common hr (by rfl) (ga_cons (g_pv 5) (ga_cons (g_pv 6) ga_nil)))))))))
     (ss_one (s_ret g_bl))
     ss_nil)
    (ss_cons (s_set (i := 8) nd rfl (by first | exact .inl rfl | exact .inr rfl) (g_clA C_part hr (by rfl) (ga_cons (g_pv 3) ga_nil)))
    (ss_cons (s_if (t_cmp c_neI (g_op o_mulW (g_callB (k_sumS rfl) (by rfl) m_sum (by decide +kernel) (ga_cons (g_ix (g_pv 8) g_int) ga_nil)) (g_pv 6)) (g_op o_mulW (g_op o_mulW (g_pv 5) (g_ix (g_pv 8) g_int)) (g_pv 7)) (nomark _))
     (ss_one (s_ret g_bl))
     ss_nil)
    (ss_cons (s_for (vs := [9]) PassesOwn.never rfl (i_range2 (by rfl) m_range (ga_cons g_int (ga_cons g_int ga_nil))) (p_name (i := 9) nd rfl (by first | exact .inl rfl | exact .inr rfl))
     (ss_cons (s_set (i := 10) nd rfl (by first | exact .inl rfl | exact .inr rfl) (g_clE C_law_order hr (by rfl) (ga_cons (g_clA C_law_state hr (by rfl) (ga_cons (g_pv 0) (ga_cons (g_pv 9) ga_nil))) (ga_cons (g_callB k_len (by rfl) m_len PySem.boot_len (ga_cons (g_clA C_law_rows hr (by rfl) (ga_cons (g_pv 1) ga_nil)) ga_nil)) ga_nil))))
     (ss_one (s_if (t_cmp c_gt (g_op o_mulW (g_callB (k_sumS rfl) (by rfl) m_sum (by decide +kernel) (ga_cons (g_clA C_law_filled hr (by rfl) (ga_cons (g_pv 1) (ga_cons (g_pv 2) (ga_cons (g_pv 10) ga_nil)))) ga_nil)) (g_pv 6)) (g_op o_mulW (g_pv 5) (g_pv 7)) (nomark _))
      (ss_one (s_ret g_bl))
      ss_nil))))
    (ss_one (s_ret (g_cmp c_eqI (g_pv 7) (g_callB (k_sumS rfl) (by rfl) m_sum (by decide +kernel) (ga_cons (g_ix (g_ix (g_pv 2) g_int) g_int) ga_nil)) (nomark _)))))))))))))), fun as L R Ex h => ?_⟩
    obtain ⟨ns, rfl, rfl, q⟩ := h
    refine ⟨[.scr ns, .d (.int 1), .d (.int 16)], [], rfl, PassOk.nil, ns, 1, 16, rfl, rfl, by decide, by decide, by decide, by decide, fun fr gs css w tok lim => ?_⟩
    have fam := tok.fam
    generalize gs.zip css = ts at fam
    have h8 := fam.eight
    have h0 := fam.ne
    have ok := fam.frame
    have hN := all_n ok
    have w1 := fam.w1
    have hw9 := fam.w9
    refine ⟨rfl, rfl, ?_⟩
    refine ⟨_, _, fr, w, ts, rfl, .inr rfl, drawn_handed, fam, ?_⟩
    refine ⟨fr, ts, w, rfl, fam, fun a b shr => ?_⟩
    have a0 := shr.low.1
    have b1 := shr.low.2.1
    have ab := shr.le1 fam
    refine ⟨rfl, ⟨fun z => absurd z (by decide), fun _ => ?_⟩⟩
    refine ⟨fun z => (by cases z), fun _ => ?_⟩
    refine ⟨_, rfl, _, rfl, ⟨fun z => (by cases z), fun _ => ?_⟩⟩
    refine ⟨_, rfl, _, rfl, ⟨fun z => (by cases z), fun _ => ?_⟩⟩
    refine ⟨rfl, rfl, ?_⟩
    refine ⟨fr, ts, tb ts 0, rfl, tb_get h0, ?_⟩
    have ew : (tb ts 0).2.sum = w := (fam.tabs _ (tb_mem h0)).sum
    rw [ew]
    refine ⟨fun z => (by have := of_decide_eq_true z; omega), fun _ => ?_⟩
    refine ⟨fun _ => ⟨fun z => (by simp at z; omega), fun _ => ?_⟩, fun z => (by have := of_decide_eq_false z; omega)⟩
    refine ⟨a, b, rfl, shr.low, ⟨fun z => (by cases z), fun _ => ?_⟩⟩
    refine ⟨fr, ts, w, rfl, fam, fun s xs prs J na pa p hna hpa => ?_⟩
    have sp := p.sp
    have sb := p.sb
    have hw30 : w.natAbs < 2 ^ 30 := Nat.lt_of_le_of_lt (show w.natAbs ≤ 1000000000 by omega) (by decide)
    have hbw := p.bot fam shr
    have xs0 : 0 ≤ xs.sum := (sum_all fun x hx => (p.xb x hx).1).1
    have wb : b.natAbs < 2 ^ 4030 := wide_sw sb sp w1 hw9 (by omega) hbw
    have wa : a.natAbs < 2 ^ 4030 := wide_sw sb sp w1 hw9 a0 (by omega)
    have wx : xs.sum.natAbs < 2 ^ 4030 := wide_sw sb sp w1 hw9 xs0 (p.fs.sum_le fam)
    have was : (a * s).natAbs < 2 ^ (4030 + 4000) := wide_lt wa sb
    have heq := p.shr_eq fam shr
    refine ⟨_, rfl, xs, pl_sq hna.pl, wide_mul wx wb (by decide) (by decide) (by decide), _, rfl, wide_mul wa sb (by decide) (by decide) (by decide), wide_mul was hw30 (by decide) (by decide) (by decide), ?_⟩
    refine ⟨fun z => absurd heq (by simpa using z), fun _ => ?_⟩
    refine ⟨⟨by decide, by decide, by decide, by decide⟩, ?_⟩
    refine ⟨fun i s' L' => ∃ x9 x10, s' = [some (.scr ns), some (.d (.grp (nts fr))), some (.d (.list (ts.map tblL))), some (.d (famD fr ts)), some (.d (.tuple [.int a, .int b])), some (.d (.int a)), some (.d (.int b)), some (.d (.int w)), some (.tup [na, .d (.int s), pa, .d (.int s)]), x9, x10] ∧ (mrg [] [] [] ++ J).length ≤ L'.length, ⟨none, none, rfl, Nat.le_refl _⟩, ?_⟩
    rintro i s' L' ⟨x9, x10, rfl, hL⟩ hi
    refine ⟨trivial, hL, fun x ea => ?_, fun e => ?_⟩
    · obtain ⟨i2, rfl, l3, l9⟩ : ∃ i2 : Int, x = .d (.int i2) ∧ 3 ≤ i2 ∧ i2 < 9 := by
        have hi2 := (List.getElem?_eq_some_iff.mp ea).1
        rw [rngA_len] at hi2
        rw [rngA_get hi2] at ea
        have : i < 6 := hi2
        exact ⟨_, (Option.some.inj ea).symm, by omega, by omega⟩
      refine ⟨ns, i2, rfl, by omega, by omega, fun c b' => ?_⟩
      refine ⟨_, fr, rfl, rfl, ok.six, ok.kinds, ?_⟩
      have er : ((rws (rowsR fr)).map GL.A.d).length = (rowsR fr).length := by simp [rws]
      refine ⟨[L'.length], [.own 0, .d (.int ((rowsR fr).length : Nat))], [stB c b'], ?_, pass_at last_at, c, b', _, rfl, rfl, by omega, fun c2 o ho => ?_⟩
      · rw [er]; rfl
      refine ⟨fr, ts, w, o, rfl, fam, ho, fun ys f => ?_⟩
      have ysb := f.sum_le fam
      have ys0 : 0 ≤ ys.sum := (sum_all fun x hx => f.nn x hx).1
      have wy : ys.sum.natAbs < 2 ^ 30 := Nat.lt_of_le_of_lt (show ys.sum.natAbs ≤ 1000000000 by omega) (by decide)
      refine ⟨ys, rfl, wide_mul wy wb (by decide) (by decide) (by decide), wide_mul wa hw30 (by decide) (by decide) (by decide), ?_⟩
      have hle := shr.part1 f
      refine ⟨fun z => (by have := of_decide_eq_true z; omega), fun _ => ?_⟩
      have hL2 : (mrg [] [] [] ++ J).length ≤ (mrg [L'.length] (L' ++ [stB c b']) [stB c2 b']).length := by
        rw [mrg_at, List.length_set]
        exact Nat.le_trans hL (by simp)
      exact ⟨_, _, Wk.refl, hL2, _, _, rfl, hL2⟩
    refine ⟨_, item_a (j := 0) rfl (show ((ts.map tblL).map GL.A.d)[0]? = some (.d (tblL (tb ts 0))) by rw [List.getElem?_map, List.getElem?_map, tb_get h0]; rfl), _, rfl, (tb ts 0).2, rfl, ?_⟩
    rw [ew]
    refine ⟨_, [], Wk.popE (L1 := []) rfl rfl rfl, Nat.zero_le _, ?_⟩
    show R (.d (.bool (decide (w = w)))) []
    rw [decide_eq_true (show w = w from rfl)]
    exact q
end
theorem all_mk {l : PySem.W.OpenLaw} {w : World} {K : PySem.W.Frag} {h : Heap} {mg : Str → Option Value} {fa : Addr} (X : K.In h) (G : h.Ns mainGlobals mg) (hfa : mg "law" = some (.ref fa))
    {c_Filling : Addr} (a_Filling : PySem.W.nsIn K mainGlobals "Filling" = some (some (.ref c_Filling)))
    (pg_Filling : PySem.W.plainGet K c_Filling Str.empty = true) (hd_Filling : PySem.W.hasDictIn K c_Filling = true) (po_Filling : PySem.W.plainOver K c_Filling = true) (sa_Filling : PySem.W.findIn K (.ref c_Filling) "__setattr__" = some (some (.builtin "object.__setattr__"))) (mk_Filling : PySem.W.makesIn K c_Filling = true) (kc_Filling : PySem.W.keepIn K (.ref c_Filling) = true)
    (nf_Filling_lines : PySem.W.findIn K (.ref c_Filling) "lines" = some none)
    (nf_Filling_goal : PySem.W.findIn K (.ref c_Filling) "goal" = some none)
    (nf_Filling_owners : PySem.W.findIn K (.ref c_Filling) "owners" = some none)
    (nf_Filling_scale : PySem.W.findIn K (.ref c_Filling) "scale" = some none)
    {f_Filling_init : Addr} {od_Filling_init an_Filling_init : Option Addr} {sl_Filling_init : Array (Option Value)} {oc_Filling_init kV_Filling_init dc_Filling_init pm_Filling_init cd_Filling_init ct_Filling_init : Value}
    (a_Filling_init : PySem.W.findIn K (.ref c_Filling) "__init__" = some (some (.ref f_Filling_init))) (i_Filling_init : PySem.W.isFn K (.ref f_Filling_init) = true)
    (l_Filling_init : K.lookup f_Filling_init = some ⟨oc_Filling_init, od_Filling_init, .func (PySem.W.fnOf "__init__" "Filling.__init__" (defArgs s_Filling_init) (defBody s_Filling_init) (defScope s_Filling_init) .none kV_Filling_init dc_Filling_init pm_Filling_init an_Filling_init cd_Filling_init ct_Filling_init), sl_Filling_init⟩)
    (c_Filling_init : PySem.W.codeIn K cd_Filling_init "Filling.__init__" = true) (k_Filling_init : PySem.W.keepIn K (.ref f_Filling_init) = true)
    {f_Filling_coming : Addr} {od_Filling_coming an_Filling_coming : Option Addr} {sl_Filling_coming : Array (Option Value)} {oc_Filling_coming kV_Filling_coming dc_Filling_coming pm_Filling_coming cd_Filling_coming ct_Filling_coming : Value}
    (a_Filling_coming : PySem.W.findIn K (.ref c_Filling) "coming" = some (some (.ref f_Filling_coming))) (i_Filling_coming : PySem.W.isFn K (.ref f_Filling_coming) = true)
    (l_Filling_coming : K.lookup f_Filling_coming = some ⟨oc_Filling_coming, od_Filling_coming, .func (PySem.W.fnOf "coming" "Filling.coming" (defArgs s_Filling_coming) (defBody s_Filling_coming) (defScope s_Filling_coming) .none kV_Filling_coming dc_Filling_coming pm_Filling_coming an_Filling_coming cd_Filling_coming ct_Filling_coming), sl_Filling_coming⟩)
    (c_Filling_coming : PySem.W.codeIn K cd_Filling_coming "Filling.coming" = true) (k_Filling_coming : PySem.W.keepIn K (.ref f_Filling_coming) = true)
    {f_Filling_going : Addr} {od_Filling_going an_Filling_going : Option Addr} {sl_Filling_going : Array (Option Value)} {oc_Filling_going kV_Filling_going dc_Filling_going pm_Filling_going cd_Filling_going ct_Filling_going : Value}
    (a_Filling_going : PySem.W.findIn K (.ref c_Filling) "going" = some (some (.ref f_Filling_going))) (i_Filling_going : PySem.W.isFn K (.ref f_Filling_going) = true)
    (l_Filling_going : K.lookup f_Filling_going = some ⟨oc_Filling_going, od_Filling_going, .func (PySem.W.fnOf "going" "Filling.going" (defArgs s_Filling_going) (defBody s_Filling_going) (defScope s_Filling_going) .none kV_Filling_going dc_Filling_going pm_Filling_going an_Filling_going cd_Filling_going ct_Filling_going), sl_Filling_going⟩)
    (c_Filling_going : PySem.W.codeIn K cd_Filling_going "Filling.going" = true) (k_Filling_going : PySem.W.keepIn K (.ref f_Filling_going) = true)
    {f_Filling_cleared : Addr} {od_Filling_cleared an_Filling_cleared : Option Addr} {sl_Filling_cleared : Array (Option Value)} {oc_Filling_cleared kV_Filling_cleared dc_Filling_cleared pm_Filling_cleared cd_Filling_cleared ct_Filling_cleared : Value}
    (a_Filling_cleared : PySem.W.findIn K (.ref c_Filling) "cleared" = some (some (.ref f_Filling_cleared))) (i_Filling_cleared : PySem.W.isFn K (.ref f_Filling_cleared) = true)
    (l_Filling_cleared : K.lookup f_Filling_cleared = some ⟨oc_Filling_cleared, od_Filling_cleared, .func (PySem.W.fnOf "cleared" "Filling.cleared" (defArgs s_Filling_cleared) (defBody s_Filling_cleared) (defScope s_Filling_cleared) .none kV_Filling_cleared dc_Filling_cleared pm_Filling_cleared an_Filling_cleared cd_Filling_cleared ct_Filling_cleared), sl_Filling_cleared⟩)
    (c_Filling_cleared : PySem.W.codeIn K cd_Filling_cleared "Filling.cleared" = true) (k_Filling_cleared : PySem.W.keepIn K (.ref f_Filling_cleared) = true)
    {f_Filling_turn : Addr} {od_Filling_turn an_Filling_turn : Option Addr} {sl_Filling_turn : Array (Option Value)} {oc_Filling_turn kV_Filling_turn dc_Filling_turn pm_Filling_turn cd_Filling_turn ct_Filling_turn : Value}
    (a_Filling_turn : PySem.W.findIn K (.ref c_Filling) "turn" = some (some (.ref f_Filling_turn))) (i_Filling_turn : PySem.W.isFn K (.ref f_Filling_turn) = true)
    (l_Filling_turn : K.lookup f_Filling_turn = some ⟨oc_Filling_turn, od_Filling_turn, .func (PySem.W.fnOf "turn" "Filling.turn" (defArgs s_Filling_turn) (defBody s_Filling_turn) (defScope s_Filling_turn) .none kV_Filling_turn dc_Filling_turn pm_Filling_turn an_Filling_turn cd_Filling_turn ct_Filling_turn), sl_Filling_turn⟩)
    (c_Filling_turn : PySem.W.codeIn K cd_Filling_turn "Filling.turn" = true) (k_Filling_turn : PySem.W.keepIn K (.ref f_Filling_turn) = true)
    {f_Filling_fill : Addr} {od_Filling_fill an_Filling_fill : Option Addr} {sl_Filling_fill : Array (Option Value)} {oc_Filling_fill kV_Filling_fill dc_Filling_fill pm_Filling_fill cd_Filling_fill ct_Filling_fill : Value}
    (a_Filling_fill : PySem.W.findIn K (.ref c_Filling) "fill" = some (some (.ref f_Filling_fill))) (i_Filling_fill : PySem.W.isFn K (.ref f_Filling_fill) = true)
    (l_Filling_fill : K.lookup f_Filling_fill = some ⟨oc_Filling_fill, od_Filling_fill, .func (PySem.W.fnOf "fill" "Filling.fill" (defArgs s_Filling_fill) (defBody s_Filling_fill) (defScope s_Filling_fill) .none kV_Filling_fill dc_Filling_fill pm_Filling_fill an_Filling_fill cd_Filling_fill ct_Filling_fill), sl_Filling_fill⟩)
    (c_Filling_fill : PySem.W.codeIn K cd_Filling_fill "Filling.fill" = true) (k_Filling_fill : PySem.W.keepIn K (.ref f_Filling_fill) = true)
    {f_greatest : Addr} {od_greatest an_greatest : Option Addr} {sl_greatest : Array (Option Value)} {oc_greatest kV_greatest dc_greatest pm_greatest cd_greatest ct_greatest : Value}
    (a_greatest : PySem.W.nsIn K mainGlobals "greatest" = some (some (.ref f_greatest)))
    (l_greatest : K.lookup f_greatest = some ⟨oc_greatest, od_greatest, .func (PySem.W.fnOf "greatest" "greatest" (defArgs s_greatest) (defBody s_greatest) (defScope s_greatest) .none kV_greatest dc_greatest pm_greatest an_greatest cd_greatest ct_greatest), sl_greatest⟩)
    (c_greatest : PySem.W.codeIn K cd_greatest "greatest" = true) (k_greatest : PySem.W.keepIn K (.ref f_greatest) = true)
    {f_is_whole : Addr} {od_is_whole an_is_whole : Option Addr} {sl_is_whole : Array (Option Value)} {oc_is_whole kV_is_whole dc_is_whole pm_is_whole cd_is_whole ct_is_whole : Value}
    (a_is_whole : PySem.W.nsIn K mainGlobals "is_whole" = some (some (.ref f_is_whole)))
    (l_is_whole : K.lookup f_is_whole = some ⟨oc_is_whole, od_is_whole, .func (PySem.W.fnOf "is_whole" "is_whole" (defArgs s_is_whole) (defBody s_is_whole) (defScope s_is_whole) .none kV_is_whole dc_is_whole pm_is_whole an_is_whole cd_is_whole ct_is_whole), sl_is_whole⟩)
    (c_is_whole : PySem.W.codeIn K cd_is_whole "is_whole" = true) (k_is_whole : PySem.W.keepIn K (.ref f_is_whole) = true)
    {f_frame_of : Addr} {od_frame_of an_frame_of : Option Addr} {sl_frame_of : Array (Option Value)} {oc_frame_of kV_frame_of dc_frame_of pm_frame_of cd_frame_of ct_frame_of : Value}
    (a_frame_of : PySem.W.nsIn K mainGlobals "frame_of" = some (some (.ref f_frame_of)))
    (l_frame_of : K.lookup f_frame_of = some ⟨oc_frame_of, od_frame_of, .func (PySem.W.fnOf "frame_of" "frame_of" (defArgs s_frame_of) (defBody s_frame_of) (defScope s_frame_of) .none kV_frame_of dc_frame_of pm_frame_of an_frame_of cd_frame_of ct_frame_of), sl_frame_of⟩)
    (c_frame_of : PySem.W.codeIn K cd_frame_of "frame_of" = true) (k_frame_of : PySem.W.keepIn K (.ref f_frame_of) = true)
    {f_is_group : Addr} {od_is_group an_is_group : Option Addr} {sl_is_group : Array (Option Value)} {oc_is_group kV_is_group dc_is_group pm_is_group cd_is_group ct_is_group : Value}
    (a_is_group : PySem.W.nsIn K mainGlobals "is_group" = some (some (.ref f_is_group)))
    (l_is_group : K.lookup f_is_group = some ⟨oc_is_group, od_is_group, .func (PySem.W.fnOf "is_group" "is_group" (defArgs s_is_group) (defBody s_is_group) (defScope s_is_group) .none kV_is_group dc_is_group pm_is_group an_is_group cd_is_group ct_is_group), sl_is_group⟩)
    (c_is_group : PySem.W.codeIn K cd_is_group "is_group" = true) (k_is_group : PySem.W.keepIn K (.ref f_is_group) = true)
    {f_rows_by : Addr} {od_rows_by an_rows_by : Option Addr} {sl_rows_by : Array (Option Value)} {oc_rows_by kV_rows_by dc_rows_by pm_rows_by cd_rows_by ct_rows_by : Value}
    (a_rows_by : PySem.W.nsIn K mainGlobals "rows_by" = some (some (.ref f_rows_by)))
    (l_rows_by : K.lookup f_rows_by = some ⟨oc_rows_by, od_rows_by, .func (PySem.W.fnOf "rows_by" "rows_by" (defArgs s_rows_by) (defBody s_rows_by) (defScope s_rows_by) .none kV_rows_by dc_rows_by pm_rows_by an_rows_by cd_rows_by ct_rows_by), sl_rows_by⟩)
    (c_rows_by : PySem.W.codeIn K cd_rows_by "rows_by" = true) (k_rows_by : PySem.W.keepIn K (.ref f_rows_by) = true)
    {f_rows_of : Addr} {od_rows_of an_rows_of : Option Addr} {sl_rows_of : Array (Option Value)} {oc_rows_of kV_rows_of dc_rows_of pm_rows_of cd_rows_of ct_rows_of : Value}
    (a_rows_of : PySem.W.nsIn K mainGlobals "rows_of" = some (some (.ref f_rows_of)))
    (l_rows_of : K.lookup f_rows_of = some ⟨oc_rows_of, od_rows_of, .func (PySem.W.fnOf "rows_of" "rows_of" (defArgs s_rows_of) (defBody s_rows_of) (defScope s_rows_of) .none kV_rows_of dc_rows_of pm_rows_of an_rows_of cd_rows_of ct_rows_of), sl_rows_of⟩)
    (c_rows_of : PySem.W.codeIn K cd_rows_of "rows_of" = true) (k_rows_of : PySem.W.keepIn K (.ref f_rows_of) = true)
    {f_all_rows : Addr} {od_all_rows an_all_rows : Option Addr} {sl_all_rows : Array (Option Value)} {oc_all_rows kV_all_rows dc_all_rows pm_all_rows cd_all_rows ct_all_rows : Value}
    (a_all_rows : PySem.W.nsIn K mainGlobals "all_rows" = some (some (.ref f_all_rows)))
    (l_all_rows : K.lookup f_all_rows = some ⟨oc_all_rows, od_all_rows, .func (PySem.W.fnOf "all_rows" "all_rows" (defArgs s_all_rows) (defBody s_all_rows) (defScope s_all_rows) .none kV_all_rows dc_all_rows pm_all_rows an_all_rows cd_all_rows ct_all_rows), sl_all_rows⟩)
    (c_all_rows : PySem.W.codeIn K cd_all_rows "all_rows" = true) (k_all_rows : PySem.W.keepIn K (.ref f_all_rows) = true)
    {f_seen : Addr} {od_seen an_seen : Option Addr} {sl_seen : Array (Option Value)} {oc_seen kV_seen dc_seen pm_seen cd_seen ct_seen : Value}
    (a_seen : PySem.W.nsIn K mainGlobals "seen" = some (some (.ref f_seen)))
    (l_seen : K.lookup f_seen = some ⟨oc_seen, od_seen, .func (PySem.W.fnOf "seen" "seen" (defArgs s_seen) (defBody s_seen) (defScope s_seen) .none kV_seen dc_seen pm_seen an_seen cd_seen ct_seen), sl_seen⟩)
    (c_seen : PySem.W.codeIn K cd_seen "seen" = true) (k_seen : PySem.W.keepIn K (.ref f_seen) = true)
    {f_as_tuple : Addr} {od_as_tuple an_as_tuple : Option Addr} {sl_as_tuple : Array (Option Value)} {oc_as_tuple kV_as_tuple dc_as_tuple pm_as_tuple cd_as_tuple ct_as_tuple : Value}
    (a_as_tuple : PySem.W.nsIn K mainGlobals "as_tuple" = some (some (.ref f_as_tuple)))
    (l_as_tuple : K.lookup f_as_tuple = some ⟨oc_as_tuple, od_as_tuple, .func (PySem.W.fnOf "as_tuple" "as_tuple" (defArgs s_as_tuple) (defBody s_as_tuple) (defScope s_as_tuple) .none kV_as_tuple dc_as_tuple pm_as_tuple an_as_tuple cd_as_tuple ct_as_tuple), sl_as_tuple⟩)
    (c_as_tuple : PySem.W.codeIn K cd_as_tuple "as_tuple" = true) (k_as_tuple : PySem.W.keepIn K (.ref f_as_tuple) = true)
    {f_parts_of : Addr} {od_parts_of an_parts_of : Option Addr} {sl_parts_of : Array (Option Value)} {oc_parts_of kV_parts_of dc_parts_of pm_parts_of cd_parts_of ct_parts_of : Value}
    (a_parts_of : PySem.W.nsIn K mainGlobals "parts_of" = some (some (.ref f_parts_of)))
    (l_parts_of : K.lookup f_parts_of = some ⟨oc_parts_of, od_parts_of, .func (PySem.W.fnOf "parts_of" "parts_of" (defArgs s_parts_of) (defBody s_parts_of) (defScope s_parts_of) .none kV_parts_of dc_parts_of pm_parts_of an_parts_of cd_parts_of ct_parts_of), sl_parts_of⟩)
    (c_parts_of : PySem.W.codeIn K cd_parts_of "parts_of" = true) (k_parts_of : PySem.W.keepIn K (.ref f_parts_of) = true)
    {f_many_rows : Addr} {od_many_rows an_many_rows : Option Addr} {sl_many_rows : Array (Option Value)} {oc_many_rows kV_many_rows dc_many_rows pm_many_rows cd_many_rows ct_many_rows : Value}
    (a_many_rows : PySem.W.nsIn K mainGlobals "many_rows" = some (some (.ref f_many_rows)))
    (l_many_rows : K.lookup f_many_rows = some ⟨oc_many_rows, od_many_rows, .func (PySem.W.fnOf "many_rows" "many_rows" (defArgs s_many_rows) (defBody s_many_rows) (defScope s_many_rows) .none kV_many_rows dc_many_rows pm_many_rows an_many_rows cd_many_rows ct_many_rows), sl_many_rows⟩)
    (c_many_rows : PySem.W.codeIn K cd_many_rows "many_rows" = true) (k_many_rows : PySem.W.keepIn K (.ref f_many_rows) = true)
    {f_is_counted : Addr} {od_is_counted an_is_counted : Option Addr} {sl_is_counted : Array (Option Value)} {oc_is_counted kV_is_counted dc_is_counted pm_is_counted cd_is_counted ct_is_counted : Value}
    (a_is_counted : PySem.W.nsIn K mainGlobals "is_counted" = some (some (.ref f_is_counted)))
    (l_is_counted : K.lookup f_is_counted = some ⟨oc_is_counted, od_is_counted, .func (PySem.W.fnOf "is_counted" "is_counted" (defArgs s_is_counted) (defBody s_is_counted) (defScope s_is_counted) .none kV_is_counted dc_is_counted pm_is_counted an_is_counted cd_is_counted ct_is_counted), sl_is_counted⟩)
    (c_is_counted : PySem.W.codeIn K cd_is_counted "is_counted" = true) (k_is_counted : PySem.W.keepIn K (.ref f_is_counted) = true)
    {f_is_each_marked : Addr} {od_is_each_marked an_is_each_marked : Option Addr} {sl_is_each_marked : Array (Option Value)} {oc_is_each_marked kV_is_each_marked dc_is_each_marked pm_is_each_marked cd_is_each_marked ct_is_each_marked : Value}
    (a_is_each_marked : PySem.W.nsIn K mainGlobals "is_each_marked" = some (some (.ref f_is_each_marked)))
    (l_is_each_marked : K.lookup f_is_each_marked = some ⟨oc_is_each_marked, od_is_each_marked, .func (PySem.W.fnOf "is_each_marked" "is_each_marked" (defArgs s_is_each_marked) (defBody s_is_each_marked) (defScope s_is_each_marked) .none kV_is_each_marked dc_is_each_marked pm_is_each_marked an_is_each_marked cd_is_each_marked ct_is_each_marked), sl_is_each_marked⟩)
    (c_is_each_marked : PySem.W.codeIn K cd_is_each_marked "is_each_marked" = true) (k_is_each_marked : PySem.W.keepIn K (.ref f_is_each_marked) = true)
    {f_family_of : Addr} {od_family_of an_family_of : Option Addr} {sl_family_of : Array (Option Value)} {oc_family_of kV_family_of dc_family_of pm_family_of cd_family_of ct_family_of : Value}
    (a_family_of : PySem.W.nsIn K mainGlobals "family_of" = some (some (.ref f_family_of)))
    (l_family_of : K.lookup f_family_of = some ⟨oc_family_of, od_family_of, .func (PySem.W.fnOf "family_of" "family_of" (defArgs s_family_of) (defBody s_family_of) (defScope s_family_of) .none kV_family_of dc_family_of pm_family_of an_family_of cd_family_of ct_family_of), sl_family_of⟩)
    (c_family_of : PySem.W.codeIn K cd_family_of "family_of" = true) (k_family_of : PySem.W.keepIn K (.ref f_family_of) = true)
    {f_whole : Addr} {od_whole an_whole : Option Addr} {sl_whole : Array (Option Value)} {oc_whole kV_whole dc_whole pm_whole cd_whole ct_whole : Value}
    (a_whole : PySem.W.nsIn K mainGlobals "whole" = some (some (.ref f_whole)))
    (l_whole : K.lookup f_whole = some ⟨oc_whole, od_whole, .func (PySem.W.fnOf "whole" "whole" (defArgs s_whole) (defBody s_whole) (defScope s_whole) .none kV_whole dc_whole pm_whole an_whole cd_whole ct_whole), sl_whole⟩)
    (c_whole : PySem.W.codeIn K cd_whole "whole" = true) (k_whole : PySem.W.keepIn K (.ref f_whole) = true)
    {f_places_of : Addr} {od_places_of an_places_of : Option Addr} {sl_places_of : Array (Option Value)} {oc_places_of kV_places_of dc_places_of pm_places_of cd_places_of ct_places_of : Value}
    (a_places_of : PySem.W.nsIn K mainGlobals "places_of" = some (some (.ref f_places_of)))
    (l_places_of : K.lookup f_places_of = some ⟨oc_places_of, od_places_of, .func (PySem.W.fnOf "places_of" "places_of" (defArgs s_places_of) (defBody s_places_of) (defScope s_places_of) .none kV_places_of dc_places_of pm_places_of an_places_of cd_places_of ct_places_of), sl_places_of⟩)
    (c_places_of : PySem.W.codeIn K cd_places_of "places_of" = true) (k_places_of : PySem.W.keepIn K (.ref f_places_of) = true)
    {f_starts_of : Addr} {od_starts_of an_starts_of : Option Addr} {sl_starts_of : Array (Option Value)} {oc_starts_of kV_starts_of dc_starts_of pm_starts_of cd_starts_of ct_starts_of : Value}
    (a_starts_of : PySem.W.nsIn K mainGlobals "starts_of" = some (some (.ref f_starts_of)))
    (l_starts_of : K.lookup f_starts_of = some ⟨oc_starts_of, od_starts_of, .func (PySem.W.fnOf "starts_of" "starts_of" (defArgs s_starts_of) (defBody s_starts_of) (defScope s_starts_of) .none kV_starts_of dc_starts_of pm_starts_of an_starts_of cd_starts_of ct_starts_of), sl_starts_of⟩)
    (c_starts_of : PySem.W.codeIn K cd_starts_of "starts_of" = true) (k_starts_of : PySem.W.keepIn K (.ref f_starts_of) = true)
    {f_filled : Addr} {od_filled an_filled : Option Addr} {sl_filled : Array (Option Value)} {oc_filled kV_filled dc_filled pm_filled cd_filled ct_filled : Value}
    (a_filled : PySem.W.nsIn K mainGlobals "filled" = some (some (.ref f_filled)))
    (l_filled : K.lookup f_filled = some ⟨oc_filled, od_filled, .func (PySem.W.fnOf "filled" "filled" (defArgs s_filled) (defBody s_filled) (defScope s_filled) .none kV_filled dc_filled pm_filled an_filled cd_filled ct_filled), sl_filled⟩)
    (c_filled : PySem.W.codeIn K cd_filled "filled" = true) (k_filled : PySem.W.keepIn K (.ref f_filled) = true)
    {f_part : Addr} {od_part an_part : Option Addr} {sl_part : Array (Option Value)} {oc_part kV_part dc_part pm_part cd_part ct_part : Value}
    (a_part : PySem.W.nsIn K mainGlobals "part" = some (some (.ref f_part)))
    (l_part : K.lookup f_part = some ⟨oc_part, od_part, .func (PySem.W.fnOf "part" "part" (defArgs s_part) (defBody s_part) (defScope s_part) .none kV_part dc_part pm_part an_part cd_part ct_part), sl_part⟩)
    (c_part : PySem.W.codeIn K cd_part "part" = true) (k_part : PySem.W.keepIn K (.ref f_part) = true)
    {f_lowest : Addr} {od_lowest an_lowest : Option Addr} {sl_lowest : Array (Option Value)} {oc_lowest kV_lowest dc_lowest pm_lowest cd_lowest ct_lowest : Value}
    (a_lowest : PySem.W.nsIn K mainGlobals "lowest" = some (some (.ref f_lowest)))
    (l_lowest : K.lookup f_lowest = some ⟨oc_lowest, od_lowest, .func (PySem.W.fnOf "lowest" "lowest" (defArgs s_lowest) (defBody s_lowest) (defScope s_lowest) .none kV_lowest dc_lowest pm_lowest an_lowest cd_lowest ct_lowest), sl_lowest⟩)
    (c_lowest : PySem.W.codeIn K cd_lowest "lowest" = true) (k_lowest : PySem.W.keepIn K (.ref f_lowest) = true)
    {f_share : Addr} {od_share an_share : Option Addr} {sl_share : Array (Option Value)} {oc_share kV_share dc_share pm_share cd_share ct_share : Value}
    (a_share : PySem.W.nsIn K mainGlobals "share" = some (some (.ref f_share)))
    (l_share : K.lookup f_share = some ⟨oc_share, od_share, .func (PySem.W.fnOf "share" "share" (defArgs s_share) (defBody s_share) (defScope s_share) .none kV_share dc_share pm_share an_share cd_share ct_share), sl_share⟩)
    (c_share : PySem.W.codeIn K cd_share "share" = true) (k_share : PySem.W.keepIn K (.ref f_share) = true)
    {f_law_cell_at : Addr} {od_law_cell_at an_law_cell_at : Option Addr} {sl_law_cell_at : Array (Option Value)} {oc_law_cell_at kV_law_cell_at dc_law_cell_at pm_law_cell_at cd_law_cell_at ct_law_cell_at : Value}
    (a_law_cell_at : PySem.W.nsIn K mainGlobals "_law_cell_at" = some (some (.ref f_law_cell_at)))
    (l_law_cell_at : K.lookup f_law_cell_at = some ⟨oc_law_cell_at, od_law_cell_at, .func (PySem.W.fnOf "_law_cell_at" "_law_cell_at" (defArgs s_law_cell_at) (defBody s_law_cell_at) (defScope s_law_cell_at) .none kV_law_cell_at dc_law_cell_at pm_law_cell_at an_law_cell_at cd_law_cell_at ct_law_cell_at), sl_law_cell_at⟩)
    (c_law_cell_at : PySem.W.codeIn K cd_law_cell_at "_law_cell_at" = true) (k_law_cell_at : PySem.W.keepIn K (.ref f_law_cell_at) = true)
    {f_law_state : Addr} {od_law_state an_law_state : Option Addr} {sl_law_state : Array (Option Value)} {oc_law_state kV_law_state dc_law_state pm_law_state cd_law_state ct_law_state : Value}
    (a_law_state : PySem.W.nsIn K mainGlobals "_law_state" = some (some (.ref f_law_state)))
    (l_law_state : K.lookup f_law_state = some ⟨oc_law_state, od_law_state, .func (PySem.W.fnOf "_law_state" "_law_state" (defArgs s_law_state) (defBody s_law_state) (defScope s_law_state) .none kV_law_state dc_law_state pm_law_state an_law_state cd_law_state ct_law_state), sl_law_state⟩)
    (c_law_state : PySem.W.codeIn K cd_law_state "_law_state" = true) (k_law_state : PySem.W.keepIn K (.ref f_law_state) = true)
    {f_law_take : Addr} {od_law_take an_law_take : Option Addr} {sl_law_take : Array (Option Value)} {oc_law_take kV_law_take dc_law_take pm_law_take cd_law_take ct_law_take : Value}
    (a_law_take : PySem.W.nsIn K mainGlobals "_law_take" = some (some (.ref f_law_take)))
    (l_law_take : K.lookup f_law_take = some ⟨oc_law_take, od_law_take, .func (PySem.W.fnOf "_law_take" "_law_take" (defArgs s_law_take) (defBody s_law_take) (defScope s_law_take) .none kV_law_take dc_law_take pm_law_take an_law_take cd_law_take ct_law_take), sl_law_take⟩)
    (c_law_take : PySem.W.codeIn K cd_law_take "_law_take" = true) (k_law_take : PySem.W.keepIn K (.ref f_law_take) = true)
    {f_law_kinds : Addr} {od_law_kinds an_law_kinds : Option Addr} {sl_law_kinds : Array (Option Value)} {oc_law_kinds kV_law_kinds dc_law_kinds pm_law_kinds cd_law_kinds ct_law_kinds : Value}
    (a_law_kinds : PySem.W.nsIn K mainGlobals "_law_kinds" = some (some (.ref f_law_kinds)))
    (l_law_kinds : K.lookup f_law_kinds = some ⟨oc_law_kinds, od_law_kinds, .func (PySem.W.fnOf "_law_kinds" "_law_kinds" (defArgs s_law_kinds) (defBody s_law_kinds) (defScope s_law_kinds) .none kV_law_kinds dc_law_kinds pm_law_kinds an_law_kinds cd_law_kinds ct_law_kinds), sl_law_kinds⟩)
    (c_law_kinds : PySem.W.codeIn K cd_law_kinds "_law_kinds" = true) (k_law_kinds : PySem.W.keepIn K (.ref f_law_kinds) = true)
    {f_law_rows : Addr} {od_law_rows an_law_rows : Option Addr} {sl_law_rows : Array (Option Value)} {oc_law_rows kV_law_rows dc_law_rows pm_law_rows cd_law_rows ct_law_rows : Value}
    (a_law_rows : PySem.W.nsIn K mainGlobals "_law_rows" = some (some (.ref f_law_rows)))
    (l_law_rows : K.lookup f_law_rows = some ⟨oc_law_rows, od_law_rows, .func (PySem.W.fnOf "_law_rows" "_law_rows" (defArgs s_law_rows) (defBody s_law_rows) (defScope s_law_rows) .none kV_law_rows dc_law_rows pm_law_rows an_law_rows cd_law_rows ct_law_rows), sl_law_rows⟩)
    (c_law_rows : PySem.W.codeIn K cd_law_rows "_law_rows" = true) (k_law_rows : PySem.W.keepIn K (.ref f_law_rows) = true)
    {f_law_groups : Addr} {od_law_groups an_law_groups : Option Addr} {sl_law_groups : Array (Option Value)} {oc_law_groups kV_law_groups dc_law_groups pm_law_groups cd_law_groups ct_law_groups : Value}
    (a_law_groups : PySem.W.nsIn K mainGlobals "_law_groups" = some (some (.ref f_law_groups)))
    (l_law_groups : K.lookup f_law_groups = some ⟨oc_law_groups, od_law_groups, .func (PySem.W.fnOf "_law_groups" "_law_groups" (defArgs s_law_groups) (defBody s_law_groups) (defScope s_law_groups) .none kV_law_groups dc_law_groups pm_law_groups an_law_groups cd_law_groups ct_law_groups), sl_law_groups⟩)
    (c_law_groups : PySem.W.codeIn K cd_law_groups "_law_groups" = true) (k_law_groups : PySem.W.keepIn K (.ref f_law_groups) = true)
    {f_law_sums : Addr} {od_law_sums an_law_sums : Option Addr} {sl_law_sums : Array (Option Value)} {oc_law_sums kV_law_sums dc_law_sums pm_law_sums cd_law_sums ct_law_sums : Value}
    (a_law_sums : PySem.W.nsIn K mainGlobals "_law_sums" = some (some (.ref f_law_sums)))
    (l_law_sums : K.lookup f_law_sums = some ⟨oc_law_sums, od_law_sums, .func (PySem.W.fnOf "_law_sums" "_law_sums" (defArgs s_law_sums) (defBody s_law_sums) (defScope s_law_sums) .none kV_law_sums dc_law_sums pm_law_sums an_law_sums cd_law_sums ct_law_sums), sl_law_sums⟩)
    (c_law_sums : PySem.W.codeIn K cd_law_sums "_law_sums" = true) (k_law_sums : PySem.W.keepIn K (.ref f_law_sums) = true)
    {f_law_numbers : Addr} {od_law_numbers an_law_numbers : Option Addr} {sl_law_numbers : Array (Option Value)} {oc_law_numbers kV_law_numbers dc_law_numbers pm_law_numbers cd_law_numbers ct_law_numbers : Value}
    (a_law_numbers : PySem.W.nsIn K mainGlobals "_law_numbers" = some (some (.ref f_law_numbers)))
    (l_law_numbers : K.lookup f_law_numbers = some ⟨oc_law_numbers, od_law_numbers, .func (PySem.W.fnOf "_law_numbers" "_law_numbers" (defArgs s_law_numbers) (defBody s_law_numbers) (defScope s_law_numbers) .none kV_law_numbers dc_law_numbers pm_law_numbers an_law_numbers cd_law_numbers ct_law_numbers), sl_law_numbers⟩)
    (c_law_numbers : PySem.W.codeIn K cd_law_numbers "_law_numbers" = true) (k_law_numbers : PySem.W.keepIn K (.ref f_law_numbers) = true)
    {f_law_any_counts : Addr} {od_law_any_counts an_law_any_counts : Option Addr} {sl_law_any_counts : Array (Option Value)} {oc_law_any_counts kV_law_any_counts dc_law_any_counts pm_law_any_counts cd_law_any_counts ct_law_any_counts : Value}
    (a_law_any_counts : PySem.W.nsIn K mainGlobals "_law_any_counts" = some (some (.ref f_law_any_counts)))
    (l_law_any_counts : K.lookup f_law_any_counts = some ⟨oc_law_any_counts, od_law_any_counts, .func (PySem.W.fnOf "_law_any_counts" "_law_any_counts" (defArgs s_law_any_counts) (defBody s_law_any_counts) (defScope s_law_any_counts) .none kV_law_any_counts dc_law_any_counts pm_law_any_counts an_law_any_counts cd_law_any_counts ct_law_any_counts), sl_law_any_counts⟩)
    (c_law_any_counts : PySem.W.codeIn K cd_law_any_counts "_law_any_counts" = true) (k_law_any_counts : PySem.W.keepIn K (.ref f_law_any_counts) = true)
    {f_law_bent : Addr} {od_law_bent an_law_bent : Option Addr} {sl_law_bent : Array (Option Value)} {oc_law_bent kV_law_bent dc_law_bent pm_law_bent cd_law_bent ct_law_bent : Value}
    (a_law_bent : PySem.W.nsIn K mainGlobals "_law_bent" = some (some (.ref f_law_bent)))
    (l_law_bent : K.lookup f_law_bent = some ⟨oc_law_bent, od_law_bent, .func (PySem.W.fnOf "_law_bent" "_law_bent" (defArgs s_law_bent) (defBody s_law_bent) (defScope s_law_bent) .none kV_law_bent dc_law_bent pm_law_bent an_law_bent cd_law_bent ct_law_bent), sl_law_bent⟩)
    (c_law_bent : PySem.W.codeIn K cd_law_bent "_law_bent" = true) (k_law_bent : PySem.W.keepIn K (.ref f_law_bent) = true)
    {f_law_tables : Addr} {od_law_tables an_law_tables : Option Addr} {sl_law_tables : Array (Option Value)} {oc_law_tables kV_law_tables dc_law_tables pm_law_tables cd_law_tables ct_law_tables : Value}
    (a_law_tables : PySem.W.nsIn K mainGlobals "_law_tables" = some (some (.ref f_law_tables)))
    (l_law_tables : K.lookup f_law_tables = some ⟨oc_law_tables, od_law_tables, .func (PySem.W.fnOf "_law_tables" "_law_tables" (defArgs s_law_tables) (defBody s_law_tables) (defScope s_law_tables) .none kV_law_tables dc_law_tables pm_law_tables an_law_tables cd_law_tables ct_law_tables), sl_law_tables⟩)
    (c_law_tables : PySem.W.codeIn K cd_law_tables "_law_tables" = true) (k_law_tables : PySem.W.keepIn K (.ref f_law_tables) = true)
    {f_law_drawn : Addr} {od_law_drawn an_law_drawn : Option Addr} {sl_law_drawn : Array (Option Value)} {oc_law_drawn kV_law_drawn dc_law_drawn pm_law_drawn cd_law_drawn ct_law_drawn : Value}
    (a_law_drawn : PySem.W.nsIn K mainGlobals "_law_drawn" = some (some (.ref f_law_drawn)))
    (l_law_drawn : K.lookup f_law_drawn = some ⟨oc_law_drawn, od_law_drawn, .func (PySem.W.fnOf "_law_drawn" "_law_drawn" (defArgs s_law_drawn) (defBody s_law_drawn) (defScope s_law_drawn) .none kV_law_drawn dc_law_drawn pm_law_drawn an_law_drawn cd_law_drawn ct_law_drawn), sl_law_drawn⟩)
    (c_law_drawn : PySem.W.codeIn K cd_law_drawn "_law_drawn" = true) (k_law_drawn : PySem.W.keepIn K (.ref f_law_drawn) = true)
    {f_law_is_whole : Addr} {od_law_is_whole an_law_is_whole : Option Addr} {sl_law_is_whole : Array (Option Value)} {oc_law_is_whole kV_law_is_whole dc_law_is_whole pm_law_is_whole cd_law_is_whole ct_law_is_whole : Value}
    (a_law_is_whole : PySem.W.nsIn K mainGlobals "_law_is_whole" = some (some (.ref f_law_is_whole)))
    (l_law_is_whole : K.lookup f_law_is_whole = some ⟨oc_law_is_whole, od_law_is_whole, .func (PySem.W.fnOf "_law_is_whole" "_law_is_whole" (defArgs s_law_is_whole) (defBody s_law_is_whole) (defScope s_law_is_whole) .none kV_law_is_whole dc_law_is_whole pm_law_is_whole an_law_is_whole cd_law_is_whole ct_law_is_whole), sl_law_is_whole⟩)
    (c_law_is_whole : PySem.W.codeIn K cd_law_is_whole "_law_is_whole" = true) (k_law_is_whole : PySem.W.keepIn K (.ref f_law_is_whole) = true)
    {f_law_order : Addr} {od_law_order an_law_order : Option Addr} {sl_law_order : Array (Option Value)} {oc_law_order kV_law_order dc_law_order pm_law_order cd_law_order ct_law_order : Value}
    (a_law_order : PySem.W.nsIn K mainGlobals "_law_order" = some (some (.ref f_law_order)))
    (l_law_order : K.lookup f_law_order = some ⟨oc_law_order, od_law_order, .func (PySem.W.fnOf "_law_order" "_law_order" (defArgs s_law_order) (defBody s_law_order) (defScope s_law_order) .none kV_law_order dc_law_order pm_law_order an_law_order cd_law_order ct_law_order), sl_law_order⟩)
    (c_law_order : PySem.W.codeIn K cd_law_order "_law_order" = true) (k_law_order : PySem.W.keepIn K (.ref f_law_order) = true)
    {f_law_keys : Addr} {od_law_keys an_law_keys : Option Addr} {sl_law_keys : Array (Option Value)} {oc_law_keys kV_law_keys dc_law_keys pm_law_keys cd_law_keys ct_law_keys : Value}
    (a_law_keys : PySem.W.nsIn K mainGlobals "_law_keys" = some (some (.ref f_law_keys)))
    (l_law_keys : K.lookup f_law_keys = some ⟨oc_law_keys, od_law_keys, .func (PySem.W.fnOf "_law_keys" "_law_keys" (defArgs s_law_keys) (defBody s_law_keys) (defScope s_law_keys) .none kV_law_keys dc_law_keys pm_law_keys an_law_keys cd_law_keys ct_law_keys), sl_law_keys⟩)
    (c_law_keys : PySem.W.codeIn K cd_law_keys "_law_keys" = true) (k_law_keys : PySem.W.keepIn K (.ref f_law_keys) = true)
    {f_law_filled : Addr} {od_law_filled an_law_filled : Option Addr} {sl_law_filled : Array (Option Value)} {oc_law_filled kV_law_filled dc_law_filled pm_law_filled cd_law_filled ct_law_filled : Value}
    (a_law_filled : PySem.W.nsIn K mainGlobals "_law_filled" = some (some (.ref f_law_filled)))
    (l_law_filled : K.lookup f_law_filled = some ⟨oc_law_filled, od_law_filled, .func (PySem.W.fnOf "_law_filled" "_law_filled" (defArgs s_law_filled) (defBody s_law_filled) (defScope s_law_filled) .none kV_law_filled dc_law_filled pm_law_filled an_law_filled cd_law_filled ct_law_filled), sl_law_filled⟩)
    (c_law_filled : PySem.W.codeIn K cd_law_filled "_law_filled" = true) (k_law_filled : PySem.W.keepIn K (.ref f_law_filled) = true)
    {f_law_no_common : Addr} {od_law_no_common an_law_no_common : Option Addr} {sl_law_no_common : Array (Option Value)} {oc_law_no_common kV_law_no_common dc_law_no_common pm_law_no_common cd_law_no_common ct_law_no_common : Value}
    (a_law_no_common : PySem.W.nsIn K mainGlobals "_law_no_common" = some (some (.ref f_law_no_common)))
    (l_law_no_common : K.lookup f_law_no_common = some ⟨oc_law_no_common, od_law_no_common, .func (PySem.W.fnOf "_law_no_common" "_law_no_common" (defArgs s_law_no_common) (defBody s_law_no_common) (defScope s_law_no_common) .none kV_law_no_common dc_law_no_common pm_law_no_common an_law_no_common cd_law_no_common ct_law_no_common), sl_law_no_common⟩)
    (c_law_no_common : PySem.W.codeIn K cd_law_no_common "_law_no_common" = true) (k_law_no_common : PySem.W.keepIn K (.ref f_law_no_common) = true)
    {f_law : Addr} {od_law an_law : Option Addr} {sl_law : Array (Option Value)} {oc_law kV_law dc_law pm_law cd_law ct_law : Value}
    (a_law : PySem.W.nsIn K mainGlobals "law" = some (some (.ref f_law)))
    (l_law : K.lookup f_law = some ⟨oc_law, od_law, .func (PySem.W.fnOf "law" "law" (defArgs s_law) (defBody s_law) (defScope s_law) .none kV_law dc_law pm_law an_law cd_law ct_law), sl_law⟩)
    (c_law : PySem.W.codeIn K cd_law "law" = true) (k_law : PySem.W.keepIn K (.ref f_law) = true)
    (z_bool : PySem.W.nsIn K mainGlobals "bool" = some none)
    (z_enumerate : PySem.W.nsIn K mainGlobals "enumerate" = some none)
    (z_int : PySem.W.nsIn K mainGlobals "int" = some none)
    (z_isinstance : PySem.W.nsIn K mainGlobals "isinstance" = some none)
    (z_len : PySem.W.nsIn K mainGlobals "len" = some none)
    (z_list : PySem.W.nsIn K mainGlobals "list" = some none)
    (z_min : PySem.W.nsIn K mainGlobals "min" = some none)
    (z_range : PySem.W.nsIn K mainGlobals "range" = some none)
    (z_sum : PySem.W.nsIn K mainGlobals "sum" = some none)
    (z_tuple : PySem.W.nsIn K mainGlobals "tuple" = some none)
    (z_zip : PySem.W.nsIn K mainGlobals "zip" = some none)
    {tk_MOST_MARKS : Tok} (y_MOST_MARKS : PySem.W.nsIn K mainGlobals "MOST_MARKS" = some (some (.int (6) tk_MOST_MARKS)))
    {tk_MOST_ROWS_frames : Tok} (y_MOST_ROWS_frames : PySem.W.nsIn K mainGlobals "MOST_ROWS_frames" = some (some (.int (64) tk_MOST_ROWS_frames)))
    {tk_MOST_ROWS_tables : Tok} (y_MOST_ROWS_tables : PySem.W.nsIn K mainGlobals "MOST_ROWS_tables" = some (some (.int (60) tk_MOST_ROWS_tables)))
    {tk_MOST_TABLES : Tok} (y_MOST_TABLES : PySem.W.nsIn K mainGlobals "MOST_TABLES" = some (some (.int (8) tk_MOST_TABLES)))
    {tk_MOST_WHOLE : Tok} (y_MOST_WHOLE : PySem.W.nsIn K mainGlobals "MOST_WHOLE" = some (some (.int (1000000000) tk_MOST_WHOLE))) :
    ∃ fd : FuncData, (∀ (s : Shared) (v : Value), BindsTo s fd ⟨[v], []⟩ [("_law_script", v)]) ∧ ∀ base : Heap, K.In base → base.Ns mainGlobals mg → FnOk l.prog w K mg base CX0 8 fa fd ["_law_script"] (liftSp K sp_law) := by
  have e := hfa.symm.trans (PySem.W.mg_of X G a_law)
  cases e
  have m_bool := PySem.W.mg_none_of X G z_bool
  have m_enumerate := PySem.W.mg_none_of X G z_enumerate
  have m_int := PySem.W.mg_none_of X G z_int
  have m_isinstance := PySem.W.mg_none_of X G z_isinstance
  have m_len := PySem.W.mg_none_of X G z_len
  have m_list := PySem.W.mg_none_of X G z_list
  have m_min := PySem.W.mg_none_of X G z_min
  have m_range := PySem.W.mg_none_of X G z_range
  have m_sum := PySem.W.mg_none_of X G z_sum
  have m_tuple := PySem.W.mg_none_of X G z_tuple
  have m_zip := PySem.W.mg_none_of X G z_zip
  have u_MOST_MARKS := PySem.W.mg_of X G y_MOST_MARKS
  have u_MOST_ROWS_frames := PySem.W.mg_of X G y_MOST_ROWS_frames
  have u_MOST_ROWS_tables := PySem.W.mg_of X G y_MOST_ROWS_tables
  have u_MOST_TABLES := PySem.W.mg_of X G y_MOST_TABLES
  have u_MOST_WHOLE := PySem.W.mg_of X G y_MOST_WHOLE
  have F_Filling_init := fun_mk (st := s_Filling_init) l_Filling_init c_Filling_init k_Filling_init
  have F_Filling_coming := fun_mk (st := s_Filling_coming) l_Filling_coming c_Filling_coming k_Filling_coming
  have F_Filling_going := fun_mk (st := s_Filling_going) l_Filling_going c_Filling_going k_Filling_going
  have F_Filling_cleared := fun_mk (st := s_Filling_cleared) l_Filling_cleared c_Filling_cleared k_Filling_cleared
  have F_Filling_turn := fun_mk (st := s_Filling_turn) l_Filling_turn c_Filling_turn k_Filling_turn
  have F_Filling_fill := fun_mk (st := s_Filling_fill) l_Filling_fill c_Filling_fill k_Filling_fill
  have F_greatest := fun_mk (st := s_greatest) l_greatest c_greatest k_greatest
  have F_is_whole := fun_mk (st := s_is_whole) l_is_whole c_is_whole k_is_whole
  have F_frame_of := fun_mk (st := s_frame_of) l_frame_of c_frame_of k_frame_of
  have F_is_group := fun_mk (st := s_is_group) l_is_group c_is_group k_is_group
  have F_rows_by := fun_mk (st := s_rows_by) l_rows_by c_rows_by k_rows_by
  have F_rows_of := fun_mk (st := s_rows_of) l_rows_of c_rows_of k_rows_of
  have F_all_rows := fun_mk (st := s_all_rows) l_all_rows c_all_rows k_all_rows
  have F_seen := fun_mk (st := s_seen) l_seen c_seen k_seen
  have F_as_tuple := fun_mk (st := s_as_tuple) l_as_tuple c_as_tuple k_as_tuple
  have F_parts_of := fun_mk (st := s_parts_of) l_parts_of c_parts_of k_parts_of
  have F_many_rows := fun_mk (st := s_many_rows) l_many_rows c_many_rows k_many_rows
  have F_is_counted := fun_mk (st := s_is_counted) l_is_counted c_is_counted k_is_counted
  have F_is_each_marked := fun_mk (st := s_is_each_marked) l_is_each_marked c_is_each_marked k_is_each_marked
  have F_family_of := fun_mk (st := s_family_of) l_family_of c_family_of k_family_of
  have F_whole := fun_mk (st := s_whole) l_whole c_whole k_whole
  have F_places_of := fun_mk (st := s_places_of) l_places_of c_places_of k_places_of
  have F_starts_of := fun_mk (st := s_starts_of) l_starts_of c_starts_of k_starts_of
  have F_filled := fun_mk (st := s_filled) l_filled c_filled k_filled
  have F_part := fun_mk (st := s_part) l_part c_part k_part
  have F_lowest := fun_mk (st := s_lowest) l_lowest c_lowest k_lowest
  have F_share := fun_mk (st := s_share) l_share c_share k_share
  have F_law_cell_at := fun_mk (st := s_law_cell_at) l_law_cell_at c_law_cell_at k_law_cell_at
  have F_law_state := fun_mk (st := s_law_state) l_law_state c_law_state k_law_state
  have F_law_take := fun_mk (st := s_law_take) l_law_take c_law_take k_law_take
  have F_law_kinds := fun_mk (st := s_law_kinds) l_law_kinds c_law_kinds k_law_kinds
  have F_law_rows := fun_mk (st := s_law_rows) l_law_rows c_law_rows k_law_rows
  have F_law_groups := fun_mk (st := s_law_groups) l_law_groups c_law_groups k_law_groups
  have F_law_sums := fun_mk (st := s_law_sums) l_law_sums c_law_sums k_law_sums
  have F_law_numbers := fun_mk (st := s_law_numbers) l_law_numbers c_law_numbers k_law_numbers
  have F_law_any_counts := fun_mk (st := s_law_any_counts) l_law_any_counts c_law_any_counts k_law_any_counts
  have F_law_bent := fun_mk (st := s_law_bent) l_law_bent c_law_bent k_law_bent
  have F_law_tables := fun_mk (st := s_law_tables) l_law_tables c_law_tables k_law_tables
  have F_law_drawn := fun_mk (st := s_law_drawn) l_law_drawn c_law_drawn k_law_drawn
  have F_law_is_whole := fun_mk (st := s_law_is_whole) l_law_is_whole c_law_is_whole k_law_is_whole
  have F_law_order := fun_mk (st := s_law_order) l_law_order c_law_order k_law_order
  have F_law_keys := fun_mk (st := s_law_keys) l_law_keys c_law_keys k_law_keys
  have F_law_filled := fun_mk (st := s_law_filled) l_law_filled c_law_filled k_law_filled
  have F_law_no_common := fun_mk (st := s_law_no_common) l_law_no_common c_law_no_common k_law_no_common
  have F_law := fun_mk (st := s_law) l_law c_law k_law
  have cl_Filling : Cls K c_Filling := ⟨pg_Filling, hd_Filling, po_Filling, sa_Filling⟩
  have D_Filling_init : DfM K c_Filling "__init__" "Filling.__init__" ["self", "members", "caps", "weights"] s_Filling_init := ⟨_, _, F_Filling_init, ⟨a_Filling_init, i_Filling_init, k_Filling_init⟩, F_Filling_init.binds fun _ _ _ _ _ _ us hl => match us, hl with | [_, _, _, _], _ => rfl⟩
  have D_Filling_coming : DfM K c_Filling "coming" "Filling.coming" ["self"] s_Filling_coming := ⟨_, _, F_Filling_coming, ⟨a_Filling_coming, i_Filling_coming, k_Filling_coming⟩, F_Filling_coming.binds fun _ _ _ _ _ _ us hl => match us, hl with | [_], _ => rfl⟩
  have D_Filling_going : DfM K c_Filling "going" "Filling.going" ["self", "column"] s_Filling_going := ⟨_, _, F_Filling_going, ⟨a_Filling_going, i_Filling_going, k_Filling_going⟩, F_Filling_going.binds fun _ _ _ _ _ _ us hl => match us, hl with | [_, _], _ => rfl⟩
  have D_Filling_cleared : DfM K c_Filling "cleared" "Filling.cleared" ["self", "line", "turning", "column"] s_Filling_cleared := ⟨_, _, F_Filling_cleared, ⟨a_Filling_cleared, i_Filling_cleared, k_Filling_cleared⟩, F_Filling_cleared.binds fun _ _ _ _ _ _ us hl => match us, hl with | [_, _, _, _], _ => rfl⟩
  have D_Filling_turn : DfM K c_Filling "turn" "Filling.turn" ["self", "at", "column"] s_Filling_turn := ⟨_, _, F_Filling_turn, ⟨a_Filling_turn, i_Filling_turn, k_Filling_turn⟩, F_Filling_turn.binds fun _ _ _ _ _ _ us hl => match us, hl with | [_, _, _], _ => rfl⟩
  have D_Filling_fill : DfM K c_Filling "fill" "Filling.fill" ["self"] s_Filling_fill := ⟨_, _, F_Filling_fill, ⟨a_Filling_fill, i_Filling_fill, k_Filling_fill⟩, F_Filling_fill.binds fun _ _ _ _ _ _ us hl => match us, hl with | [_], _ => rfl⟩
  have D_greatest : Df K mg "greatest" ["members", "caps", "weights"] s_greatest := ⟨_, _, F_greatest, PySem.W.mg_of X G a_greatest, F_greatest.binds fun _ _ _ _ _ _ us hl => match us, hl with | [_, _, _], _ => rfl⟩
  have D_is_whole : Df K mg "is_whole" ["thing"] s_is_whole := ⟨_, _, F_is_whole, PySem.W.mg_of X G a_is_whole, F_is_whole.binds fun _ _ _ _ _ _ us hl => match us, hl with | [_], _ => rfl⟩
  have D_frame_of : Df K mg "frame_of" ["kinds"] s_frame_of := ⟨_, _, F_frame_of, PySem.W.mg_of X G a_frame_of, F_frame_of.binds fun _ _ _ _ _ _ us hl => match us, hl with | [_], _ => rfl⟩
  have D_is_group : Df K mg "is_group" ["frame", "thing"] s_is_group := ⟨_, _, F_is_group, PySem.W.mg_of X G a_is_group, F_is_group.binds fun _ _ _ _ _ _ us hl => match us, hl with | [_, _], _ => rfl⟩
  have D_rows_by : Df K mg "rows_by" ["kinds"] s_rows_by := ⟨_, _, F_rows_by, PySem.W.mg_of X G a_rows_by, F_rows_by.binds fun _ _ _ _ _ _ us hl => match us, hl with | [_], _ => rfl⟩
  have D_rows_of : Df K mg "rows_of" ["frame", "group"] s_rows_of := ⟨_, _, F_rows_of, PySem.W.mg_of X G a_rows_of, F_rows_of.binds fun _ _ _ _ _ _ us hl => match us, hl with | [_, _], _ => rfl⟩
  have D_all_rows : Df K mg "all_rows" ["frame"] s_all_rows := ⟨_, _, F_all_rows, PySem.W.mg_of X G a_all_rows, F_all_rows.binds fun _ _ _ _ _ _ us hl => match us, hl with | [_], _ => rfl⟩
  have D_seen : Df K mg "seen" ["group", "row", "part"] s_seen := ⟨_, _, F_seen, PySem.W.mg_of X G a_seen, F_seen.binds fun _ _ _ _ _ _ us hl => match us, hl with | [_, _, _], _ => rfl⟩
  have D_as_tuple : Df K mg "as_tuple" ["thing"] s_as_tuple := ⟨_, _, F_as_tuple, PySem.W.mg_of X G a_as_tuple, F_as_tuple.binds fun _ _ _ _ _ _ us hl => match us, hl with | [_], _ => rfl⟩
  have D_parts_of : Df K mg "parts_of" ["thing"] s_parts_of := ⟨_, _, F_parts_of, PySem.W.mg_of X G a_parts_of, F_parts_of.binds fun _ _ _ _ _ _ us hl => match us, hl with | [_], _ => rfl⟩
  have D_many_rows : Df K mg "many_rows" ["frame", "tables"] s_many_rows := ⟨_, _, F_many_rows, PySem.W.mg_of X G a_many_rows, F_many_rows.binds fun _ _ _ _ _ _ us hl => match us, hl with | [_, _], _ => rfl⟩
  have D_is_counted : Df K mg "is_counted" ["frame", "group", "counts"] s_is_counted := ⟨_, _, F_is_counted, PySem.W.mg_of X G a_is_counted, F_is_counted.binds fun _ _ _ _ _ _ us hl => match us, hl with | [_, _, _], _ => rfl⟩
  have D_is_each_marked : Df K mg "is_each_marked" ["frame", "tables"] s_is_each_marked := ⟨_, _, F_is_each_marked, PySem.W.mg_of X G a_is_each_marked, F_is_each_marked.binds fun _ _ _ _ _ _ us hl => match us, hl with | [_, _], _ => rfl⟩
  have D_family_of : Df K mg "family_of" ["frame", "tables"] s_family_of := ⟨_, _, F_family_of, PySem.W.mg_of X G a_family_of, F_family_of.binds fun _ _ _ _ _ _ us hl => match us, hl with | [_, _], _ => rfl⟩
  have D_whole : Df K mg "whole" ["family"] s_whole := ⟨_, _, F_whole, PySem.W.mg_of X G a_whole, F_whole.binds fun _ _ _ _ _ _ us hl => match us, hl with | [_], _ => rfl⟩
  have D_places_of : Df K mg "places_of" ["family"] s_places_of := ⟨_, _, F_places_of, PySem.W.mg_of X G a_places_of, F_places_of.binds fun _ _ _ _ _ _ us hl => match us, hl with | [_], _ => rfl⟩
  have D_starts_of : Df K mg "starts_of" ["family"] s_starts_of := ⟨_, _, F_starts_of, PySem.W.mg_of X G a_starts_of, F_starts_of.binds fun _ _ _ _ _ _ us hl => match us, hl with | [_], _ => rfl⟩
  have D_filled : Df K mg "filled" ["family", "weights"] s_filled := ⟨_, _, F_filled, PySem.W.mg_of X G a_filled, F_filled.binds fun _ _ _ _ _ _ us hl => match us, hl with | [_, _], _ => rfl⟩
  have D_part : Df K mg "part" ["family"] s_part := ⟨_, _, F_part, PySem.W.mg_of X G a_part, F_part.binds fun _ _ _ _ _ _ us hl => match us, hl with | [_], _ => rfl⟩
  have D_lowest : Df K mg "lowest" ["top", "bottom"] s_lowest := ⟨_, _, F_lowest, PySem.W.mg_of X G a_lowest, F_lowest.binds fun _ _ _ _ _ _ us hl => match us, hl with | [_, _], _ => rfl⟩
  have D_share : Df K mg "share" ["family"] s_share := ⟨_, _, F_share, PySem.W.mg_of X G a_share, F_share.binds fun _ _ _ _ _ _ us hl => match us, hl with | [_], _ => rfl⟩
  have D_law_cell_at : Df K mg "_law_cell_at" ["_law_script", "_law_k"] s_law_cell_at := ⟨_, _, F_law_cell_at, PySem.W.mg_of X G a_law_cell_at, F_law_cell_at.binds fun _ _ _ _ _ _ us hl => match us, hl with | [_, _], _ => rfl⟩
  have D_law_state : Df K mg "_law_state" ["_law_script", "_law_k"] s_law_state := ⟨_, _, F_law_state, PySem.W.mg_of X G a_law_state, F_law_state.binds fun _ _ _ _ _ _ us hl => match us, hl with | [_, _], _ => rfl⟩
  have D_law_take : Df K mg "_law_take" ["_law_state_here", "_law_many"] s_law_take := ⟨_, _, F_law_take, PySem.W.mg_of X G a_law_take, F_law_take.binds fun _ _ _ _ _ _ us hl => match us, hl with | [_, _], _ => rfl⟩
  have D_law_kinds : Df K mg "_law_kinds" ["_law_state_here", "_law_limit"] s_law_kinds := ⟨_, _, F_law_kinds, PySem.W.mg_of X G a_law_kinds, F_law_kinds.binds fun _ _ _ _ _ _ us hl => match us, hl with | [_, _], _ => rfl⟩
  have D_law_rows : Df K mg "_law_rows" ["_law_kinds_here"] s_law_rows := ⟨_, _, F_law_rows, PySem.W.mg_of X G a_law_rows, F_law_rows.binds fun _ _ _ _ _ _ us hl => match us, hl with | [_], _ => rfl⟩
  have D_law_groups : Df K mg "_law_groups" ["_law_state_here", "_law_kinds_here", "_law_limit"] s_law_groups := ⟨_, _, F_law_groups, PySem.W.mg_of X G a_law_groups, F_law_groups.binds fun _ _ _ _ _ _ us hl => match us, hl with | [_, _, _], _ => rfl⟩
  have D_law_sums : Df K mg "_law_sums" ["_law_kinds_here", "_law_group", "_law_numbers_here"] s_law_sums := ⟨_, _, F_law_sums, PySem.W.mg_of X G a_law_sums, F_law_sums.binds fun _ _ _ _ _ _ us hl => match us, hl with | [_, _, _], _ => rfl⟩
  have D_law_numbers : Df K mg "_law_numbers" ["_law_state_here", "_law_many"] s_law_numbers := ⟨_, _, F_law_numbers, PySem.W.mg_of X G a_law_numbers, F_law_numbers.binds fun _ _ _ _ _ _ us hl => match us, hl with | [_, _], _ => rfl⟩
  have D_law_any_counts : Df K mg "_law_any_counts" ["_law_state_here", "_law_many", "_law_full"] s_law_any_counts := ⟨_, _, F_law_any_counts, PySem.W.mg_of X G a_law_any_counts, F_law_any_counts.binds fun _ _ _ _ _ _ us hl => match us, hl with | [_, _, _], _ => rfl⟩
  have D_law_bent : Df K mg "_law_bent" ["_law_state_here", "_law_tables_here"] s_law_bent := ⟨_, _, F_law_bent, PySem.W.mg_of X G a_law_bent, F_law_bent.binds fun _ _ _ _ _ _ us hl => match us, hl with | [_, _], _ => rfl⟩
  have D_law_tables : Df K mg "_law_tables" ["_law_state_here", "_law_kinds_here", "_law_groups_here", "_law_way"] s_law_tables := ⟨_, _, F_law_tables, PySem.W.mg_of X G a_law_tables, F_law_tables.binds fun _ _ _ _ _ _ us hl => match us, hl with | [_, _, _, _], _ => rfl⟩
  have D_law_drawn : Df K mg "_law_drawn" ["_law_script", "_law_k", "_law_limit"] s_law_drawn := ⟨_, _, F_law_drawn, PySem.W.mg_of X G a_law_drawn, F_law_drawn.binds fun _ _ _ _ _ _ us hl => match us, hl with | [_, _, _], _ => rfl⟩
  have D_law_is_whole : Df K mg "_law_is_whole" ["_law_thing"] s_law_is_whole := ⟨_, _, F_law_is_whole, PySem.W.mg_of X G a_law_is_whole, F_law_is_whole.binds fun _ _ _ _ _ _ us hl => match us, hl with | [_], _ => rfl⟩
  have D_law_order : Df K mg "_law_order" ["_law_state_here", "_law_many"] s_law_order := ⟨_, _, F_law_order, PySem.W.mg_of X G a_law_order, F_law_order.binds fun _ _ _ _ _ _ us hl => match us, hl with | [_, _], _ => rfl⟩
  have D_law_keys : Df K mg "_law_keys" ["_law_kinds_here", "_law_tables_here"] s_law_keys := ⟨_, _, F_law_keys, PySem.W.mg_of X G a_law_keys, F_law_keys.binds fun _ _ _ _ _ _ us hl => match us, hl with | [_, _], _ => rfl⟩
  have D_law_filled : Df K mg "_law_filled" ["_law_kinds_here", "_law_tables_here", "_law_order_here"] s_law_filled := ⟨_, _, F_law_filled, PySem.W.mg_of X G a_law_filled, F_law_filled.binds fun _ _ _ _ _ _ us hl => match us, hl with | [_, _, _], _ => rfl⟩
  have D_law_no_common : Df K mg "_law_no_common" ["_law_top", "_law_bottom"] s_law_no_common := ⟨_, _, F_law_no_common, PySem.W.mg_of X G a_law_no_common, F_law_no_common.binds fun _ _ _ _ _ _ us hl => match us, hl with | [_, _], _ => rfl⟩
  refine ⟨PySem.W.fnOf "law" "law" (defArgs s_law) (defBody s_law) (defScope s_law) .none kV_law dc_law pm_law an_law cd_law ct_law, fun s v => .of_eq rfl, fun base _ _ => ?_⟩
  have C_Filling_init := ok_Filling_init (P := l.prog) (w := w) (base := base) m_int m_len m_range cl_Filling nf_Filling_goal nf_Filling_lines nf_Filling_owners nf_Filling_scale D_Filling_init
  have K_Filling := ClM.mk C_Filling_init mk_Filling kc_Filling (PySem.W.mg_of X G a_Filling)
  have C_Filling_coming := ok_Filling_coming (P := l.prog) (w := w) (base := base) m_len m_range cl_Filling nf_Filling_goal D_Filling_coming
  have C_Filling_going := ok_Filling_going (P := l.prog) (w := w) (base := base) m_len m_range cl_Filling nf_Filling_lines nf_Filling_owners D_Filling_going
  have C_Filling_cleared := ok_Filling_cleared (P := l.prog) (w := w) (base := base) m_len m_range cl_Filling nf_Filling_scale D_Filling_cleared
  have C_Filling_turn := ok_Filling_turn (P := l.prog) (w := w) (base := base) m_len m_range cl_Filling nf_Filling_goal nf_Filling_lines nf_Filling_owners nf_Filling_scale C_Filling_cleared D_Filling_turn
  have C_Filling_fill := ok_Filling_fill (P := l.prog) (w := w) (base := base) cl_Filling C_Filling_coming C_Filling_going C_Filling_turn D_Filling_fill
  have C_greatest := ok_greatest (P := l.prog) (w := w) (base := base) D_greatest m_len m_zip cl_Filling nf_Filling_goal nf_Filling_lines nf_Filling_owners nf_Filling_scale K_Filling C_Filling_fill
  have C_is_whole := ok_is_whole (P := l.prog) (w := w) (base := base) D_is_whole m_bool m_int m_isinstance
  have C_frame_of := ok_frame_of (P := l.prog) (w := w) (base := base) D_frame_of m_isinstance m_len m_list m_tuple u_MOST_MARKS u_MOST_ROWS_frames C_is_whole
  have C_is_group := ok_is_group (P := l.prog) (w := w) (base := base) D_is_group m_isinstance m_len m_tuple C_is_whole
  have C_rows_by := ok_rows_by (P := l.prog) (w := w) (base := base) D_rows_by m_range
  have C_rows_of := ok_rows_of (P := l.prog) (w := w) (base := base) D_rows_of C_rows_by
  have C_all_rows := ok_all_rows (P := l.prog) (w := w) (base := base) D_all_rows C_rows_by
  have C_seen := ok_seen (P := l.prog) (w := w) (base := base) D_seen m_tuple
  have C_as_tuple := ok_as_tuple (P := l.prog) (w := w) (base := base) D_as_tuple m_isinstance m_list m_tuple
  have C_parts_of := ok_parts_of (P := l.prog) (w := w) (base := base) D_parts_of m_isinstance m_len m_tuple C_as_tuple
  have C_many_rows := ok_many_rows (P := l.prog) (w := w) (base := base) D_many_rows m_len m_sum C_is_group C_rows_of
  have C_is_counted := ok_is_counted (P := l.prog) (w := w) (base := base) D_is_counted m_isinstance m_len m_sum m_tuple u_MOST_WHOLE C_rows_of C_is_whole
  have C_is_each_marked := ok_is_each_marked (P := l.prog) (w := w) (base := base) D_is_each_marked m_len m_range
  have C_family_of := ok_family_of (P := l.prog) (w := w) (base := base) D_family_of m_enumerate m_len m_sum m_tuple u_MOST_ROWS_tables u_MOST_TABLES C_frame_of C_parts_of C_many_rows C_is_counted C_is_group C_is_each_marked
  have C_whole := ok_whole (P := l.prog) (w := w) (base := base) D_whole m_sum
  have C_places_of := ok_places_of (P := l.prog) (w := w) (base := base) D_places_of m_len m_range m_tuple C_rows_of C_all_rows C_seen
  have C_starts_of := ok_starts_of (P := l.prog) (w := w) (base := base) D_starts_of m_len
  have C_filled := ok_filled (P := l.prog) (w := w) (base := base) D_filled m_len m_range C_starts_of C_places_of C_greatest
  have C_part := ok_part (P := l.prog) (w := w) (base := base) D_part m_len C_all_rows C_filled
  have C_lowest := ok_lowest (P := l.prog) (w := w) (base := base) D_lowest 
  have C_share := ok_share (P := l.prog) (w := w) (base := base) D_share m_sum C_part C_whole C_lowest
  have C_law_cell_at := ok_law_cell_at (P := l.prog) (w := w) (base := base) D_law_cell_at m_len
  have C_law_state := ok_law_state (P := l.prog) (w := w) (base := base) D_law_state C_law_cell_at
  have C_law_take := ok_law_take (P := l.prog) (w := w) (base := base) D_law_take 
  have C_law_kinds := ok_law_kinds (P := l.prog) (w := w) (base := base) D_law_kinds m_range m_tuple C_law_take
  have C_law_rows := ok_law_rows (P := l.prog) (w := w) (base := base) D_law_rows m_range
  have C_law_groups := ok_law_groups (P := l.prog) (w := w) (base := base) D_law_groups m_len m_range m_tuple C_law_take C_law_rows
  have C_law_sums := ok_law_sums (P := l.prog) (w := w) (base := base) D_law_sums m_list m_tuple m_zip C_law_rows
  have C_law_numbers := ok_law_numbers (P := l.prog) (w := w) (base := base) D_law_numbers m_range C_law_take
  have C_law_any_counts := ok_law_any_counts (P := l.prog) (w := w) (base := base) D_law_any_counts m_range C_law_take
  have C_law_bent := ok_law_bent (P := l.prog) (w := w) (base := base) D_law_bent m_len m_min m_range C_law_take
  have C_law_tables := ok_law_tables (P := l.prog) (w := w) (base := base) D_law_tables m_len C_law_rows C_law_numbers C_law_sums C_law_bent C_law_take C_law_any_counts
  have C_law_drawn := ok_law_drawn (P := l.prog) (w := w) (base := base) D_law_drawn C_law_state C_law_kinds C_law_groups C_law_take C_law_tables
  have C_law_is_whole := ok_law_is_whole (P := l.prog) (w := w) (base := base) D_law_is_whole m_bool m_int m_isinstance
  have C_law_order := ok_law_order (P := l.prog) (w := w) (base := base) D_law_order m_len m_range C_law_take
  have C_law_keys := ok_law_keys (P := l.prog) (w := w) (base := base) D_law_keys m_len m_range m_tuple C_law_rows
  have C_law_filled := ok_law_filled (P := l.prog) (w := w) (base := base) D_law_filled m_len m_min m_range m_zip C_law_rows C_law_keys
  have C_law_no_common := ok_law_no_common (P := l.prog) (w := w) (base := base) D_law_no_common 
  exact ok_law F_law m_isinstance m_len m_range m_sum m_tuple C_law_drawn C_family_of C_share C_law_is_whole C_whole C_law_no_common C_part C_law_rows C_law_state C_law_order C_law_filled
end Law
open PySem PySem.W PyProof.Rows
set_option maxHeartbeats 0 in
theorem PySem.Challenge.cw_gluedtables_k28_whole_no_greater_part_holds : PySem.Challenge.rw_gluedtables_k28_whole_no_greater_part.Holds := by
  w_on; o_law; k_head; (case hw => w_witness2)
  k_fill
  refine L2.walk_of (l := PySem.Challenge.rw_gluedtables_k28_whole_no_greater_part) (n := 63) (k := 8) (x := "_law_script") (CX := fun _ => L2.CX0) (sp := fun w => GL.liftSp _ Law.sp_law) rfl (by decide) rfl ⟨rfl, by decide, by decide⟩ (fun w h Y => PySem.W.kIn_of Y) ?F (fun _ H a ns hl _ hS => GL.law_start (fun ns R Ex hl q => Law.law_init hl q) H a ns hl hS) (fun _ _ _ _ _ h => h)
  case F =>
    intro w mg fa h KX G hmg
    refine' Law.all_mk KX G hmg (a_Filling := ?a_Filling) (pg_Filling := ?pg_Filling) (hd_Filling := ?hd_Filling) (po_Filling := ?po_Filling) (sa_Filling := ?sa_Filling) (mk_Filling := ?mk_Filling) (kc_Filling := ?kc_Filling) (nf_Filling_lines := ?nf_Filling_lines) (nf_Filling_goal := ?nf_Filling_goal) (nf_Filling_owners := ?nf_Filling_owners) (nf_Filling_scale := ?nf_Filling_scale) (a_Filling_init := ?a_Filling_init) (i_Filling_init := ?i_Filling_init) (l_Filling_init := ?l_Filling_init) (c_Filling_init := ?c_Filling_init) (k_Filling_init := ?k_Filling_init) (a_Filling_coming := ?a_Filling_coming) (i_Filling_coming := ?i_Filling_coming) (l_Filling_coming := ?l_Filling_coming) (c_Filling_coming := ?c_Filling_coming) (k_Filling_coming := ?k_Filling_coming) (a_Filling_going := ?a_Filling_going) (i_Filling_going := ?i_Filling_going) (l_Filling_going := ?l_Filling_going) (c_Filling_going := ?c_Filling_going) (k_Filling_going := ?k_Filling_going) (a_Filling_cleared := ?a_Filling_cleared) (i_Filling_cleared := ?i_Filling_cleared) (l_Filling_cleared := ?l_Filling_cleared) (c_Filling_cleared := ?c_Filling_cleared) (k_Filling_cleared := ?k_Filling_cleared) (a_Filling_turn := ?a_Filling_turn) (i_Filling_turn := ?i_Filling_turn) (l_Filling_turn := ?l_Filling_turn) (c_Filling_turn := ?c_Filling_turn) (k_Filling_turn := ?k_Filling_turn) (a_Filling_fill := ?a_Filling_fill) (i_Filling_fill := ?i_Filling_fill) (l_Filling_fill := ?l_Filling_fill) (c_Filling_fill := ?c_Filling_fill) (k_Filling_fill := ?k_Filling_fill) (a_greatest := ?a_greatest) (l_greatest := ?l_greatest) (c_greatest := ?c_greatest) (k_greatest := ?k_greatest) (a_is_whole := ?a_is_whole) (l_is_whole := ?l_is_whole) (c_is_whole := ?c_is_whole) (k_is_whole := ?k_is_whole) (a_frame_of := ?a_frame_of) (l_frame_of := ?l_frame_of) (c_frame_of := ?c_frame_of) (k_frame_of := ?k_frame_of) (a_is_group := ?a_is_group) (l_is_group := ?l_is_group) (c_is_group := ?c_is_group) (k_is_group := ?k_is_group) (a_rows_by := ?a_rows_by) (l_rows_by := ?l_rows_by) (c_rows_by := ?c_rows_by) (k_rows_by := ?k_rows_by) (a_rows_of := ?a_rows_of) (l_rows_of := ?l_rows_of) (c_rows_of := ?c_rows_of) (k_rows_of := ?k_rows_of) (a_all_rows := ?a_all_rows) (l_all_rows := ?l_all_rows) (c_all_rows := ?c_all_rows) (k_all_rows := ?k_all_rows) (a_seen := ?a_seen) (l_seen := ?l_seen) (c_seen := ?c_seen) (k_seen := ?k_seen) (a_as_tuple := ?a_as_tuple) (l_as_tuple := ?l_as_tuple) (c_as_tuple := ?c_as_tuple) (k_as_tuple := ?k_as_tuple) (a_parts_of := ?a_parts_of) (l_parts_of := ?l_parts_of) (c_parts_of := ?c_parts_of) (k_parts_of := ?k_parts_of) (a_many_rows := ?a_many_rows) (l_many_rows := ?l_many_rows) (c_many_rows := ?c_many_rows) (k_many_rows := ?k_many_rows) (a_is_counted := ?a_is_counted) (l_is_counted := ?l_is_counted) (c_is_counted := ?c_is_counted) (k_is_counted := ?k_is_counted) (a_is_each_marked := ?a_is_each_marked) (l_is_each_marked := ?l_is_each_marked) (c_is_each_marked := ?c_is_each_marked) (k_is_each_marked := ?k_is_each_marked) (a_family_of := ?a_family_of) (l_family_of := ?l_family_of) (c_family_of := ?c_family_of) (k_family_of := ?k_family_of) (a_whole := ?a_whole) (l_whole := ?l_whole) (c_whole := ?c_whole) (k_whole := ?k_whole) (a_places_of := ?a_places_of) (l_places_of := ?l_places_of) (c_places_of := ?c_places_of) (k_places_of := ?k_places_of) (a_starts_of := ?a_starts_of) (l_starts_of := ?l_starts_of) (c_starts_of := ?c_starts_of) (k_starts_of := ?k_starts_of) (a_filled := ?a_filled) (l_filled := ?l_filled) (c_filled := ?c_filled) (k_filled := ?k_filled) (a_part := ?a_part) (l_part := ?l_part) (c_part := ?c_part) (k_part := ?k_part) (a_lowest := ?a_lowest) (l_lowest := ?l_lowest) (c_lowest := ?c_lowest) (k_lowest := ?k_lowest) (a_share := ?a_share) (l_share := ?l_share) (c_share := ?c_share) (k_share := ?k_share) (a_law_cell_at := ?a_law_cell_at) (l_law_cell_at := ?l_law_cell_at) (c_law_cell_at := ?c_law_cell_at) (k_law_cell_at := ?k_law_cell_at) (a_law_state := ?a_law_state) (l_law_state := ?l_law_state) (c_law_state := ?c_law_state) (k_law_state := ?k_law_state) (a_law_take := ?a_law_take) (l_law_take := ?l_law_take) (c_law_take := ?c_law_take) (k_law_take := ?k_law_take) (a_law_kinds := ?a_law_kinds) (l_law_kinds := ?l_law_kinds) (c_law_kinds := ?c_law_kinds) (k_law_kinds := ?k_law_kinds) (a_law_rows := ?a_law_rows) (l_law_rows := ?l_law_rows) (c_law_rows := ?c_law_rows) (k_law_rows := ?k_law_rows) (a_law_groups := ?a_law_groups) (l_law_groups := ?l_law_groups) (c_law_groups := ?c_law_groups) (k_law_groups := ?k_law_groups) (a_law_sums := ?a_law_sums) (l_law_sums := ?l_law_sums) (c_law_sums := ?c_law_sums) (k_law_sums := ?k_law_sums) (a_law_numbers := ?a_law_numbers) (l_law_numbers := ?l_law_numbers) (c_law_numbers := ?c_law_numbers) (k_law_numbers := ?k_law_numbers) (a_law_any_counts := ?a_law_any_counts) (l_law_any_counts := ?l_law_any_counts) (c_law_any_counts := ?c_law_any_counts) (k_law_any_counts := ?k_law_any_counts) (a_law_bent := ?a_law_bent) (l_law_bent := ?l_law_bent) (c_law_bent := ?c_law_bent) (k_law_bent := ?k_law_bent) (a_law_tables := ?a_law_tables) (l_law_tables := ?l_law_tables) (c_law_tables := ?c_law_tables) (k_law_tables := ?k_law_tables) (a_law_drawn := ?a_law_drawn) (l_law_drawn := ?l_law_drawn) (c_law_drawn := ?c_law_drawn) (k_law_drawn := ?k_law_drawn) (a_law_is_whole := ?a_law_is_whole) (l_law_is_whole := ?l_law_is_whole) (c_law_is_whole := ?c_law_is_whole) (k_law_is_whole := ?k_law_is_whole) (a_law_order := ?a_law_order) (l_law_order := ?l_law_order) (c_law_order := ?c_law_order) (k_law_order := ?k_law_order) (a_law_keys := ?a_law_keys) (l_law_keys := ?l_law_keys) (c_law_keys := ?c_law_keys) (k_law_keys := ?k_law_keys) (a_law_filled := ?a_law_filled) (l_law_filled := ?l_law_filled) (c_law_filled := ?c_law_filled) (k_law_filled := ?k_law_filled) (a_law_no_common := ?a_law_no_common) (l_law_no_common := ?l_law_no_common) (c_law_no_common := ?c_law_no_common) (k_law_no_common := ?k_law_no_common) (a_law := ?a_law) (l_law := ?l_law) (c_law := ?c_law) (k_law := ?k_law) (z_bool := ?z_bool) (z_enumerate := ?z_enumerate) (z_int := ?z_int) (z_isinstance := ?z_isinstance) (z_len := ?z_len) (z_list := ?z_list) (z_min := ?z_min) (z_range := ?z_range) (z_sum := ?z_sum) (z_tuple := ?z_tuple) (z_zip := ?z_zip) (y_MOST_MARKS := ?y_MOST_MARKS) (y_MOST_ROWS_frames := ?y_MOST_ROWS_frames) (y_MOST_ROWS_tables := ?y_MOST_ROWS_tables) (y_MOST_TABLES := ?y_MOST_TABLES) (y_MOST_WHOLE := ?y_MOST_WHOLE)
    (case a_Filling => k_is); (case pg_Filling => k_is); (case hd_Filling => k_is); (case po_Filling => k_is); (case sa_Filling => k_is); (case mk_Filling => k_is); (case kc_Filling => k_is); (case nf_Filling_lines => k_is); (case nf_Filling_goal => k_is); (case nf_Filling_owners => k_is); (case nf_Filling_scale => k_is); (case a_Filling_init => k_is); (case i_Filling_init => k_is); (case l_Filling_init => k_is); (case c_Filling_init => k_is); (case k_Filling_init => k_is); (case a_Filling_coming => k_is); (case i_Filling_coming => k_is); (case l_Filling_coming => k_is); (case c_Filling_coming => k_is); (case k_Filling_coming => k_is); (case a_Filling_going => k_is); (case i_Filling_going => k_is); (case l_Filling_going => k_is); (case c_Filling_going => k_is); (case k_Filling_going => k_is); (case a_Filling_cleared => k_is); (case i_Filling_cleared => k_is); (case l_Filling_cleared => k_is); (case c_Filling_cleared => k_is); (case k_Filling_cleared => k_is); (case a_Filling_turn => k_is); (case i_Filling_turn => k_is); (case l_Filling_turn => k_is); (case c_Filling_turn => k_is); (case k_Filling_turn => k_is); (case a_Filling_fill => k_is); (case i_Filling_fill => k_is); (case l_Filling_fill => k_is); (case c_Filling_fill => k_is); (case k_Filling_fill => k_is); (case a_greatest => k_is); (case l_greatest => k_is); (case c_greatest => k_is); (case k_greatest => k_is); (case a_is_whole => k_is); (case l_is_whole => k_is); (case c_is_whole => k_is); (case k_is_whole => k_is); (case a_frame_of => k_is); (case l_frame_of => k_is); (case c_frame_of => k_is); (case k_frame_of => k_is); (case a_is_group => k_is); (case l_is_group => k_is); (case c_is_group => k_is); (case k_is_group => k_is); (case a_rows_by => k_is); (case l_rows_by => k_is); (case c_rows_by => k_is); (case k_rows_by => k_is); (case a_rows_of => k_is); (case l_rows_of => k_is); (case c_rows_of => k_is); (case k_rows_of => k_is); (case a_all_rows => k_is); (case l_all_rows => k_is); (case c_all_rows => k_is); (case k_all_rows => k_is); (case a_seen => k_is); (case l_seen => k_is); (case c_seen => k_is); (case k_seen => k_is); (case a_as_tuple => k_is); (case l_as_tuple => k_is); (case c_as_tuple => k_is); (case k_as_tuple => k_is); (case a_parts_of => k_is); (case l_parts_of => k_is); (case c_parts_of => k_is); (case k_parts_of => k_is); (case a_many_rows => k_is); (case l_many_rows => k_is); (case c_many_rows => k_is); (case k_many_rows => k_is); (case a_is_counted => k_is); (case l_is_counted => k_is); (case c_is_counted => k_is); (case k_is_counted => k_is); (case a_is_each_marked => k_is); (case l_is_each_marked => k_is); (case c_is_each_marked => k_is); (case k_is_each_marked => k_is); (case a_family_of => k_is); (case l_family_of => k_is); (case c_family_of => k_is); (case k_family_of => k_is); (case a_whole => k_is); (case l_whole => k_is); (case c_whole => k_is); (case k_whole => k_is); (case a_places_of => k_is); (case l_places_of => k_is); (case c_places_of => k_is); (case k_places_of => k_is); (case a_starts_of => k_is); (case l_starts_of => k_is); (case c_starts_of => k_is); (case k_starts_of => k_is); (case a_filled => k_is); (case l_filled => k_is); (case c_filled => k_is); (case k_filled => k_is); (case a_part => k_is); (case l_part => k_is); (case c_part => k_is); (case k_part => k_is); (case a_lowest => k_is); (case l_lowest => k_is); (case c_lowest => k_is); (case k_lowest => k_is); (case a_share => k_is); (case l_share => k_is); (case c_share => k_is); (case k_share => k_is); (case a_law_cell_at => k_is); (case l_law_cell_at => k_is); (case c_law_cell_at => k_is); (case k_law_cell_at => k_is); (case a_law_state => k_is); (case l_law_state => k_is); (case c_law_state => k_is); (case k_law_state => k_is); (case a_law_take => k_is); (case l_law_take => k_is); (case c_law_take => k_is); (case k_law_take => k_is); (case a_law_kinds => k_is); (case l_law_kinds => k_is); (case c_law_kinds => k_is); (case k_law_kinds => k_is); (case a_law_rows => k_is); (case l_law_rows => k_is); (case c_law_rows => k_is); (case k_law_rows => k_is); (case a_law_groups => k_is); (case l_law_groups => k_is); (case c_law_groups => k_is); (case k_law_groups => k_is); (case a_law_sums => k_is); (case l_law_sums => k_is); (case c_law_sums => k_is); (case k_law_sums => k_is); (case a_law_numbers => k_is); (case l_law_numbers => k_is); (case c_law_numbers => k_is); (case k_law_numbers => k_is); (case a_law_any_counts => k_is); (case l_law_any_counts => k_is); (case c_law_any_counts => k_is); (case k_law_any_counts => k_is); (case a_law_bent => k_is); (case l_law_bent => k_is); (case c_law_bent => k_is); (case k_law_bent => k_is); (case a_law_tables => k_is); (case l_law_tables => k_is); (case c_law_tables => k_is); (case k_law_tables => k_is); (case a_law_drawn => k_is); (case l_law_drawn => k_is); (case c_law_drawn => k_is); (case k_law_drawn => k_is); (case a_law_is_whole => k_is); (case l_law_is_whole => k_is); (case c_law_is_whole => k_is); (case k_law_is_whole => k_is); (case a_law_order => k_is); (case l_law_order => k_is); (case c_law_order => k_is); (case k_law_order => k_is); (case a_law_keys => k_is); (case l_law_keys => k_is); (case c_law_keys => k_is); (case k_law_keys => k_is); (case a_law_filled => k_is); (case l_law_filled => k_is); (case c_law_filled => k_is); (case k_law_filled => k_is); (case a_law_no_common => k_is); (case l_law_no_common => k_is); (case c_law_no_common => k_is); (case k_law_no_common => k_is); (case a_law => k_is); (case l_law => k_is); (case c_law => k_is); (case k_law => k_is); (case z_bool => k_is); (case z_enumerate => k_is); (case z_int => k_is); (case z_isinstance => k_is); (case z_len => k_is); (case z_list => k_is); (case z_min => k_is); (case z_range => k_is); (case z_sum => k_is); (case z_tuple => k_is); (case z_zip => k_is); (case y_MOST_MARKS => k_is); (case y_MOST_ROWS_frames => k_is); (case y_MOST_ROWS_tables => k_is); (case y_MOST_TABLES => k_is); (case y_MOST_WHOLE => k_is)

