import PyProof.Rows.All
import Wide.All
import OpenK.AllK
import Wide.FinOn
import HandS.ForMost
import HandS.Evl
import HandS.IsInst
import HandS.Wide
import PySem.Challenge.RW_everyblock_k37_whole_chain
set_option Elab.async false
set_option maxRecDepth 100000
set_option maxHeartbeats 8000000
set_option linter.unusedVariables false
/-! K37, mathematics 1: numbers, ticks and frames, curves. Plain Lean. -/
namespace K37

/-! ### samples -/
def cutI (n : Int) : Int := if (if n < 8388607 then n else 8388607) > -8388608 then (if n < 8388607 then n else 8388607) else -8388608
def thrI (s g : Int) : Int := cutI ((s * g + 32768) / 65536)
def Smp (n : Int) : Prop := -8388608 ≤ n ∧ n ≤ 8388607
theorem cutI_smp (n : Int) : Smp (cutI n) := by unfold cutI Smp; split <;> split at * <;> omega
theorem cutI_of {n : Int} (h : Smp n) : cutI n = n := by unfold cutI; unfold Smp at h; split <;> split at * <;> omega
theorem cutI_law (n : Int) : cutI n = if n > 8388607 then 8388607 else if n < -8388608 then -8388608 else n := by
  unfold cutI; split <;> split at * <;> split <;> (try split) <;> omega
theorem thrI_smp (s g : Int) : Smp (thrI s g) := cutI_smp _
theorem thrI_law (s g : Int) : (2 * s * g + 65536) / 131072 = (s * g + 32768) / 65536 := by
  have e : 2 * s * g + 65536 = 2 * (s * g + 32768) := by rw [Int.mul_assoc]; omega
  rw [e, show (131072 : Int) = 2 * 65536 from rfl, Int.mul_ediv_mul_of_pos _ _ (by decide)]
theorem thrI_one {s : Int} (h : Smp s) : thrI s 65536 = s := by
  unfold thrI
  have e : (s * 65536 + 32768) / 65536 = s := by omega
  rw [e, cutI_of h]
theorem smp0 : Smp 0 := by unfold Smp; omega

/-! ### smoothing, ahead -/
def towI (v s : Int) (k : Nat) : Int := if s < v then (s - v) / 2 ^ k else -((v - s) / 2 ^ k)
def absI (i : Int) : Int := if i < 0 then -i else i
def lawSm (v s : Int) (k : Nat) : Int := if s < v then v - (absI (s - v) + 2 ^ k - 1) / 2 ^ k else v + (absI (s - v) + 2 ^ k - 1) / 2 ^ k
theorem k18 {k : Nat} (h1 : 1 ≤ k) (h2 : k ≤ 8) : k = 1 ∨ k = 2 ∨ k = 3 ∨ k = 4 ∨ k = 5 ∨ k = 6 ∨ k = 7 ∨ k = 8 := by omega
theorem tow_law (v s : Int) {k : Nat} (h1 : 1 ≤ k) (h2 : k ≤ 8) : v + towI v s k = lawSm v s k := by
  unfold towI lawSm absI
  rcases k18 h1 h2 with h | h | h | h | h | h | h | h <;> subst h <;> split <;> split <;> omega
theorem tow_smp {v s : Int} {k : Nat} (h1 : 1 ≤ k) (h2 : k ≤ 8) (hv : Smp v) (hs : Smp s) : Smp (v + towI v s k) := by
  unfold towI Smp at *
  rcases k18 h1 h2 with h | h | h | h | h | h | h | h <;> subst h <;> split <;> omega
def turnI (p c : Int) : Int := if p ≤ c then 65536 else c * 65536 / p

/-! ### ticks and frames -/
abbrev Ent := Nat × Nat × Nat
def comN : Nat → List Ent → Nat
  | c, [] => c
  | c, e :: r => comN (Nat.lcm c e.2.2) r
def hiN : List Ent → Nat → Nat
  | [], k => k
  | e :: _, k => min k e.1
def sumN (C : Nat) : List Ent → Nat → Nat
  | [], _ => 0
  | e :: r, k => (hiN r k - e.1) * (e.2.1 * (C / e.2.2)) + sumN C r k
def frameN (ts : List Ent) (k : Nat) : Nat := sumN (comN 1 ts) ts k / comN 1 ts
structure TsOk (ts : List Ent) : Prop where
  ne : 0 < ts.length
  len : ts.length ≤ 16
  first : ∀ e, ts[0]? = some e → e.1 = 0
  asc : ts.Pairwise fun a b => a.1 < b.1
  tick : ∀ e ∈ ts, e.1 ≤ 1000
  num : ∀ e ∈ ts, 1 ≤ e.2.1 ∧ e.2.1 ≤ 12
  den : ∀ e ∈ ts, 1 ≤ e.2.2 ∧ e.2.2 ≤ 7

theorem dvd420 {d : Nat} (h : 1 ≤ d ∧ d ≤ 7) : d ∣ 420 := by
  have : d = 1 ∨ d = 2 ∨ d = 3 ∨ d = 4 ∨ d = 5 ∨ d = 6 ∨ d = 7 := by omega
  rcases this with h | h | h | h | h | h | h <;> subst h <;> decide
theorem comN_420 : ∀ (ts : List Ent) (c : Nat), c ∣ 420 → (∀ e ∈ ts, 1 ≤ e.2.2 ∧ e.2.2 ≤ 7) → comN c ts ∣ 420
  | [], c, h, _ => h
  | e :: r, c, h, hd => comN_420 r _ (Nat.lcm_dvd h (dvd420 (hd e (by simp)))) fun x hx => hd x (by simp [hx])
theorem comN_dvd0 : ∀ (ts : List Ent) (c : Nat), c ∣ comN c ts
  | [], c => Nat.dvd_refl c
  | e :: r, c => Nat.dvd_trans (Nat.dvd_lcm_left c e.2.2) (comN_dvd0 r _)
theorem comN_dvd : ∀ (ts : List Ent) (c : Nat), ∀ e ∈ ts, e.2.2 ∣ comN c ts
  | e :: r, c, x, hx => by
    rcases List.mem_cons.mp hx with h | h
    · subst h; exact Nat.dvd_trans (Nat.dvd_lcm_right c x.2.2) (comN_dvd0 r _)
    · exact comN_dvd r _ x h
theorem dvd420_pos {c : Nat} (h : c ∣ 420) : 0 < c ∧ c ≤ 420 := ⟨Nat.pos_of_dvd_of_pos h (by decide), Nat.le_of_dvd (by decide) h⟩
theorem TsOk.com {ts : List Ent} (T : TsOk ts) : 0 < comN 1 ts ∧ comN 1 ts ≤ 420 := dvd420_pos (comN_420 ts 1 (by decide) T.den)

theorem hiN_cons (e : Ent) (r : List Ent) (k : Nat) : hiN (e :: r) k = min k e.1 := rfl
theorem hiN_mono (r : List Ent) {a b : Nat} (h : a ≤ b) : hiN r a ≤ hiN r b := by
  cases r with
  | nil => exact h
  | cons e r => rw [hiN_cons, hiN_cons]; omega
theorem hiN_le (r : List Ent) (a : Nat) : hiN r a ≤ a := by
  cases r with
  | nil => exact Nat.le_refl a
  | cons e r => rw [hiN_cons]; omega
theorem sumN_mono (C : Nat) : ∀ (ts : List Ent) {a b : Nat}, a ≤ b → sumN C ts a ≤ sumN C ts b
  | [], _, _, _ => Nat.le_refl _
  | e :: r, a, b, h => Nat.add_le_add (Nat.mul_le_mul_right _ (Nat.sub_le_sub_right (hiN_mono r h) _)) (sumN_mono C r h)
theorem frameN_mono (ts : List Ent) {a b : Nat} (h : a ≤ b) : frameN ts a ≤ frameN ts b := Nat.div_le_div_right (sumN_mono _ ts h)
theorem sumN_zero (C : Nat) : ∀ (ts : List Ent) (k : Nat), (∀ e ∈ ts, k < e.1) → sumN C ts k = 0
  | [], _, _ => rfl
  | e :: r, k, h => by
    have h1 := h e (by simp)
    have h2 := hiN_le r k
    unfold sumN
    rw [sumN_zero C r k fun x hx => h x (by simp [hx]), show hiN r k - e.1 = 0 by omega, Nat.zero_mul]
theorem sumN_le (C : Nat) : ∀ (ts : List Ent) (k : Nat), (∀ e ∈ ts, e.2.1 ≤ 12) → sumN C ts k ≤ ts.length * (k * (12 * C))
  | [], _, _ => Nat.zero_le _
  | e :: r, k, h => by
    have h1 : hiN r k - e.1 ≤ k := Nat.le_trans (Nat.sub_le _ _) (hiN_le r k)
    have h2 : e.2.1 * (C / e.2.2) ≤ 12 * C := Nat.mul_le_mul (h e (by simp)) (Nat.div_le_self _ _)
    have h3 := Nat.mul_le_mul h1 h2
    have h4 := sumN_le C r k fun x hx => h x (by simp [hx])
    unfold sumN
    rw [List.length_cons, Nat.succ_mul]
    omega
theorem frameN_le {ts : List Ent} (T : TsOk ts) {k : Nat} (hk : k ≤ 1000) : frameN ts k ≤ 192000 := by
  have h := sumN_le (comN 1 ts) ts k fun e he => (T.num e he).2
  have h2 : ts.length * (k * (12 * comN 1 ts)) ≤ 16 * (1000 * (12 * comN 1 ts)) := Nat.mul_le_mul T.len (Nat.mul_le_mul_right _ hk)
  unfold frameN
  refine Nat.le_trans (Nat.div_le_div_right (Nat.le_trans h h2)) ?_
  rw [show 16 * (1000 * (12 * comN 1 ts)) = 192000 * comN 1 ts by omega, Nat.mul_div_cancel _ T.com.1]
  exact Nat.le_refl _

/-! the program's way -/
def untN (C : Nat) : Nat → List Ent → List (Nat × Nat)
  | _, [] => []
  | a, e :: r => (a, e.2.1 * (C / e.2.2)) :: untN C (a + ((match r with | [] => 0 | f :: _ => f.1) - e.1) * (e.2.1 * (C / e.2.2))) r
theorem untN_len (C : Nat) : ∀ (ts : List Ent) (a : Nat), (untN C a ts).length = ts.length
  | [], _ => rfl
  | e :: r, a => by unfold untN; rw [List.length_cons, List.length_cons, untN_len C r]
theorem untN_0 (C : Nat) (a : Nat) (e : Ent) (r : List Ent) : (untN C a (e :: r))[0]? = some (a, e.2.1 * (C / e.2.2)) := by unfold untN; rfl
theorem untN_rate (C : Nat) : ∀ (ts : List Ent) (a i : Nat) (e : Ent) (u : Nat × Nat), ts[i]? = some e → (untN C a ts)[i]? = some u → u.2 = e.2.1 * (C / e.2.2)
  | x :: r, a, 0, e, u, h1, h2 => by
    rw [untN_0] at h2
    cases h2
    cases h1
    rfl
  | x :: r, a, i + 1, e, u, h1, h2 => by
    unfold untN at h2
    exact untN_rate C r _ i e u h1 h2
theorem untN_succ (C : Nat) : ∀ (ts : List Ent) (a i : Nat) (e f : Ent) (u v : Nat × Nat), ts[i]? = some e → ts[i + 1]? = some f → (untN C a ts)[i]? = some u → (untN C a ts)[i + 1]? = some v → v.1 = u.1 + (f.1 - e.1) * u.2
  | x :: y :: r, a, 0, e, f, u, v, h1, h2, h3, h4 => by
    rw [untN_0] at h3
    unfold untN at h4
    have h4 : (untN C _ (y :: r))[0]? = some v := h4
    rw [untN_0] at h4
    cases h1; cases h2; cases h3; cases h4
    rfl
  | x :: r, a, i + 1, e, f, u, v, h1, h2, h3, h4 => by
    unfold untN at h3 h4
    exact untN_succ C r _ i e f u v h1 h2 h3 h4
def cntN (ts : List Ent) (k : Nat) : Nat := (ts.filter fun e => decide (e.1 ≤ k)).length
theorem cntN_zero : ∀ (ts : List Ent) (k : Nat), (∀ e ∈ ts, k < e.1) → cntN ts k = 0 := fun ts k h => by
  unfold cntN
  rw [List.filter_eq_nil_iff.mpr fun e he => by have := h e he; simp; omega]
  rfl
theorem cntN_le (ts : List Ent) (k : Nat) : cntN ts k ≤ ts.length := List.length_filter_le _ _
theorem cntN_cons {e : Ent} {r : List Ent} {k : Nat} (h : e.1 ≤ k) : cntN (e :: r) k = cntN r k + 1 := by
  unfold cntN
  rw [List.filter_cons, if_pos (by simpa using h)]
  rfl
theorem untN_frame (C : Nat) : ∀ (ts : List Ent) (a k : Nat), ts.Pairwise (fun x y => x.1 < y.1) → (∀ e, ts[0]? = some e → e.1 ≤ k) → 0 < ts.length →
    ∃ e u, ts[cntN ts k - 1]? = some e ∧ (untN C a ts)[cntN ts k - 1]? = some u ∧ 0 < cntN ts k ∧ e.1 ≤ k ∧ u.1 + (k - e.1) * u.2 = a + sumN C ts k
  | [], _, _, _, _, h => absurd h (by decide)
  | [e], a, k, _, h0, _ => by
    have h := h0 e rfl
    have c : cntN [e] k = 1 := by rw [cntN_cons h]; rfl
    rw [c]
    exact ⟨e, (a, e.2.1 * (C / e.2.2)), rfl, rfl, by decide, h, by unfold sumN sumN hiN; rfl⟩
  | e :: f :: r, a, k, hp, h0, _ => by
    have h := h0 e rfl
    have hp' := (List.pairwise_cons.mp hp).2
    have hef := (List.pairwise_cons.mp hp).1 f (by simp)
    by_cases hf : f.1 ≤ k
    · obtain ⟨x, u, q1, q2, q3, q4, q5⟩ := untN_frame C (f :: r) (a + (f.1 - e.1) * (e.2.1 * (C / e.2.2))) k hp' (fun y hy => by cases hy; exact hf) (by simp)
      refine ⟨x, u, ?_, ?_, ?_, q4, ?_⟩
      · rw [cntN_cons h, show cntN (f :: r) k + 1 - 1 = (cntN (f :: r) k - 1) + 1 by omega]
        exact q1
      · rw [cntN_cons h, show cntN (f :: r) k + 1 - 1 = (cntN (f :: r) k - 1) + 1 by omega]
        unfold untN
        exact q2
      · rw [cntN_cons h]; omega
      · rw [q5]
        conv => rhs; unfold sumN
        rw [hiN_cons, Nat.min_eq_right hf]
        omega
    · have hz : ∀ x ∈ f :: r, k < x.1 := fun x hx => by
        rcases List.mem_cons.mp hx with q | q
        · subst q; omega
        · have := (List.pairwise_cons.mp hp').1 x q; omega
      have c : cntN (e :: f :: r) k = 1 := by rw [cntN_cons h, cntN_zero _ _ hz]
      rw [c]
      refine ⟨e, (a, e.2.1 * (C / e.2.2)), rfl, untN_0 .., by decide, h, ?_⟩
      conv => rhs; unfold sumN
      rw [sumN_zero C (f :: r) k hz]
      rw [hiN_cons, Nat.min_eq_left (by omega)]
      rfl

/-! the law's way -/
theorem law_step {C d above below A x n : Nat} (hd : d ∣ C) (h : above * C = A * below) : (above * d + x * n * below) * C = (A + x * (n * (C / d))) * (below * d) := by
  obtain ⟨q, rfl⟩ := hd
  by_cases h0 : d = 0
  · subst h0; simp
  · rw [Nat.mul_div_cancel_left q (by omega)]
    have e1 : above * d * (d * q) = A * (below * d) := by
      rw [show above * d * (d * q) = above * (d * q) * d by rw [Nat.mul_right_comm], h, Nat.mul_assoc]
    rw [Nat.add_mul, Nat.add_mul, e1]
    congr 1
    rw [Nat.mul_assoc x n below, Nat.mul_assoc x, Nat.mul_assoc x]
    congr 1
    rw [Nat.mul_assoc n, Nat.mul_assoc n]
    congr 1
    rw [Nat.mul_comm q, Nat.mul_assoc]
theorem law_div {C tot above below : Nat} (hC : 0 < C) (hb : 0 < below) (h : above * C = tot * below) : above / below = tot / C := by
  rw [← Nat.mul_div_mul_right above below hC, h, Nat.mul_comm below C, Nat.mul_div_mul_right tot C hb]

/-! ### curves: points in frames, nowhere falling -/
abbrev Pnt := Nat × Int
def lerp (a : Nat) (v : Int) (b : Nat) (w f : Int) : Int := v + (w - v) * (f - a) / ((b : Int) - a)
def valN : List Pnt → Int → Int
  | [], _ => 0
  | [p], _ => p.2
  | p :: q :: r, f => if f < (q.1 : Int) then (if f < (p.1 : Int) then p.2 else lerp p.1 p.2 q.1 q.2 f) else valN (q :: r) f
def PsOk (ps : List Pnt) : Prop := ps.Pairwise fun a b => a.1 ≤ b.1
def cntP (ps : List Pnt) (f : Int) : Nat := (ps.filter fun p => decide ((p.1 : Int) ≤ f)).length
theorem cntP_zero (ps : List Pnt) (f : Int) (h : ∀ p ∈ ps, f < (p.1 : Int)) : cntP ps f = 0 := by
  unfold cntP
  rw [List.filter_eq_nil_iff.mpr fun e he => by have := h e he; simp; omega]
  rfl
theorem cntP_le (ps : List Pnt) (f : Int) : cntP ps f ≤ ps.length := List.length_filter_le _ _
theorem cntP_cons {p : Pnt} {r : List Pnt} {f : Int} (h : (p.1 : Int) ≤ f) : cntP (p :: r) f = cntP r f + 1 := by
  unfold cntP
  rw [List.filter_cons, if_pos (by simpa using h)]
  rfl
theorem cntP_cons0 {p : Pnt} {r : List Pnt} {f : Int} (h : f < (p.1 : Int)) : cntP (p :: r) f = cntP r f := by
  unfold cntP
  rw [List.filter_cons, if_neg (by simp; omega)]
/-- what the program reads off by the count is the value -/
theorem valN_cnt : ∀ (ps : List Pnt) (f : Int), PsOk ps → 0 < ps.length →
    (cntP ps f = 0 → ∀ p, ps[0]? = some p → valN ps f = p.2) ∧
    (0 < cntP ps f → cntP ps f = ps.length → ∀ p, ps[cntP ps f - 1]? = some p → valN ps f = p.2) ∧
    (0 < cntP ps f → ∀ p q, ps[cntP ps f - 1]? = some p → ps[cntP ps f]? = some q → valN ps f = lerp p.1 p.2 q.1 q.2 f ∧ (p.1 : Int) ≤ f ∧ f < (q.1 : Int))
  | [], _, _, h => absurd h (by decide)
  | [p], f, _, _ => by
    refine ⟨fun _ x hx => ?_, fun _ hc x hx => ?_, fun _ x y hx hy => ?_⟩
    · cases hx; rfl
    · rw [hc] at hx; cases hx; rfl
    · exfalso
      have h1 := cntP_le [p] f
      have h2 := (List.getElem?_eq_some_iff.mp hy).1
      simp at h2 h1
      omega
  | p :: q :: r, f, hp, _ => by
    have hp' : PsOk (q :: r) := (List.pairwise_cons.mp hp).2
    have hpq := (List.pairwise_cons.mp hp).1 q (by simp)
    by_cases hf : f < (q.1 : Int)
    · have hz : cntP (q :: r) f = 0 := cntP_zero _ _ fun x hx => by
        rcases List.mem_cons.mp hx with e | e
        · subst e; exact hf
        · have := (List.pairwise_cons.mp hp').1 x e; omega
      by_cases hfp : f < (p.1 : Int)
      · have c : cntP (p :: q :: r) f = 0 := by rw [cntP_cons0 hfp, hz]
        rw [c]
        refine ⟨fun _ x hx => ?_, fun h => absurd h (by decide), fun h => absurd h (by decide)⟩
        cases hx
        unfold valN
        rw [if_pos hf, if_pos hfp]
      · have c : cntP (p :: q :: r) f = 1 := by rw [cntP_cons (by omega), hz]
        rw [c]
        refine ⟨fun h => absurd h (by decide), fun _ h => ?_, fun _ x y hx hy => ?_⟩
        · simp at h
        · cases hx
          cases hy
          refine ⟨?_, by omega, hf⟩
          unfold valN
          rw [if_pos hf, if_neg hfp]
    · have hqf : (q.1 : Int) ≤ f := by omega
      have c : cntP (p :: q :: r) f = cntP (q :: r) f + 1 := cntP_cons (by omega)
      have cp : 0 < cntP (q :: r) f := by rw [cntP_cons hqf]; omega
      have e : valN (p :: q :: r) f = valN (q :: r) f := by
        conv => lhs; unfold valN
        rw [if_neg hf]
      obtain ⟨_, i2, i3⟩ := valN_cnt (q :: r) f hp' (by simp)
      rw [c, e]
      refine ⟨fun h => absurd h (by omega), fun _ h x hx => ?_, fun _ x y hx hy => ?_⟩
      · refine i2 cp (by rw [List.length_cons] at h; omega) x ?_
        rw [show cntP (q :: r) f + 1 - 1 = (cntP (q :: r) f - 1) + 1 by omega] at hx
        exact hx
      · refine i3 cp x y ?_ hy
        rw [show cntP (q :: r) f + 1 - 1 = (cntP (q :: r) f - 1) + 1 by omega] at hx
        exact hx
/-- the law's search: the rest of it from a place on -/
def lawV (f : Int) : Int → List Pnt → Int
  | x, [] => x
  | x, p :: r => lawV f (if (p.1 : Int) ≤ f then (match r with | [] => p.2 | q :: _ => if (q.1 : Int) > f then lerp p.1 p.2 q.1 q.2 f else p.2) else x) r
theorem lawV_over (f : Int) : ∀ (ps : List Pnt) (x : Int), (∀ p ∈ ps, f < (p.1 : Int)) → lawV f x ps = x
  | [], _, _ => rfl
  | p :: r, x, h => by
    unfold lawV
    rw [if_neg (by have := h p (by simp); omega)]
    exact lawV_over f r x fun y hy => h y (by simp [hy])
theorem lawV_val (f : Int) : ∀ (ps : List Pnt) (x : Int), PsOk ps → (∀ p, ps[0]? = some p → x = p.2 ∨ (p.1 : Int) ≤ f) → 0 < ps.length → lawV f x ps = valN ps f
  | [], _, _, _, h => absurd h (by decide)
  | [p], x, _, h, _ => by
    unfold lawV lawV valN
    rcases h p rfl with e | e
    · subst e; split <;> rfl
    · rw [if_pos e]
  | p :: q :: r, x, hp, h, _ => by
    have hp' : PsOk (q :: r) := (List.pairwise_cons.mp hp).2
    have hpq := (List.pairwise_cons.mp hp).1 q (by simp)
    by_cases hf : f < (q.1 : Int)
    · unfold lawV
      rw [lawV_over f (q :: r) _ fun y hy => by
        rcases List.mem_cons.mp hy with e | e
        · subst e; exact hf
        · have := (List.pairwise_cons.mp hp').1 y e; omega]
      unfold valN
      rw [if_pos hf]
      by_cases hfp : f < (p.1 : Int)
      · rw [if_neg (by omega), if_pos hfp]
        rcases h p rfl with e | e
        · exact e
        · omega
      · rw [if_pos (by omega), if_neg hfp]
        exact if_pos (by omega)
    · have e : valN (p :: q :: r) f = valN (q :: r) f := by
        conv => lhs; unfold valN
        rw [if_neg hf]
      rw [e]
      conv => lhs; unfold lawV
      exact lawV_val f (q :: r) _ hp' (fun y hy => by cases hy; exact .inr (by omega)) (by simp)
end K37

/-! K37, mathematics 2: parts as machines that take a sample and give one. Plain Lean. -/
namespace K37

inductive Pt where
  | line (n : Nat) | pass | gain (ps : List Pnt) | delay (n : Nat) (fb own : Int) | smooth (k : Nat) | ahead (n : Nat) (c : Int)
def GainR (g : Int) : Prop := 0 ≤ g ∧ g ≤ 262144
def PtOk : Pt → Prop
  | .line n => n ≤ 20
  | .pass => True
  | .gain ps => 0 < ps.length ∧ ps.length ≤ 32 ∧ (ps.Pairwise fun a b => a.1 < b.1) ∧ (∀ p ∈ ps, p.1 ≤ 1000) ∧ ∀ p ∈ ps, GainR p.2
  | .delay n fb own => 1 ≤ n ∧ n ≤ 64 ∧ GainR fb ∧ GainR own
  | .smooth k => 1 ≤ k ∧ k ≤ 8
  | .ahead n c => 1 ≤ n ∧ n ≤ 32 ∧ 1 ≤ c ∧ c ≤ 8388607
def fps (ts : List Ent) (ps : List Pnt) : List Pnt := ps.map fun p => (frameN ts p.1, p.2)
def zer (n : Nat) : List Int := List.replicate n 0
def sizeP : Pt → Nat
  | .line n => n | .pass => 0 | .gain _ => 0 | .delay n _ _ => n | .smooth _ => 1 | .ahead n _ => n
def initP (p : Pt) : List Int := zer (sizeP p)
def latP : Pt → Nat
  | .line n => n | .ahead n _ => n | _ => 0
def max0 (m : Int) : Int := if m > 0 then m else 0
def peakI : List Int → Int
  | [] => 0
  | x :: r => if absI x > peakI r then absI x else peakI r
def stepP (ts : List Ent) (p : Pt) (st : List Int) (m x : Int) : List Int × Int :=
  match p with
  | .line _ => ((st ++ [x]).tail, (st ++ [x]).headD 0)
  | .pass => (st, x)
  | .gain ps => (st, thrI x (valN (fps ts ps) (max0 m)))
  | .delay _ fb own => (st.tail ++ [cutI (x + thrI (st.headD 0) fb)], cutI (x + thrI (st.headD 0) own))
  | .smooth k => ([st.headD 0 + towI (st.headD 0) x k], st.headD 0 + towI (st.headD 0) x k)
  | .ahead _ c => ((st ++ [x]).tail, thrI ((st ++ [x]).headD 0) (turnI (peakI (st ++ [x])) c))
def runP (ts : List Ent) (p : Pt) : List Int → Int → List Int → List Int × List Int
  | st, _, [] => (st, [])
  | st, m, x :: xs => ((runP ts p (stepP ts p st m x).1 (m + 1) xs).1, (stepP ts p st m x).2 :: (runP ts p (stepP ts p st m x).1 (m + 1) xs).2)
structure StOk (p : Pt) (st : List Int) : Prop where
  len : st.length = sizeP p
  smp : ∀ s ∈ st, Smp s

theorem init_ok (p : Pt) : StOk p (initP p) := ⟨by unfold initP zer; simp, fun s hs => by
  unfold initP zer at hs
  rw [(List.mem_replicate.mp hs).2]; exact smp0⟩
theorem head_smp {l : List Int} (h : ∀ s ∈ l, Smp s) : Smp (l.headD 0) := by
  cases l with
  | nil => exact smp0
  | cons a r => exact h a (by simp)
theorem app_smp {l : List Int} {x : Int} (h : ∀ s ∈ l, Smp s) (hx : Smp x) : ∀ s ∈ l ++ [x], Smp s := fun s hs => by
  rcases List.mem_append.mp hs with q | q
  · exact h s q
  · rw [List.mem_singleton.mp q]; exact hx
theorem step_ok {ts : List Ent} {p : Pt} {st : List Int} {m x : Int} (P : PtOk p) (S : StOk p st) (hx : Smp x) : StOk p (stepP ts p st m x).1 ∧ Smp (stepP ts p st m x).2 := by
  obtain ⟨len, smp⟩ := S
  cases p with
  | line n =>
    refine ⟨⟨?_, fun s hs => app_smp smp hx s (List.mem_of_mem_tail hs)⟩, head_smp (app_smp smp hx)⟩
    have : sizeP (.line n) = n := rfl
    simp [stepP, len]
  | pass => exact ⟨⟨len, smp⟩, hx⟩
  | gain ps => exact ⟨⟨len, smp⟩, thrI_smp _ _⟩
  | delay n fb own =>
    refine ⟨⟨?_, app_smp (fun s hs => smp s (List.mem_of_mem_tail hs)) (cutI_smp _)⟩, cutI_smp _⟩
    have h1 : sizeP (.delay n fb own) = n := rfl
    have h2 : 1 ≤ n := P.1
    simp only [stepP, List.length_append, List.length_tail, List.length_singleton, len, h1]
    omega
  | smooth k =>
    have h := tow_smp P.1 P.2 (head_smp smp) hx
    exact ⟨⟨rfl, fun s hs => by rw [List.mem_singleton.mp hs]; exact h⟩, h⟩
  | ahead n c =>
    refine ⟨⟨?_, fun s hs => app_smp smp hx s (List.mem_of_mem_tail hs)⟩, thrI_smp _ _⟩
    simp [stepP, len]
theorem run_ok {ts : List Ent} {p : Pt} (P : PtOk p) : ∀ {xs st : List Int} {m : Int}, StOk p st → (∀ x ∈ xs, Smp x) → StOk p (runP ts p st m xs).1 ∧ ∀ y ∈ (runP ts p st m xs).2, Smp y
  | [], st, m, S, _ => ⟨S, fun y hy => nomatch hy⟩
  | x :: xs, st, m, S, h => by
    obtain ⟨S1, h1⟩ := step_ok (ts := ts) (m := m) P S (h x (by simp))
    obtain ⟨S2, h2⟩ := run_ok (ts := ts) P (m := m + 1) (xs := xs) S1 fun y hy => h y (by simp [hy])
    refine ⟨S2, fun y hy => ?_⟩
    rcases List.mem_cons.mp hy with q | q
    · rw [q]; exact h1
    · exact h2 y q
theorem run_len (ts : List Ent) (p : Pt) : ∀ (xs st : List Int) (m : Int), (runP ts p st m xs).2.length = xs.length
  | [], _, _ => rfl
  | x :: xs, st, m => by unfold runP; rw [List.length_cons, List.length_cons, run_len ts p xs]
theorem run_append (ts : List Ent) (p : Pt) : ∀ (xs ys st : List Int) (m : Int),
    runP ts p st m (xs ++ ys) = ((runP ts p (runP ts p st m xs).1 (m + xs.length) ys).1, (runP ts p st m xs).2 ++ (runP ts p (runP ts p st m xs).1 (m + xs.length) ys).2)
  | [], ys, st, m => by simp [runP]
  | x :: xs, ys, st, m => by
    have e : m + ((x :: xs).length : Int) = m + 1 + (xs.length : Int) := by rw [List.length_cons]; omega
    show runP ts p st m (x :: (xs ++ ys)) = _
    rw [e]
    conv => lhs; unfold runP
    rw [run_append ts p xs ys]
    simp only [runP, List.cons_append]
/-- what is left of a run, one sample further -/
theorem run_step {ts : List Ent} {p : Pt} {st O outs xs fin : List Int} {m x : Int} {i : Nat} (hx : xs[i]? = some x) (h : (O ++ (runP ts p st (m + i) (xs.drop i)).2 = outs) ∧ (runP ts p st (m + i) (xs.drop i)).1 = fin) :
    (O ++ [(stepP ts p st (m + i) x).2]) ++ (runP ts p (stepP ts p st (m + i) x).1 (m + (i + 1 : Nat)) (xs.drop (i + 1))).2 = outs ∧ (runP ts p (stepP ts p st (m + i) x).1 (m + (i + 1 : Nat)) (xs.drop (i + 1))).1 = fin := by
  have hi := (List.getElem?_eq_some_iff.mp hx)
  have e : xs.drop i = x :: xs.drop (i + 1) := by
    rw [← hi.2]; exact List.drop_eq_getElem_cons hi.1
  rw [e] at h
  have em : m + ((i + 1 : Nat) : Int) = m + i + 1 := by omega
  rw [em]
  unfold runP at h
  rw [List.append_assoc]
  exact h
theorem run_end {ts : List Ent} {p : Pt} {st O outs xs fin : List Int} {m : Int} (h : (O ++ (runP ts p st (m + xs.length) (xs.drop xs.length)).2 = outs) ∧ (runP ts p st (m + xs.length) (xs.drop xs.length)).1 = fin) : O = outs ∧ st = fin := by
  rw [List.drop_length] at h
  unfold runP at h
  simpa using h

/-! ### lines -/
theorem line_step (l xs : List Int) (x : Int) : l ++ x :: xs = (l ++ [x]).headD 0 :: ((l ++ [x]).tail ++ xs) := by
  cases l with
  | nil => rfl
  | cons a r => simp
theorem run_line (ts : List Ent) (n : Nat) : ∀ (xs st : List Int) (m : Int), runP ts (.line n) st m xs = ((st ++ xs).drop xs.length, (st ++ xs).take xs.length)
  | [], st, m => by simp [runP]
  | x :: xs, st, m => by
    unfold runP
    rw [run_line ts n xs]
    simp only [stepP]
    rw [line_step st xs x, List.length_cons, List.drop_succ_cons, List.take_succ_cons]
theorem run_ahead_st (ts : List Ent) (n : Nat) (c : Int) : ∀ (xs st : List Int) (m : Int), (runP ts (.ahead n c) st m xs).1 = (st ++ xs).drop xs.length
  | [], st, m => by simp [runP]
  | x :: xs, st, m => by
    unfold runP
    rw [run_ahead_st ts n c xs]
    simp only [stepP]
    rw [line_step st xs x, List.length_cons, List.drop_succ_cons]

/-! ### the greatest absolute value -/
theorem peak_ge : ∀ (l : List Int) (x : Int), x ∈ l → absI x ≤ peakI l
  | a :: r, x, h => by
    rcases List.mem_cons.mp h with e | e
    · subst e; unfold peakI; split <;> omega
    · have := peak_ge r x e; unfold peakI; split <;> omega
theorem absI_nn (x : Int) : 0 ≤ absI x := by unfold absI; split <;> omega
theorem peak_nn : ∀ l : List Int, 0 ≤ peakI l
  | [] => Int.le_refl 0
  | a :: r => by have := peak_nn r; have := absI_nn a; unfold peakI; split <;> omega
theorem peak_mem : ∀ l : List Int, l ≠ [] → ∃ x ∈ l, peakI l = absI x
  | [], h => absurd rfl h
  | [a], _ => ⟨a, by simp, by
      have := absI_nn a
      unfold peakI
      show (if absI a > 0 then absI a else 0) = absI a
      split <;> omega⟩
  | a :: b :: r, _ => by
    obtain ⟨x, hx, e⟩ := peak_mem (b :: r) (by simp)
    by_cases h : absI a > peakI (b :: r)
    · exact ⟨a, by simp, if_pos h⟩
    · exact ⟨x, List.mem_cons_of_mem _ hx, (if_neg h).trans e⟩
theorem peak_is {l : List Int} {m : Int} (hl : l ≠ []) (h1 : m ∈ l.map absI) (h2 : ∀ y ∈ l.map absI, y ≤ m) : m = peakI l := by
  obtain ⟨x, hx, e⟩ := List.mem_map.mp h1
  obtain ⟨y, hy, e'⟩ := peak_mem l hl
  have a := peak_ge l x hx
  have b := h2 (absI y) (List.mem_map.mpr ⟨y, hy, rfl⟩)
  omega
theorem peak_le {l : List Int} {c : Int} (hc : 0 ≤ c) (h : ∀ x ∈ l, absI x ≤ c) : peakI l ≤ c := by
  by_cases hl : l = []
  · subst hl; exact hc
  · obtain ⟨x, hx, e⟩ := peak_mem l hl
    rw [e]; exact h x hx
theorem peak_smp {l : List Int} (h : ∀ x ∈ l, Smp x) : peakI l ≤ 8388608 := peak_le (by decide) fun x hx => by
  have := h x hx; unfold Smp at this; unfold absI; split <;> omega

/-! ### an ahead that is never too loud is a line -/
theorem run_quiet (ts : List Ent) (n : Nat) (c : Int) (hc : 0 ≤ c) : ∀ (xs st : List Int) (m : Int), (∀ x ∈ xs, Smp x ∧ absI x ≤ c) → (∀ x ∈ st, Smp x ∧ absI x ≤ c) → runP ts (.ahead n c) st m xs = runP ts (.line n) st m xs
  | [], st, m, _, _ => rfl
  | x :: xs, st, m, h, hs => by
    have hw : ∀ y ∈ st ++ [x], Smp y ∧ absI y ≤ c := fun y hy => by
      rcases List.mem_append.mp hy with q | q
      · exact hs y q
      · rw [List.mem_singleton.mp q]; exact h x (by simp)
    have e : stepP ts (.ahead n c) st m x = stepP ts (.line n) st m x := by
      simp only [stepP]
      congr 1
      rw [show turnI (peakI (st ++ [x])) c = 65536 from if_pos (peak_le hc fun y hy => (hw y hy).2)]
      exact thrI_one (head_smp fun y hy => (hw y hy).1)
    unfold runP
    rw [e, run_quiet ts n c hc xs (stepP ts (.line n) st m x).1 (m + 1) (fun y hy => h y (by simp [hy])) fun y hy => hw y (List.mem_of_mem_tail hy)]

/-! ### chains -/
def chainM (ts : List Ent) : List Pt → Nat → List (List Int) → Int → List Int → List (List Int) × List Int
  | p :: r, l, st :: sts, m, xs => ((runP ts p st (m - l) xs).1 :: (chainM ts r (l + latP p) sts m (runP ts p st (m - l) xs).2).1, (chainM ts r (l + latP p) sts m (runP ts p st (m - l) xs).2).2)
  | _, _, _, _, xs => ([], xs)
inductive StsOk : List Pt → List (List Int) → Prop where
  | nil : StsOk [] []
  | cons {p : Pt} {st : List Int} {ps : List Pt} {sts : List (List Int)} : PtOk p → StOk p st → StsOk ps sts → StsOk (p :: ps) (st :: sts)
theorem StsOk.len {ps : List Pt} {sts : List (List Int)} (h : StsOk ps sts) : sts.length = ps.length := by
  induction h with
  | nil => rfl
  | cons _ _ _ ih => rw [List.length_cons, List.length_cons, ih]
theorem StsOk.get {ps : List Pt} {sts : List (List Int)} (h : StsOk ps sts) : ∀ {i : Nat} {p : Pt}, ps[i]? = some p → ∃ st, sts[i]? = some st ∧ PtOk p ∧ StOk p st := by
  induction h with
  | nil => intro i p e; simp at e
  | cons a b _ ih =>
    intro i p e
    cases i with
    | zero => cases e; exact ⟨_, rfl, a, b⟩
    | succ i => exact ih e
theorem chain_len (ts : List Ent) : ∀ (ps : List Pt) (l : Nat) (sts : List (List Int)) (m : Int) (xs : List Int), (chainM ts ps l sts m xs).2.length = xs.length
  | [], _, _, _, _ => rfl
  | p :: r, l, [], _, _ => rfl
  | p :: r, l, st :: sts, m, xs => by
    unfold chainM
    rw [chain_len ts r, run_len]
theorem chain_ok {ts : List Ent} {ps : List Pt} {sts : List (List Int)} (h : StsOk ps sts) : ∀ {l : Nat} {m : Int} {xs : List Int}, (∀ x ∈ xs, Smp x) → StsOk ps (chainM ts ps l sts m xs).1 ∧ ∀ y ∈ (chainM ts ps l sts m xs).2, Smp y := by
  induction h with
  | nil => intro l m xs hx; exact ⟨.nil, hx⟩
  | cons P S _ ih =>
    intro l m xs hx
    obtain ⟨a, b⟩ := run_ok (ts := ts) P (m := m - l) S hx
    obtain ⟨c, d⟩ := ih (l := l + latP _) (m := m) b
    exact ⟨.cons P a c, d⟩
theorem chain_append {ts : List Ent} {ps : List Pt} {sts : List (List Int)} (h : StsOk ps sts) : ∀ (l : Nat) (m : Int) (xs ys : List Int), (∀ x ∈ xs, Smp x) →
    chainM ts ps l sts m (xs ++ ys) = ((chainM ts ps l (chainM ts ps l sts m xs).1 (m + xs.length) ys).1, (chainM ts ps l sts m xs).2 ++ (chainM ts ps l (chainM ts ps l sts m xs).1 (m + xs.length) ys).2) := by
  induction h with
  | nil => intro l m xs ys _; rfl
  | @cons p st ps sts P S h' ih =>
    intro l m xs ys hx
    have e : m - (l : Int) + (xs.length : Int) = m + xs.length - l := by omega
    have hr := run_ok (ts := ts) P (m := m - l) S hx
    have i := ih (l + latP p) m (runP ts p st (m - l) xs).2 (runP ts p (runP ts p st (m - l) xs).1 (m + xs.length - l) ys).2 hr.2
    rw [run_len] at i
    conv => lhs; unfold chainM
    rw [run_append, e]
    dsimp only
    rw [i]
    simp only [chainM]
def inits (ps : List Pt) : List (List Int) := ps.map initP
theorem inits_ok : ∀ {ps : List Pt}, (∀ p ∈ ps, PtOk p) → StsOk ps (inits ps)
  | [], _ => .nil
  | p :: r, h => .cons (h p (by simp)) (init_ok p) (inits_ok fun q hq => h q (by simp [hq]))
/-- a block of the row: what comes out is the block of the whole; the states are those of the row so far -/
theorem chain_block {ts : List Ent} {ps : List Pt} (h : ∀ p ∈ ps, PtOk p) {row : List Int} (hr : ∀ x ∈ row, Smp x) {n : Nat} {b : List Int} (hb : b = (row.drop n).take b.length) (hn : n ≤ row.length) :
    chainM ts ps 0 (chainM ts ps 0 (inits ps) 0 (row.take n)).1 n b = ((chainM ts ps 0 (inits ps) 0 (row.take (n + b.length))).1, (((chainM ts ps 0 (inits ps) 0 row).2).drop n).take b.length) := by
  have ht : ∀ k, ∀ x ∈ row.take k, Smp x := fun k x hx => hr x (List.mem_of_mem_take hx)
  have e1 : row.take (n + b.length) = row.take n ++ b := by rw [List.take_add, ← hb]
  have ln : (row.take n).length = n := by rw [List.length_take]; omega
  have lb : b.length ≤ row.length - n := by
    have := congrArg List.length hb
    rw [List.length_take, List.length_drop] at this
    omega
  have A := chain_append (ts := ts) (inits_ok h) 0 0 (row.take n) b (ht n)
  rw [← e1, ln] at A
  have B := chain_append (ts := ts) (inits_ok h) 0 0 (row.take (n + b.length)) (row.drop (n + b.length)) (ht _)
  rw [List.take_append_drop] at B
  have lt : (chainM ts ps 0 (inits ps) 0 (row.take n)).2.length = n := by rw [chain_len, ln]
  have lc : (chainM ts ps 0 (chainM ts ps 0 (inits ps) 0 (row.take n)).1 (0 + (n : Int)) b).2.length = b.length := chain_len ..
  have z : (0 : Int) + (n : Int) = n := Int.zero_add _
  have r1 := congrArg Prod.fst A
  have r2 := congrArg Prod.snd A
  have r3 := congrArg Prod.snd B
  rw [r2] at r3
  rw [z] at r1 r3 lc
  refine Prod.ext r1.symm ?_
  show _ = ((chainM ts ps 0 (inits ps) 0 row).2.drop n).take b.length
  rw [r3, List.append_assoc, List.drop_left' lt, List.take_left' lc]

/-! ### a sample alone -/
def lone (i k : Nat) : List Int := zer i ++ 4999 :: zer k
theorem lone_len (i k : Nat) : (lone i k).length = i + k + 1 := by unfold lone zer; simp; omega
theorem lone_mem {i k : Nat} {x : Int} (h : x ∈ lone i k) : x = 0 ∨ x = 4999 := by
  unfold lone zer at h
  rcases List.mem_append.mp h with q | q
  · exact .inl (List.mem_replicate.mp q).2
  · rcases List.mem_cons.mp q with q | q
    · exact .inr q
    · exact .inl (List.mem_replicate.mp q).2
theorem lone_quiet {i k : Nat} {c : Int} (hc : 4999 ≤ c) : ∀ x ∈ lone i k, Smp x ∧ absI x ≤ c := fun x h => by
  rcases lone_mem h with e | e <;> subst e <;> refine ⟨by unfold Smp; omega, ?_⟩
  · exact Int.le_trans (by decide : absI 0 ≤ 4999) hc
  · exact Int.le_trans (by decide : absI 4999 ≤ 4999) hc
theorem zer_quiet {n : Nat} {c : Int} (hc : 4999 ≤ c) : ∀ x ∈ zer n, Smp x ∧ absI x ≤ c := fun x h => by
  rw [(List.mem_replicate.mp h).2]
  exact ⟨smp0, Int.le_trans (by decide : absI 0 ≤ 4999) hc⟩
theorem line_lone (ts : List Ent) (n i k : Nat) (m : Int) : (runP ts (.line n) (zer n) m (lone i (k + n))).2 = lone (i + n) k := by
  rw [run_line]
  show (zer n ++ lone i (k + n)).take (lone i (k + n)).length = lone (i + n) k
  have e : zer n ++ lone i (k + n) = lone (i + n) k ++ zer n := by
    unfold lone zer
    rw [← List.append_assoc, List.replicate_append_replicate, Nat.add_comm n i, List.append_assoc, List.cons_append, List.replicate_append_replicate]
  rw [e, List.take_left' (by rw [lone_len, lone_len]; omega)]
theorem ahead_lone (ts : List Ent) (n i k : Nat) (m c : Int) (hc : 4999 ≤ c) : (runP ts (.ahead n c) (zer n) m (lone i (k + n))).2 = lone (i + n) k := by
  rw [run_quiet ts n c (by omega) _ _ _ (lone_quiet hc) (zer_quiet hc)]
  exact line_lone ts n i k m
def keepP (a b c : Nat) : List Pt := [.ahead a 5000, .line b, .ahead c 8388607]
theorem keep_alone (ts : List Ent) (a b c : Nat) : (chainM ts (keepP a b c) 0 (inits (keepP a b c)) 0 (lone 0 (a + b + c))).2 = lone (a + b + c) 0 := by
  show (runP ts (.ahead c 8388607) (zer c) _ (runP ts (.line b) (zer b) _ (runP ts (.ahead a 5000) (zer a) _ (lone 0 (a + b + c))).2).2).2 = lone (a + b + c) 0
  have h1 := fun m => ahead_lone ts a 0 (c + b) m 5000 (by decide)
  have h2 := fun m => line_lone ts b (0 + a) c m
  have h3 := fun m => ahead_lone ts c (0 + a + b) 0 m 8388607 (by decide)
  rw [show 0 + c = c by omega] at h3
  rw [show a + b + c = c + b + a by omega, h1, h2, h3, show 0 + a + b + c = c + b + a by omega]

/-! ### the law's whole rows: what it looks up -/
/-- a delay's echo -/
theorem echo_is (n f : Nat) (I : List Int) (hI : I.length = f) (hn : 1 ≤ n) : ((zer n ++ I).drop f).headD 0 = if f < n then 0 else I.getD (f - n) 0 := by
  rw [List.headD_eq_head?_getD, List.head?_drop]
  unfold zer
  by_cases h : f < n
  · rw [if_pos h, List.getElem?_append_left (by simpa using h), List.getElem?_replicate, if_pos h]
    rfl
  · rw [if_neg h, List.getElem?_append_right (by simp; omega), List.length_replicate, List.getD_eq_getElem?_getD]
theorem delay_next (n f : Nat) (I : List Int) (y : Int) (hI : I.length = f) (hn : 1 ≤ n) : ((zer n ++ I).drop f).tail ++ [y] = (zer n ++ (I ++ [y])).drop (f + 1) := by
  rw [List.tail_drop, ← List.append_assoc]
  exact (List.drop_append_of_le_length (l₁ := zer n ++ I) (l₂ := [y]) (by unfold zer; simp; omega)).symm
/-- what an ahead sees -/
theorem seen_is (n f : Nat) (row : List Int) (x : Int) (hx : row[f]? = some x) : ((zer n ++ row).drop f).take n ++ [x] = ((zer n ++ row).drop f).take (n + 1) := by
  have hf := (List.getElem?_eq_some_iff.mp hx).1
  have h : ((zer n ++ row).drop f)[n]? = some x := by
    rw [List.getElem?_drop, List.getElem?_append_right (by unfold zer; simp)]
    unfold zer
    rw [List.length_replicate, show f + n - n = f by omega]
    exact hx
  rw [List.take_add_one, h]
  rfl
theorem ahead_next (n f : Nat) (row : List Int) (x : Int) (hx : row[f]? = some x) : (((zer n ++ row).drop f).take n ++ [x]).tail = ((zer n ++ row).drop (f + 1)).take n := by
  rw [seen_is n f row x hx, ← List.drop_one, List.drop_take, List.drop_drop]
  rfl
end K37

/-! K37, part 0: rules that the claim adds to the hand layer. -/
namespace K37
open PySem L2 Evl

/-! ### one of two rules for one expression -/
def tAlt (t u : TE) : TE := fun σ H Q => t σ H Q ∨ u σ H Q
theorem pe_alt {X : Cx} {e : Expr} {t u : TE} (h : PE X e t) (h' : PE X e u) : PE X e (tAlt t u) :=
  ⟨fun pins s σ H Q I q => q.elim (h.run pins s σ H Q I) (h'.run pins s σ H Q I)⟩
def rAbs : List V → Hp → VK → Prop := fun xs H Q => ∃ i, xs = [.int i] ∧ Q (.int (if i < 0 then -i else i)) H

/-! ### C() of a class without an __init__ -/
structure MkN (K : PySem.W.Frag) (C : Addr) : Prop where
  makes : PySem.W.makesIn K C = true
  init : PySem.W.findIn K (.ref C) "__init__" = some (some (.builtin "object.__init__"))
  kp : PySem.W.keepIn K (.ref C) = true
def tMakeN (C : Addr) : TE := fun _ H Q => ∀ x dx, H x = none → H dx = none → dx ≠ x → Q (.ref x) (upd (upd H dx (.own x)) x (.ins C dx []))
theorem pe_makeN {X : Cx} {C : Addr} {x : Str} {p pos : Pos} (M : MkN X.K C) (hg : Gl X x) (hm : X.mg x = some (.ref C)) (hdb : (x == ("__debug__" : Str)) = false := by decide) :
    PE X (.Call (.Name x p) [] [] pos) (tMakeN C) := by
  refine ⟨fun pins s σ H Q I h => ?_⟩
  refine wpAny_Call_Name_kw (ld_glob I hg hm ?_ hdb)
  refine PySem.W.callWith_K0 (first := []) I.kIn M.kp (show wpAny (model X.prog X.w) X.A (call (.ref C) []) (EP X pins σ Q) X.xe s from wpAny_call ?_)
  have hq := h (s.heap.objs.size + 1) s.heap.objs.size (I.hok.fresh (Nat.le_succ _)) (I.hok.fresh (Nat.le_refl _)) (Nat.ne_of_lt (Nat.lt_succ_self _))
  have I2 := Inv.made (C := C) I
  have Y := PySem.W.makes_of (M := model X.prog X.w) I.kIn M.makes
  have Z := PySem.W.looks_findIn (M := model X.prog X.w) I.kIn M.init
  have e2 : ((s.heap.push PySem.W.emptyDict).push (PySem.W.instObj C s.heap.objs.size)).get? (s.heap.objs.size + 1) = some (PySem.W.instObj C s.heap.objs.size) := by
    have := Heap.get?_push_size (s.heap.push PySem.W.emptyDict) (o := PySem.W.instObj C s.heap.objs.size) rfl
    rwa [Heap.size_push] at this
  have t1 : PySem.W.Looks (model X.prog X.w) ((s.heap.push PySem.W.emptyDict).push (PySem.W.instObj C s.heap.objs.size)) (typeOf (.ref (s.heap.objs.size + 1))) (.ref C) := (PySem.W.Looks.ld e2).andThen .now
  have t2 : PySem.W.Looks (model X.prog X.w) ((s.heap.push PySem.W.emptyDict).push (PySem.W.instObj C s.heap.objs.size)) (isInstance (.ref (s.heap.objs.size + 1)) (.type "object")) true :=
    t1.andThen (Y.top.keeps fun b o e => Heap.get?_push_of_some _ (Heap.get?_push_of_some _ e))
  obtain ⟨hh, g, d, t, os⟩ := s
  refine PySem.W.make_core Y Z (fun self => PySem.W.Looks.of_pure (PySem.W.oi_bind self)) (.inr ⟨rfl, rfl⟩) ?_
  refine codeAny_call_builtin PySem.W.oi_plain PySem.W.entry_oi (@PySem.W.check_slot (model X.prog X.w) _ _ _ "object.__init__" "object" "__init__" (.ref (hh.objs.size + 1)) [] [] _ PySem.W.oi_kind PySem.W.oi_split t2 (PySem.W.oi_args (.ref (hh.objs.size + 1))) ?_)
  rw [PySem.W.oi_run]
  exact wpAny_pure (And.intro rfl ⟨.ref (hh.objs.size + 1), _, I2, rfl, hq⟩)

/-! ### a written tuple -/
theorem sqT_of_K {K : PySem.W.Frag} {H : Hp} {a : Addr} {od : Option Addr} {its : Array Value} {n : Nat} {sl : Array (Option Value)} {xs : List V} (h : K.lookup a = some ⟨.type "tuple", od, .seq its n, sl⟩) (r : Vals xs its.toList)
    (hz : its.size ≤ 1000 := by decide) : SqT K H a xs :=
  .inr ⟨_, its, n, h, rfl, rfl, Nat.le_trans hz (by decide), r⟩
def PARTSV : List Int := [1, 2, 4, 8, 16, 32, 64, 128, 256]

/-! ### values of expressions, further (Evl) -/
section
variable {K : PySem.W.Frag} {σ : L2.St} {H H' : Hp} {ta tb te tx : TE} {t u : TT} {x y z v : V} {r : R2}
theorem ev_fld {a C dx : Addr} {fs : List (Str × V)} {f : Str} (h : Ev ta σ H (.ref a)) (ho : H a = some (.ins C dx fs)) (hc : Cls K C) (hn : NoAttr K C f) (hl : fs.lookup f = some v) : Ev (tFld K ta f) σ H v := fun H1 e _ q =>
  h H1 e _ fun H2 e2 => ⟨a, C, dx, fs, v, rfl, e2 _ _ (e _ _ ho), hc, hn, hl, q H2 e2⟩
theorem rv_iL {p : Addr} {xs : List V} {i : Int} (h : SqL K H p xs) (ha : atI xs i = some v) : RV (rIx K) (.ref p) (.int i) H v := fun H1 e _ q => .inl ⟨p, xs, i, v, rfl, rfl, ex_l e h, ha, q H1 (Ex.refl H1)⟩
theorem rv_iT {p : Addr} {xs : List V} {i : Int} (h : SqT K H p xs) (ha : atI xs i = some v) : RV (rIx K) (.ref p) (.int i) H v := fun H1 e _ q => .inr (.inl ⟨p, xs, i, v, rfl, rfl, ex_t e h, ha, q H1 (Ex.refl H1)⟩)
end
end K37

/-! K37, part 1: the text by places, scopes, what the top has written. -/
namespace K37
open PySem L2 Evl
def topS (i : Nat) : Stmt := PySem.Challenge.pw_everyblock_k37_whole_chain.main.body.getD i (.Pass ⟨0, 0, 0, 0⟩)
abbrev s_is_count : Stmt := topS 7
abbrev N_is_count : List Str := ["value", "least", "most"]
abbrev P_is_count : List Str := ["value", "least", "most"]
theorem sc_is_count : FnScope N_is_count P_is_count (defScope s_is_count) := ⟨rfl, rfl, rfl, by decide +kernel, rfl, by decide +kernel, by decide +kernel⟩
abbrev s_is_sample : Stmt := topS 8
abbrev N_is_sample : List Str := ["value"]
abbrev P_is_sample : List Str := ["value"]
theorem sc_is_sample : FnScope N_is_sample P_is_sample (defScope s_is_sample) := ⟨rfl, rfl, rfl, by decide +kernel, rfl, by decide +kernel, by decide +kernel⟩
abbrev s_cut : Stmt := topS 9
abbrev N_cut : List Str := ["number"]
abbrev P_cut : List Str := ["number"]
theorem sc_cut : FnScope N_cut P_cut (defScope s_cut) := ⟨rfl, rfl, rfl, by decide +kernel, rfl, by decide +kernel, by decide +kernel⟩
abbrev s_through : Stmt := topS 10
abbrev N_through : List Str := ["sample", "gain"]
abbrev P_through : List Str := ["sample", "gain"]
theorem sc_through : FnScope N_through P_through (defScope s_through) := ⟨rfl, rfl, rfl, by decide +kernel, rfl, by decide +kernel, by decide +kernel⟩
abbrev s_greatest_divisor : Stmt := topS 12
abbrev N_greatest_divisor : List Str := ["first", "second"]
abbrev P_greatest_divisor : List Str := ["first", "second"]
theorem sc_greatest_divisor : FnScope N_greatest_divisor P_greatest_divisor (defScope s_greatest_divisor) := ⟨rfl, rfl, rfl, by decide +kernel, rfl, by decide +kernel, by decide +kernel⟩
abbrev s_common_denominator : Stmt := topS 13
abbrev N_common_denominator : List Str := ["tempo", "common", "_", "denominator"]
abbrev P_common_denominator : List Str := ["tempo"]
theorem sc_common_denominator : FnScope N_common_denominator P_common_denominator (defScope s_common_denominator) := ⟨rfl, rfl, rfl, by decide +kernel, rfl, by decide +kernel, by decide +kernel⟩
abbrev s_units_of : Stmt := topS 14
abbrev N_units_of : List Str := ["tempo", "common", "found", "ahead", "at", "tick", "numerator", "denominator"]
abbrev P_units_of : List Str := ["tempo", "common"]
theorem sc_units_of : FnScope N_units_of P_units_of (defScope s_units_of) := ⟨rfl, rfl, rfl, by decide +kernel, rfl, by decide +kernel, by decide +kernel⟩
abbrev s_frame_of : Stmt := topS 15
abbrev N_frame_of : List Str := ["tempo", "tick", "common", "units", "at", "entry"]
abbrev P_frame_of : List Str := ["tempo", "tick"]
theorem sc_frame_of : FnScope N_frame_of P_frame_of (defScope s_frame_of) := ⟨rfl, rfl, rfl, by decide +kernel, rfl, by decide +kernel, by decide +kernel⟩
abbrev s_in_frames : Stmt := topS 17
abbrev N_in_frames : List Str := ["tempo", "points", "tick", "value"]
abbrev P_in_frames : List Str := ["tempo", "points"]
theorem sc_in_frames : FnScope N_in_frames P_in_frames (defScope s_in_frames) := ⟨rfl, rfl, rfl, by decide +kernel, rfl, by decide +kernel, by decide +kernel⟩
abbrev s_value_at : Stmt := topS 18
abbrev N_value_at : List Str := ["points", "frame", "at", "begin", "value", "end", "target", "point"]
abbrev P_value_at : List Str := ["points", "frame"]
theorem sc_value_at : FnScope N_value_at P_value_at (defScope s_value_at) := ⟨rfl, rfl, rfl, by decide +kernel, rfl, by decide +kernel, by decide +kernel⟩
abbrev s_is_past : Stmt := topS 20
abbrev N_is_past : List Str := ["state", "frames", "sample"]
abbrev P_is_past : List Str := ["state", "frames"]
theorem sc_is_past : FnScope N_is_past P_is_past (defScope s_is_past) := ⟨rfl, rfl, rfl, by decide +kernel, rfl, by decide +kernel, by decide +kernel⟩
abbrev s_DelayLine_init : Stmt := inClass (topS 21) 0
abbrev N_DelayLine_init : List Str := ["self", "frames", "_"]
abbrev P_DelayLine_init : List Str := ["self", "frames"]
theorem sc_DelayLine_init : FnScope N_DelayLine_init P_DelayLine_init (defScope s_DelayLine_init) := ⟨rfl, rfl, rfl, by decide +kernel, rfl, by decide +kernel, by decide +kernel⟩
abbrev s_DelayLine_process : Stmt := inClass (topS 21) 1
abbrev N_DelayLine_process : List Str := ["self", "samples", "row"]
abbrev P_DelayLine_process : List Str := ["self", "samples"]
theorem sc_DelayLine_process : FnScope N_DelayLine_process P_DelayLine_process (defScope s_DelayLine_process) := ⟨rfl, rfl, rfl, by decide +kernel, rfl, by decide +kernel, by decide +kernel⟩
abbrev s_DelayLine_state : Stmt := inClass (topS 21) 2
abbrev N_DelayLine_state : List Str := ["self"]
abbrev P_DelayLine_state : List Str := ["self"]
theorem sc_DelayLine_state : FnScope N_DelayLine_state P_DelayLine_state (defScope s_DelayLine_state) := ⟨rfl, rfl, rfl, by decide +kernel, rfl, by decide +kernel, by decide +kernel⟩
abbrev s_DelayLine_restore : Stmt := inClass (topS 21) 3
abbrev N_DelayLine_restore : List Str := ["self", "state"]
abbrev P_DelayLine_restore : List Str := ["self", "state"]
theorem sc_DelayLine_restore : FnScope N_DelayLine_restore P_DelayLine_restore (defScope s_DelayLine_restore) := ⟨rfl, rfl, rfl, by decide +kernel, rfl, by decide +kernel, by decide +kernel⟩
abbrev s_latency_of : Stmt := topS 24
abbrev N_latency_of : List Str := ["spec"]
abbrev P_latency_of : List Str := ["spec"]
theorem sc_latency_of : FnScope N_latency_of P_latency_of (defScope s_latency_of) := ⟨rfl, rfl, rfl, by decide +kernel, rfl, by decide +kernel, by decide +kernel⟩
abbrev s_toward : Stmt := topS 25
abbrev N_toward : List Str := ["value", "sample", "k"]
abbrev P_toward : List Str := ["value", "sample", "k"]
theorem sc_toward : FnScope N_toward P_toward (defScope s_toward) := ⟨rfl, rfl, rfl, by decide +kernel, rfl, by decide +kernel, by decide +kernel⟩
abbrev s_turned_down : Stmt := topS 26
abbrev N_turned_down : List Str := ["peak", "ceiling"]
abbrev P_turned_down : List Str := ["peak", "ceiling"]
theorem sc_turned_down : FnScope N_turned_down P_turned_down (defScope s_turned_down) := ⟨rfl, rfl, rfl, by decide +kernel, rfl, by decide +kernel, by decide +kernel⟩
abbrev s_Pass_process : Stmt := inClass (topS 27) 0
abbrev N_Pass_process : List Str := ["self", "samples", "moment"]
abbrev P_Pass_process : List Str := ["self", "samples", "moment"]
theorem sc_Pass_process : FnScope N_Pass_process P_Pass_process (defScope s_Pass_process) := ⟨rfl, rfl, rfl, by decide +kernel, rfl, by decide +kernel, by decide +kernel⟩
abbrev s_Pass_state : Stmt := inClass (topS 27) 1
abbrev N_Pass_state : List Str := ["self"]
abbrev P_Pass_state : List Str := ["self"]
theorem sc_Pass_state : FnScope N_Pass_state P_Pass_state (defScope s_Pass_state) := ⟨rfl, rfl, rfl, by decide +kernel, rfl, by decide +kernel, by decide +kernel⟩
abbrev s_Pass_restore : Stmt := inClass (topS 27) 2
abbrev N_Pass_restore : List Str := ["self", "state"]
abbrev P_Pass_restore : List Str := ["self", "state"]
theorem sc_Pass_restore : FnScope N_Pass_restore P_Pass_restore (defScope s_Pass_restore) := ⟨rfl, rfl, rfl, by decide +kernel, rfl, by decide +kernel, by decide +kernel⟩
abbrev s_Gain_init : Stmt := inClass (topS 28) 0
abbrev N_Gain_init : List Str := ["self", "points"]
abbrev P_Gain_init : List Str := ["self", "points"]
theorem sc_Gain_init : FnScope N_Gain_init P_Gain_init (defScope s_Gain_init) := ⟨rfl, rfl, rfl, by decide +kernel, rfl, by decide +kernel, by decide +kernel⟩
abbrev s_Gain_process : Stmt := inClass (topS 28) 1
abbrev N_Gain_process : List Str := ["self", "samples", "moment", "found", "place", "sample"]
abbrev P_Gain_process : List Str := ["self", "samples", "moment"]
theorem sc_Gain_process : FnScope N_Gain_process P_Gain_process (defScope s_Gain_process) := ⟨rfl, rfl, rfl, by decide +kernel, rfl, by decide +kernel, by decide +kernel⟩
abbrev s_Gain_state : Stmt := inClass (topS 28) 2
abbrev N_Gain_state : List Str := ["self"]
abbrev P_Gain_state : List Str := ["self"]
theorem sc_Gain_state : FnScope N_Gain_state P_Gain_state (defScope s_Gain_state) := ⟨rfl, rfl, rfl, by decide +kernel, rfl, by decide +kernel, by decide +kernel⟩
abbrev s_Gain_restore : Stmt := inClass (topS 28) 3
abbrev N_Gain_restore : List Str := ["self", "state"]
abbrev P_Gain_restore : List Str := ["self", "state"]
theorem sc_Gain_restore : FnScope N_Gain_restore P_Gain_restore (defScope s_Gain_restore) := ⟨rfl, rfl, rfl, by decide +kernel, rfl, by decide +kernel, by decide +kernel⟩
abbrev s_Delay_init : Stmt := inClass (topS 29) 0
abbrev N_Delay_init : List Str := ["self", "frames", "feedback", "own", "_"]
abbrev P_Delay_init : List Str := ["self", "frames", "feedback", "own"]
theorem sc_Delay_init : FnScope N_Delay_init P_Delay_init (defScope s_Delay_init) := ⟨rfl, rfl, rfl, by decide +kernel, rfl, by decide +kernel, by decide +kernel⟩
abbrev s_Delay_process : Stmt := inClass (topS 29) 1
abbrev N_Delay_process : List Str := ["self", "samples", "moment", "row", "found", "place", "sample"]
abbrev P_Delay_process : List Str := ["self", "samples", "moment"]
theorem sc_Delay_process : FnScope N_Delay_process P_Delay_process (defScope s_Delay_process) := ⟨rfl, rfl, rfl, by decide +kernel, rfl, by decide +kernel, by decide +kernel⟩
abbrev s_Delay_state : Stmt := inClass (topS 29) 2
abbrev N_Delay_state : List Str := ["self"]
abbrev P_Delay_state : List Str := ["self"]
theorem sc_Delay_state : FnScope N_Delay_state P_Delay_state (defScope s_Delay_state) := ⟨rfl, rfl, rfl, by decide +kernel, rfl, by decide +kernel, by decide +kernel⟩
abbrev s_Delay_restore : Stmt := inClass (topS 29) 3
abbrev N_Delay_restore : List Str := ["self", "state"]
abbrev P_Delay_restore : List Str := ["self", "state"]
theorem sc_Delay_restore : FnScope N_Delay_restore P_Delay_restore (defScope s_Delay_restore) := ⟨rfl, rfl, rfl, by decide +kernel, rfl, by decide +kernel, by decide +kernel⟩
abbrev s_Smooth_init : Stmt := inClass (topS 30) 0
abbrev N_Smooth_init : List Str := ["self", "k"]
abbrev P_Smooth_init : List Str := ["self", "k"]
theorem sc_Smooth_init : FnScope N_Smooth_init P_Smooth_init (defScope s_Smooth_init) := ⟨rfl, rfl, rfl, by decide +kernel, rfl, by decide +kernel, by decide +kernel⟩
abbrev s_Smooth_process : Stmt := inClass (topS 30) 1
abbrev N_Smooth_process : List Str := ["self", "samples", "moment", "found", "sample"]
abbrev P_Smooth_process : List Str := ["self", "samples", "moment"]
theorem sc_Smooth_process : FnScope N_Smooth_process P_Smooth_process (defScope s_Smooth_process) := ⟨rfl, rfl, rfl, by decide +kernel, rfl, by decide +kernel, by decide +kernel⟩
abbrev s_Smooth_state : Stmt := inClass (topS 30) 2
abbrev N_Smooth_state : List Str := ["self"]
abbrev P_Smooth_state : List Str := ["self"]
theorem sc_Smooth_state : FnScope N_Smooth_state P_Smooth_state (defScope s_Smooth_state) := ⟨rfl, rfl, rfl, by decide +kernel, rfl, by decide +kernel, by decide +kernel⟩
abbrev s_Smooth_restore : Stmt := inClass (topS 30) 3
abbrev N_Smooth_restore : List Str := ["self", "state"]
abbrev P_Smooth_restore : List Str := ["self", "state"]
theorem sc_Smooth_restore : FnScope N_Smooth_restore P_Smooth_restore (defScope s_Smooth_restore) := ⟨rfl, rfl, rfl, by decide +kernel, rfl, by decide +kernel, by decide +kernel⟩
abbrev s_Ahead_init : Stmt := inClass (topS 31) 0
abbrev N_Ahead_init : List Str := ["self", "frames", "ceiling", "_"]
abbrev P_Ahead_init : List Str := ["self", "frames", "ceiling"]
theorem sc_Ahead_init : FnScope N_Ahead_init P_Ahead_init (defScope s_Ahead_init) := ⟨rfl, rfl, rfl, by decide +kernel, rfl, by decide +kernel, by decide +kernel⟩
abbrev s_Ahead_process : Stmt := inClass (topS 31) 1
abbrev N_Ahead_process : List Str := ["self", "samples", "moment", "row", "found", "place", "peak", "sample"]
abbrev P_Ahead_process : List Str := ["self", "samples", "moment"]
theorem sc_Ahead_process : FnScope N_Ahead_process P_Ahead_process (defScope s_Ahead_process) := ⟨rfl, rfl, rfl, by decide +kernel, rfl, by decide +kernel, by decide +kernel⟩
abbrev s_Ahead_state : Stmt := inClass (topS 31) 2
abbrev N_Ahead_state : List Str := ["self"]
abbrev P_Ahead_state : List Str := ["self"]
theorem sc_Ahead_state : FnScope N_Ahead_state P_Ahead_state (defScope s_Ahead_state) := ⟨rfl, rfl, rfl, by decide +kernel, rfl, by decide +kernel, by decide +kernel⟩
abbrev s_Ahead_restore : Stmt := inClass (topS 31) 3
abbrev N_Ahead_restore : List Str := ["self", "state"]
abbrev P_Ahead_restore : List Str := ["self", "state"]
theorem sc_Ahead_restore : FnScope N_Ahead_restore P_Ahead_restore (defScope s_Ahead_restore) := ⟨rfl, rfl, rfl, by decide +kernel, rfl, by decide +kernel, by decide +kernel⟩
abbrev s_effect_of : Stmt := topS 32
abbrev N_effect_of : List Str := ["spec", "tempo"]
abbrev P_effect_of : List Str := ["spec", "tempo"]
theorem sc_effect_of : FnScope N_effect_of P_effect_of (defScope s_effect_of) := ⟨rfl, rfl, rfl, by decide +kernel, rfl, by decide +kernel, by decide +kernel⟩
abbrev s_l_deck : Stmt := topS 34
abbrev N_l_deck : List Str := ["_law_script", "_law_seed", "_law_cell"]
abbrev P_l_deck : List Str := ["_law_script"]
theorem sc_l_deck : FnScope N_l_deck P_l_deck (defScope s_l_deck) := ⟨rfl, rfl, rfl, by decide +kernel, rfl, by decide +kernel, by decide +kernel⟩
abbrev s_l_draw : Stmt := topS 35
abbrev N_l_draw : List Str := ["_law_deck_here", "_law_bound", "_law_number", "_law_value_here"]
abbrev P_l_draw : List Str := ["_law_deck_here", "_law_bound"]
theorem sc_l_draw : FnScope N_l_draw P_l_draw (defScope s_l_draw) := ⟨rfl, rfl, rfl, by decide +kernel, rfl, by decide +kernel, by decide +kernel⟩
abbrev s_l_sample : Stmt := topS 36
abbrev N_l_sample : List Str := ["_law_deck_here", "_law_kind"]
abbrev P_l_sample : List Str := ["_law_deck_here"]
theorem sc_l_sample : FnScope N_l_sample P_l_sample (defScope s_l_sample) := ⟨rfl, rfl, rfl, by decide +kernel, rfl, by decide +kernel, by decide +kernel⟩
abbrev s_l_samples : Stmt := topS 37
abbrev N_l_samples : List Str := ["_law_deck_here", "_law_most", "_law_k"]
abbrev P_l_samples : List Str := ["_law_deck_here", "_law_most"]
theorem sc_l_samples : FnScope N_l_samples P_l_samples (defScope s_l_samples) := ⟨rfl, rfl, rfl, by decide +kernel, rfl, by decide +kernel, by decide +kernel⟩
abbrev s_l_gain : Stmt := topS 38
abbrev N_l_gain : List Str := ["_law_deck_here", "_law_kind"]
abbrev P_l_gain : List Str := ["_law_deck_here"]
theorem sc_l_gain : FnScope N_l_gain P_l_gain (defScope s_l_gain) := ⟨rfl, rfl, rfl, by decide +kernel, rfl, by decide +kernel, by decide +kernel⟩
abbrev s_l_tempo : Stmt := topS 39
abbrev N_l_tempo : List Str := ["_law_deck_here", "_law_tempo_here", "_law_k"]
abbrev P_l_tempo : List Str := ["_law_deck_here"]
theorem sc_l_tempo : FnScope N_l_tempo P_l_tempo (defScope s_l_tempo) := ⟨rfl, rfl, rfl, by decide +kernel, rfl, by decide +kernel, by decide +kernel⟩
abbrev s_l_points : Stmt := topS 40
abbrev N_l_points : List Str := ["_law_deck_here", "_law_points_here", "_law_k"]
abbrev P_l_points : List Str := ["_law_deck_here"]
theorem sc_l_points : FnScope N_l_points P_l_points (defScope s_l_points) := ⟨rfl, rfl, rfl, by decide +kernel, rfl, by decide +kernel, by decide +kernel⟩
abbrev s_l_spec : Stmt := topS 41
abbrev N_l_spec : List Str := ["_law_deck_here", "_law_kind", "_law_ceiling"]
abbrev P_l_spec : List Str := ["_law_deck_here"]
theorem sc_l_spec : FnScope N_l_spec P_l_spec (defScope s_l_spec) := ⟨rfl, rfl, rfl, by decide +kernel, rfl, by decide +kernel, by decide +kernel⟩
abbrev s_l_cut : Stmt := topS 42
abbrev N_l_cut : List Str := ["_law_number"]
abbrev P_l_cut : List Str := ["_law_number"]
theorem sc_l_cut : FnScope N_l_cut P_l_cut (defScope s_l_cut) := ⟨rfl, rfl, rfl, by decide +kernel, rfl, by decide +kernel, by decide +kernel⟩
abbrev s_l_through : Stmt := topS 43
abbrev N_l_through : List Str := ["_law_sample_here", "_law_gain_here"]
abbrev P_l_through : List Str := ["_law_sample_here", "_law_gain_here"]
theorem sc_l_through : FnScope N_l_through P_l_through (defScope s_l_through) := ⟨rfl, rfl, rfl, by decide +kernel, rfl, by decide +kernel, by decide +kernel⟩
abbrev s_l_frame : Stmt := topS 44
abbrev N_l_frame : List Str := ["_law_tempo_here", "_law_tick", "_law_above", "_law_below", "_law_k", "_law_end", "_law_ticks"]
abbrev P_l_frame : List Str := ["_law_tempo_here", "_law_tick"]
theorem sc_l_frame : FnScope N_l_frame P_l_frame (defScope s_l_frame) := ⟨rfl, rfl, rfl, by decide +kernel, rfl, by decide +kernel, by decide +kernel⟩
abbrev s_l_value : Stmt := topS 45
abbrev N_l_value : List Str := ["_law_points_here", "_law_frame_here", "_law_found", "_law_k", "_law_far"]
abbrev P_l_value : List Str := ["_law_points_here", "_law_frame_here"]
theorem sc_l_value : FnScope N_l_value P_l_value (defScope s_l_value) := ⟨rfl, rfl, rfl, by decide +kernel, rfl, by decide +kernel, by decide +kernel⟩
abbrev s_l_before : Stmt := topS 46
abbrev N_l_before : List Str := ["_law_row", "_law_at"]
abbrev P_l_before : List Str := ["_law_row", "_law_at"]
theorem sc_l_before : FnScope N_l_before P_l_before (defScope s_l_before) := ⟨rfl, rfl, rfl, by decide +kernel, rfl, by decide +kernel, by decide +kernel⟩
abbrev s_l_smoothed : Stmt := topS 47
abbrev N_l_smoothed : List Str := ["_law_value_here", "_law_sample_here", "_law_k", "_law_part_here", "_law_turn", "_law_steps"]
abbrev P_l_smoothed : List Str := ["_law_value_here", "_law_sample_here", "_law_k"]
theorem sc_l_smoothed : FnScope N_l_smoothed P_l_smoothed (defScope s_l_smoothed) := ⟨rfl, rfl, rfl, by decide +kernel, rfl, by decide +kernel, by decide +kernel⟩
abbrev s_l_meant : Stmt := topS 48
abbrev N_l_meant : List Str := ["_law_spec_here", "_law_tempo_here", "_law_row", "_law_moment", "_law_found", "_law_inside", "_law_points_here", "_law_f", "_law_echo", "_law_peak", "_law_gain_here", "_law_point", "_law_at"]
abbrev P_l_meant : List Str := ["_law_spec_here", "_law_tempo_here", "_law_row", "_law_moment"]
theorem sc_l_meant : FnScope N_l_meant P_l_meant (defScope s_l_meant) := ⟨rfl, rfl, rfl, by decide +kernel, rfl, by decide +kernel, by decide +kernel⟩
abbrev s_l_is_row : Stmt := topS 49
abbrev N_l_is_row : List Str := ["_law_actual", "_law_due", "_law_k"]
abbrev P_l_is_row : List Str := ["_law_actual", "_law_due"]
theorem sc_l_is_row : FnScope N_l_is_row P_l_is_row (defScope s_l_is_row) := ⟨rfl, rfl, rfl, by decide +kernel, rfl, by decide +kernel, by decide +kernel⟩
abbrev s_l_blocks : Stmt := topS 50
abbrev N_l_blocks : List Str := ["_law_deck_here", "_law_row", "_law_blocks_here", "_law_at", "_law_turn", "_law_size"]
abbrev P_l_blocks : List Str := ["_law_deck_here", "_law_row"]
theorem sc_l_blocks : FnScope N_l_blocks P_l_blocks (defScope s_l_blocks) := ⟨rfl, rfl, rfl, by decide +kernel, rfl, by decide +kernel, by decide +kernel⟩
abbrev s_l_part : Stmt := topS 51
abbrev N_l_part : List Str := ["_law_deck_here"]
abbrev P_l_part : List Str := ["_law_deck_here"]
theorem sc_l_part : FnScope N_l_part P_l_part (defScope s_l_part) := ⟨rfl, rfl, rfl, by decide +kernel, rfl, by decide +kernel, by decide +kernel⟩
abbrev s_l_made : Stmt := topS 52
abbrev N_l_made : List Str := ["_law_parts", "_law_tempo_here", "_law_made_here", "_law_part_here"]
abbrev P_l_made : List Str := ["_law_parts", "_law_tempo_here"]
theorem sc_l_made : FnScope N_l_made P_l_made (defScope s_l_made) := ⟨rfl, rfl, rfl, by decide +kernel, rfl, by decide +kernel, by decide +kernel⟩
abbrev s_l_late : Stmt := topS 53
abbrev N_l_late : List Str := ["_law_parts", "_law_late_here", "_law_part_here"]
abbrev P_l_late : List Str := ["_law_parts"]
theorem sc_l_late : FnScope N_l_late P_l_late (defScope s_l_late) := ⟨rfl, rfl, rfl, by decide +kernel, rfl, by decide +kernel, by decide +kernel⟩
abbrev s_l_sent : Stmt := topS 54
abbrev N_l_sent : List Str := ["_law_parts", "_law_made_here", "_law_late_here", "_law_block", "_law_frame_here", "_law_k"]
abbrev P_l_sent : List Str := ["_law_parts", "_law_made_here", "_law_late_here", "_law_block", "_law_frame_here"]
theorem sc_l_sent : FnScope N_l_sent P_l_sent (defScope s_l_sent) := ⟨rfl, rfl, rfl, by decide +kernel, rfl, by decide +kernel, by decide +kernel⟩
abbrev s_law : Stmt := topS 55
abbrev N_law : List Str := ["_law_script", "_law_deck_here", "_law_tempo_here", "_law_parts", "_law_row", "_law_late_here", "_law_due", "_law_k", "_law_made_here", "_law_frame_here", "_law_block", "_law_kind", "_law_states", "_law_keep", "_law_alone", "_law_j", "_law_part_here"]
abbrev P_law : List Str := ["_law_script"]
theorem sc_law : FnScope N_law P_law (defScope s_law) := ⟨rfl, rfl, rfl, by decide +kernel, rfl, by decide +kernel, by decide +kernel⟩
structure Tx (K : PySem.W.Frag) (mg : Str → Option Value) where
  a_is_count : Addr
  d_is_count : FuncData
  F_is_count : Fun K "is_count" "is_count" s_is_count a_is_count d_is_count
  g_is_count : mg "is_count" = some (.ref a_is_count)
  b_is_count : Binds K d_is_count P_is_count []
  a_is_sample : Addr
  d_is_sample : FuncData
  F_is_sample : Fun K "is_sample" "is_sample" s_is_sample a_is_sample d_is_sample
  g_is_sample : mg "is_sample" = some (.ref a_is_sample)
  b_is_sample : Binds K d_is_sample P_is_sample []
  a_cut : Addr
  d_cut : FuncData
  F_cut : Fun K "cut" "cut" s_cut a_cut d_cut
  g_cut : mg "cut" = some (.ref a_cut)
  b_cut : Binds K d_cut P_cut []
  a_through : Addr
  d_through : FuncData
  F_through : Fun K "through" "through" s_through a_through d_through
  g_through : mg "through" = some (.ref a_through)
  b_through : Binds K d_through P_through []
  a_greatest_divisor : Addr
  d_greatest_divisor : FuncData
  F_greatest_divisor : Fun K "greatest_divisor" "greatest_divisor" s_greatest_divisor a_greatest_divisor d_greatest_divisor
  g_greatest_divisor : mg "greatest_divisor" = some (.ref a_greatest_divisor)
  b_greatest_divisor : Binds K d_greatest_divisor P_greatest_divisor []
  a_common_denominator : Addr
  d_common_denominator : FuncData
  F_common_denominator : Fun K "common_denominator" "common_denominator" s_common_denominator a_common_denominator d_common_denominator
  g_common_denominator : mg "common_denominator" = some (.ref a_common_denominator)
  b_common_denominator : Binds K d_common_denominator P_common_denominator []
  a_units_of : Addr
  d_units_of : FuncData
  F_units_of : Fun K "units_of" "units_of" s_units_of a_units_of d_units_of
  g_units_of : mg "units_of" = some (.ref a_units_of)
  b_units_of : Binds K d_units_of P_units_of []
  a_frame_of : Addr
  d_frame_of : FuncData
  F_frame_of : Fun K "frame_of" "frame_of" s_frame_of a_frame_of d_frame_of
  g_frame_of : mg "frame_of" = some (.ref a_frame_of)
  b_frame_of : Binds K d_frame_of P_frame_of []
  a_in_frames : Addr
  d_in_frames : FuncData
  F_in_frames : Fun K "in_frames" "in_frames" s_in_frames a_in_frames d_in_frames
  g_in_frames : mg "in_frames" = some (.ref a_in_frames)
  b_in_frames : Binds K d_in_frames P_in_frames []
  a_value_at : Addr
  d_value_at : FuncData
  F_value_at : Fun K "value_at" "value_at" s_value_at a_value_at d_value_at
  g_value_at : mg "value_at" = some (.ref a_value_at)
  b_value_at : Binds K d_value_at P_value_at []
  a_is_past : Addr
  d_is_past : FuncData
  F_is_past : Fun K "is_past" "is_past" s_is_past a_is_past d_is_past
  g_is_past : mg "is_past" = some (.ref a_is_past)
  b_is_past : Binds K d_is_past P_is_past []
  a_DelayLine_init : Addr
  d_DelayLine_init : FuncData
  F_DelayLine_init : Fun K "__init__" "DelayLine.__init__" s_DelayLine_init a_DelayLine_init d_DelayLine_init
  b_DelayLine_init : Binds K d_DelayLine_init P_DelayLine_init []
  a_DelayLine_process : Addr
  d_DelayLine_process : FuncData
  F_DelayLine_process : Fun K "process" "DelayLine.process" s_DelayLine_process a_DelayLine_process d_DelayLine_process
  b_DelayLine_process : Binds K d_DelayLine_process P_DelayLine_process []
  a_DelayLine_state : Addr
  d_DelayLine_state : FuncData
  F_DelayLine_state : Fun K "state" "DelayLine.state" s_DelayLine_state a_DelayLine_state d_DelayLine_state
  b_DelayLine_state : Binds K d_DelayLine_state P_DelayLine_state []
  a_DelayLine_restore : Addr
  d_DelayLine_restore : FuncData
  F_DelayLine_restore : Fun K "restore" "DelayLine.restore" s_DelayLine_restore a_DelayLine_restore d_DelayLine_restore
  b_DelayLine_restore : Binds K d_DelayLine_restore P_DelayLine_restore []
  a_latency_of : Addr
  d_latency_of : FuncData
  F_latency_of : Fun K "latency_of" "latency_of" s_latency_of a_latency_of d_latency_of
  g_latency_of : mg "latency_of" = some (.ref a_latency_of)
  b_latency_of : Binds K d_latency_of P_latency_of []
  a_toward : Addr
  d_toward : FuncData
  F_toward : Fun K "toward" "toward" s_toward a_toward d_toward
  g_toward : mg "toward" = some (.ref a_toward)
  b_toward : Binds K d_toward P_toward []
  a_turned_down : Addr
  d_turned_down : FuncData
  F_turned_down : Fun K "turned_down" "turned_down" s_turned_down a_turned_down d_turned_down
  g_turned_down : mg "turned_down" = some (.ref a_turned_down)
  b_turned_down : Binds K d_turned_down P_turned_down []
  a_Pass_process : Addr
  d_Pass_process : FuncData
  F_Pass_process : Fun K "process" "Pass.process" s_Pass_process a_Pass_process d_Pass_process
  b_Pass_process : Binds K d_Pass_process P_Pass_process []
  a_Pass_state : Addr
  d_Pass_state : FuncData
  F_Pass_state : Fun K "state" "Pass.state" s_Pass_state a_Pass_state d_Pass_state
  b_Pass_state : Binds K d_Pass_state P_Pass_state []
  a_Pass_restore : Addr
  d_Pass_restore : FuncData
  F_Pass_restore : Fun K "restore" "Pass.restore" s_Pass_restore a_Pass_restore d_Pass_restore
  b_Pass_restore : Binds K d_Pass_restore P_Pass_restore []
  a_Gain_init : Addr
  d_Gain_init : FuncData
  F_Gain_init : Fun K "__init__" "Gain.__init__" s_Gain_init a_Gain_init d_Gain_init
  b_Gain_init : Binds K d_Gain_init P_Gain_init []
  a_Gain_process : Addr
  d_Gain_process : FuncData
  F_Gain_process : Fun K "process" "Gain.process" s_Gain_process a_Gain_process d_Gain_process
  b_Gain_process : Binds K d_Gain_process P_Gain_process []
  a_Gain_state : Addr
  d_Gain_state : FuncData
  F_Gain_state : Fun K "state" "Gain.state" s_Gain_state a_Gain_state d_Gain_state
  b_Gain_state : Binds K d_Gain_state P_Gain_state []
  a_Gain_restore : Addr
  d_Gain_restore : FuncData
  F_Gain_restore : Fun K "restore" "Gain.restore" s_Gain_restore a_Gain_restore d_Gain_restore
  b_Gain_restore : Binds K d_Gain_restore P_Gain_restore []
  a_Delay_init : Addr
  d_Delay_init : FuncData
  F_Delay_init : Fun K "__init__" "Delay.__init__" s_Delay_init a_Delay_init d_Delay_init
  b_Delay_init : Binds K d_Delay_init P_Delay_init []
  a_Delay_process : Addr
  d_Delay_process : FuncData
  F_Delay_process : Fun K "process" "Delay.process" s_Delay_process a_Delay_process d_Delay_process
  b_Delay_process : Binds K d_Delay_process P_Delay_process []
  a_Delay_state : Addr
  d_Delay_state : FuncData
  F_Delay_state : Fun K "state" "Delay.state" s_Delay_state a_Delay_state d_Delay_state
  b_Delay_state : Binds K d_Delay_state P_Delay_state []
  a_Delay_restore : Addr
  d_Delay_restore : FuncData
  F_Delay_restore : Fun K "restore" "Delay.restore" s_Delay_restore a_Delay_restore d_Delay_restore
  b_Delay_restore : Binds K d_Delay_restore P_Delay_restore []
  a_Smooth_init : Addr
  d_Smooth_init : FuncData
  F_Smooth_init : Fun K "__init__" "Smooth.__init__" s_Smooth_init a_Smooth_init d_Smooth_init
  b_Smooth_init : Binds K d_Smooth_init P_Smooth_init []
  a_Smooth_process : Addr
  d_Smooth_process : FuncData
  F_Smooth_process : Fun K "process" "Smooth.process" s_Smooth_process a_Smooth_process d_Smooth_process
  b_Smooth_process : Binds K d_Smooth_process P_Smooth_process []
  a_Smooth_state : Addr
  d_Smooth_state : FuncData
  F_Smooth_state : Fun K "state" "Smooth.state" s_Smooth_state a_Smooth_state d_Smooth_state
  b_Smooth_state : Binds K d_Smooth_state P_Smooth_state []
  a_Smooth_restore : Addr
  d_Smooth_restore : FuncData
  F_Smooth_restore : Fun K "restore" "Smooth.restore" s_Smooth_restore a_Smooth_restore d_Smooth_restore
  b_Smooth_restore : Binds K d_Smooth_restore P_Smooth_restore []
  a_Ahead_init : Addr
  d_Ahead_init : FuncData
  F_Ahead_init : Fun K "__init__" "Ahead.__init__" s_Ahead_init a_Ahead_init d_Ahead_init
  b_Ahead_init : Binds K d_Ahead_init P_Ahead_init []
  a_Ahead_process : Addr
  d_Ahead_process : FuncData
  F_Ahead_process : Fun K "process" "Ahead.process" s_Ahead_process a_Ahead_process d_Ahead_process
  b_Ahead_process : Binds K d_Ahead_process P_Ahead_process []
  a_Ahead_state : Addr
  d_Ahead_state : FuncData
  F_Ahead_state : Fun K "state" "Ahead.state" s_Ahead_state a_Ahead_state d_Ahead_state
  b_Ahead_state : Binds K d_Ahead_state P_Ahead_state []
  a_Ahead_restore : Addr
  d_Ahead_restore : FuncData
  F_Ahead_restore : Fun K "restore" "Ahead.restore" s_Ahead_restore a_Ahead_restore d_Ahead_restore
  b_Ahead_restore : Binds K d_Ahead_restore P_Ahead_restore []
  a_effect_of : Addr
  d_effect_of : FuncData
  F_effect_of : Fun K "effect_of" "effect_of" s_effect_of a_effect_of d_effect_of
  g_effect_of : mg "effect_of" = some (.ref a_effect_of)
  b_effect_of : Binds K d_effect_of P_effect_of []
  a_l_deck : Addr
  d_l_deck : FuncData
  F_l_deck : Fun K "_law_deck" "_law_deck" s_l_deck a_l_deck d_l_deck
  g_l_deck : mg "_law_deck" = some (.ref a_l_deck)
  b_l_deck : Binds K d_l_deck P_l_deck []
  a_l_draw : Addr
  d_l_draw : FuncData
  F_l_draw : Fun K "_law_draw" "_law_draw" s_l_draw a_l_draw d_l_draw
  g_l_draw : mg "_law_draw" = some (.ref a_l_draw)
  b_l_draw : Binds K d_l_draw P_l_draw []
  a_l_sample : Addr
  d_l_sample : FuncData
  F_l_sample : Fun K "_law_sample" "_law_sample" s_l_sample a_l_sample d_l_sample
  g_l_sample : mg "_law_sample" = some (.ref a_l_sample)
  b_l_sample : Binds K d_l_sample P_l_sample []
  a_l_samples : Addr
  d_l_samples : FuncData
  F_l_samples : Fun K "_law_samples" "_law_samples" s_l_samples a_l_samples d_l_samples
  g_l_samples : mg "_law_samples" = some (.ref a_l_samples)
  b_l_samples : Binds K d_l_samples P_l_samples []
  a_l_gain : Addr
  d_l_gain : FuncData
  F_l_gain : Fun K "_law_gain" "_law_gain" s_l_gain a_l_gain d_l_gain
  g_l_gain : mg "_law_gain" = some (.ref a_l_gain)
  b_l_gain : Binds K d_l_gain P_l_gain []
  a_l_tempo : Addr
  d_l_tempo : FuncData
  F_l_tempo : Fun K "_law_tempo" "_law_tempo" s_l_tempo a_l_tempo d_l_tempo
  g_l_tempo : mg "_law_tempo" = some (.ref a_l_tempo)
  b_l_tempo : Binds K d_l_tempo P_l_tempo []
  a_l_points : Addr
  d_l_points : FuncData
  F_l_points : Fun K "_law_points" "_law_points" s_l_points a_l_points d_l_points
  g_l_points : mg "_law_points" = some (.ref a_l_points)
  b_l_points : Binds K d_l_points P_l_points []
  a_l_spec : Addr
  d_l_spec : FuncData
  F_l_spec : Fun K "_law_spec" "_law_spec" s_l_spec a_l_spec d_l_spec
  g_l_spec : mg "_law_spec" = some (.ref a_l_spec)
  b_l_spec : Binds K d_l_spec P_l_spec []
  a_l_cut : Addr
  d_l_cut : FuncData
  F_l_cut : Fun K "_law_cut" "_law_cut" s_l_cut a_l_cut d_l_cut
  g_l_cut : mg "_law_cut" = some (.ref a_l_cut)
  b_l_cut : Binds K d_l_cut P_l_cut []
  a_l_through : Addr
  d_l_through : FuncData
  F_l_through : Fun K "_law_through" "_law_through" s_l_through a_l_through d_l_through
  g_l_through : mg "_law_through" = some (.ref a_l_through)
  b_l_through : Binds K d_l_through P_l_through []
  a_l_frame : Addr
  d_l_frame : FuncData
  F_l_frame : Fun K "_law_frame" "_law_frame" s_l_frame a_l_frame d_l_frame
  g_l_frame : mg "_law_frame" = some (.ref a_l_frame)
  b_l_frame : Binds K d_l_frame P_l_frame []
  a_l_value : Addr
  d_l_value : FuncData
  F_l_value : Fun K "_law_value" "_law_value" s_l_value a_l_value d_l_value
  g_l_value : mg "_law_value" = some (.ref a_l_value)
  b_l_value : Binds K d_l_value P_l_value []
  a_l_before : Addr
  d_l_before : FuncData
  F_l_before : Fun K "_law_before" "_law_before" s_l_before a_l_before d_l_before
  g_l_before : mg "_law_before" = some (.ref a_l_before)
  b_l_before : Binds K d_l_before P_l_before []
  a_l_smoothed : Addr
  d_l_smoothed : FuncData
  F_l_smoothed : Fun K "_law_smoothed" "_law_smoothed" s_l_smoothed a_l_smoothed d_l_smoothed
  g_l_smoothed : mg "_law_smoothed" = some (.ref a_l_smoothed)
  b_l_smoothed : Binds K d_l_smoothed P_l_smoothed []
  a_l_meant : Addr
  d_l_meant : FuncData
  F_l_meant : Fun K "_law_meant" "_law_meant" s_l_meant a_l_meant d_l_meant
  g_l_meant : mg "_law_meant" = some (.ref a_l_meant)
  b_l_meant : Binds K d_l_meant P_l_meant []
  a_l_is_row : Addr
  d_l_is_row : FuncData
  F_l_is_row : Fun K "_law_is_row" "_law_is_row" s_l_is_row a_l_is_row d_l_is_row
  g_l_is_row : mg "_law_is_row" = some (.ref a_l_is_row)
  b_l_is_row : Binds K d_l_is_row P_l_is_row []
  a_l_blocks : Addr
  d_l_blocks : FuncData
  F_l_blocks : Fun K "_law_blocks" "_law_blocks" s_l_blocks a_l_blocks d_l_blocks
  g_l_blocks : mg "_law_blocks" = some (.ref a_l_blocks)
  b_l_blocks : Binds K d_l_blocks P_l_blocks []
  a_l_part : Addr
  d_l_part : FuncData
  F_l_part : Fun K "_law_part" "_law_part" s_l_part a_l_part d_l_part
  g_l_part : mg "_law_part" = some (.ref a_l_part)
  b_l_part : Binds K d_l_part P_l_part []
  a_l_made : Addr
  d_l_made : FuncData
  F_l_made : Fun K "_law_made" "_law_made" s_l_made a_l_made d_l_made
  g_l_made : mg "_law_made" = some (.ref a_l_made)
  b_l_made : Binds K d_l_made P_l_made []
  a_l_late : Addr
  d_l_late : FuncData
  F_l_late : Fun K "_law_late" "_law_late" s_l_late a_l_late d_l_late
  g_l_late : mg "_law_late" = some (.ref a_l_late)
  b_l_late : Binds K d_l_late P_l_late []
  a_l_sent : Addr
  d_l_sent : FuncData
  F_l_sent : Fun K "_law_sent" "_law_sent" s_l_sent a_l_sent d_l_sent
  g_l_sent : mg "_law_sent" = some (.ref a_l_sent)
  b_l_sent : Binds K d_l_sent P_l_sent []
  a_law : Addr
  d_law : FuncData
  F_law : Fun K "law" "law" s_law a_law d_law
  g_law : mg "law" = some (.ref a_law)
  b_law : Binds K d_law P_law []
  c_DelayLine : Addr
  g_DelayLine : mg "DelayLine" = some (.ref c_DelayLine)
  cl_DelayLine : Cls K c_DelayLine
  mk_DelayLine : Mk K c_DelayLine a_DelayLine_init
  n_DelayLine_frames : NoAttr K c_DelayLine "frames"
  n_DelayLine_past : NoAttr K c_DelayLine "past"
  m_DelayLine_process : Meth K c_DelayLine "process" a_DelayLine_process
  m_DelayLine_state : Meth K c_DelayLine "state" a_DelayLine_state
  m_DelayLine_restore : Meth K c_DelayLine "restore" a_DelayLine_restore
  c_Pass : Addr
  g_Pass : mg "Pass" = some (.ref c_Pass)
  cl_Pass : Cls K c_Pass
  mk_Pass : MkN K c_Pass
  m_Pass_process : Meth K c_Pass "process" a_Pass_process
  m_Pass_state : Meth K c_Pass "state" a_Pass_state
  m_Pass_restore : Meth K c_Pass "restore" a_Pass_restore
  c_Gain : Addr
  g_Gain : mg "Gain" = some (.ref c_Gain)
  cl_Gain : Cls K c_Gain
  mk_Gain : Mk K c_Gain a_Gain_init
  n_Gain_points : NoAttr K c_Gain "points"
  m_Gain_process : Meth K c_Gain "process" a_Gain_process
  m_Gain_state : Meth K c_Gain "state" a_Gain_state
  m_Gain_restore : Meth K c_Gain "restore" a_Gain_restore
  c_Delay : Addr
  g_Delay : mg "Delay" = some (.ref c_Delay)
  cl_Delay : Cls K c_Delay
  mk_Delay : Mk K c_Delay a_Delay_init
  n_Delay_frames : NoAttr K c_Delay "frames"
  n_Delay_feedback : NoAttr K c_Delay "feedback"
  n_Delay_own : NoAttr K c_Delay "own"
  n_Delay_past : NoAttr K c_Delay "past"
  m_Delay_process : Meth K c_Delay "process" a_Delay_process
  m_Delay_state : Meth K c_Delay "state" a_Delay_state
  m_Delay_restore : Meth K c_Delay "restore" a_Delay_restore
  c_Smooth : Addr
  g_Smooth : mg "Smooth" = some (.ref c_Smooth)
  cl_Smooth : Cls K c_Smooth
  mk_Smooth : Mk K c_Smooth a_Smooth_init
  n_Smooth_k : NoAttr K c_Smooth "k"
  n_Smooth_value : NoAttr K c_Smooth "value"
  m_Smooth_process : Meth K c_Smooth "process" a_Smooth_process
  m_Smooth_state : Meth K c_Smooth "state" a_Smooth_state
  m_Smooth_restore : Meth K c_Smooth "restore" a_Smooth_restore
  c_Ahead : Addr
  g_Ahead : mg "Ahead" = some (.ref c_Ahead)
  cl_Ahead : Cls K c_Ahead
  mk_Ahead : Mk K c_Ahead a_Ahead_init
  n_Ahead_frames : NoAttr K c_Ahead "frames"
  n_Ahead_ceiling : NoAttr K c_Ahead "ceiling"
  n_Ahead_past : NoAttr K c_Ahead "past"
  m_Ahead_process : Meth K c_Ahead "process" a_Ahead_process
  m_Ahead_state : Meth K c_Ahead "state" a_Ahead_state
  m_Ahead_restore : Meth K c_Ahead "restore" a_Ahead_restore
  z_len : mg "len" = none
  z_max : mg "max" = none
  z_min : mg "min" = none
  z_abs : mg "abs" = none
  z_isinstance : mg "isinstance" = none
  z_all : mg "all" = none
  z_int : mg "int" = none
  z_list : mg "list" = none
  z_tuple : mg "tuple" = none
  z_range : mg "range" = none
  z_enumerate : mg "enumerate" = none
  z_bool : mg "bool" = none
  t_SAMPLE_LEAST : Tok
  g_SAMPLE_LEAST : mg "SAMPLE_LEAST" = some (.int (-8388608) t_SAMPLE_LEAST)
  t_SAMPLE_MOST : Tok
  g_SAMPLE_MOST : mg "SAMPLE_MOST" = some (.int (8388607) t_SAMPLE_MOST)
  t_GAIN_ONE : Tok
  g_GAIN_ONE : mg "GAIN_ONE" = some (.int (65536) t_GAIN_ONE)
  a_PARTS : Addr
  g_PARTS : mg "PARTS" = some (.ref a_PARTS)
  p_PARTS : ∀ H : Hp, SqT K H a_PARTS (PARTSV.map V.int)
end K37

/-! K37, part 2: defs over numbers. -/
namespace K37
open PySem L2 Evl

section
variable {K : PySem.W.Frag} {σ : L2.St} {H H' : Hp} {ta tb tc te tx : TE} {t u : TT} {x y z v : V} {r : R2}
def rMin2 : List V → Hp → VK → Prop := fun xs H Q => ∃ i j, xs = [.int i, .int j] ∧ Q (.int (if j < i then j else i)) H
theorem ev_min2 {i j : Int} (ha : Ev ta σ H (.int i)) (hb : Ev tb σ H (.int j)) : Ev (tCB rMin2 (tCons ta (tCons tb tNil))) σ H (.int (if j < i then j else i)) := fun H1 e Q q =>
  ha H1 e _ fun H2 e2 => hb H2 (e.trans e2) _ fun H3 e3 => ⟨i, j, rfl, q H3 (e2.trans e3)⟩
theorem ev_abs {i : Int} (ha : Ev ta σ H (.int i)) : Ev (tCB rAbs (tCons ta tNil)) σ H (.int (absI i)) := fun H1 e Q q =>
  ha H1 e _ fun H2 e2 => ⟨i, rfl, q H2 e2⟩
theorem ev_int1 {i : Int} (ha : Ev ta σ H (.int i)) : Ev (tCB (fun xs H Q => (∃ i, xs = [.int i] ∧ Q (.int i) H) ∨ ∃ k, xs = [.bl k] ∧ Q (.int (if k then 1 else 0)) H) (tCons ta tNil)) σ H (.int i) := fun H1 e Q q =>
  ha H1 e _ fun H2 e2 => .inl ⟨i, rfl, q H2 e2⟩
theorem ev_call0 {sp : Sp} {vs : List V} {E : XK} {ta : TA} (h : EvA ta σ H vs) (hs : SpV sp vs H z) : Ev (tCall sp [] E ta) σ H z := ev_call h (by rw [List.append_nil]; exact hs)
theorem el_call0 {sp : Sp} {vs xs : List V} {E : XK} {ta : TA} (h : EvA ta σ H vs) (hs : SpL sp vs H xs) : EvL (tCall sp [] E ta) σ H xs := el_call h (by rw [List.append_nil]; exact hs)
theorem ev_isi {b : Bool} {ty n : String} (ha : Ev ta σ H x) (hx : ∀ H1, Ex H H1 → TyX K H1 x (.type ty)) (hk : kitB ty n = some b) : Ev (tCB (rIsi K) (tCons ta (tCons (tC (.ty n)) tNil))) σ H (.bl b) := fun H1 e Q q =>
  ha H1 e _ fun H2 e2 => ⟨x, .ty n, .type ty, .type n, b, rfl, .ty n, hx H2 (e.trans e2), kit_ty hk, q H2 e2⟩
theorem ev_isi_ii {i : Int} (ha : Ev ta σ H (.int i)) : Ev (tCB (rIsi K) (tCons ta (tCons (tC (.ty "int")) tNil))) σ H (.bl true) := ev_isi ha (fun _ _ => .base (.int i)) (by decide +kernel)
theorem ev_isi_ib {i : Int} (ha : Ev ta σ H (.int i)) : Ev (tCB (rIsi K) (tCons ta (tCons (tC (.ty "bool")) tNil))) σ H (.bl false) := ev_isi ha (fun _ _ => .base (.int i)) (by decide +kernel)
theorem ev_isi_tt {a : Addr} {xs : List V} (ha : Ev ta σ H (.ref a)) (h : H a = some (.tup xs)) : Ev (tCB (rIsi K) (tCons ta (tCons (tC (.ty "tuple")) tNil))) σ H (.bl true) := ev_isi ha (fun _ e => .base (.tup (e _ _ h))) (by decide +kernel)
theorem ev_isi_ll {a : Addr} {xs : List V} (ha : Ev ta σ H (.ref a)) (h : H a = some (.lst xs)) : Ev (tCB (rIsi K) (tCons ta (tCons (tC (.ty "list")) tNil))) σ H (.bl true) := ev_isi ha (fun _ e => .base (.lst (e _ _ h))) (by decide +kernel)
theorem ev_chain {i j k : Int} (ha : Ev ta σ H (.int i)) (hb : Ev tb σ H (.int j)) (hc : Ev tc σ H (.int k)) :
    Ev (tChain (rI0 fun i j => .bl (decide (i ≤ j))) (rI0 fun i j => .bl (decide (i ≤ j))) ta tb tc) σ H (.bl (decide (i ≤ j) && decide (j ≤ k))) := fun H1 e Q q =>
  ha H1 e _ fun H2 e2 => hb H2 (e.trans e2) _ fun H3 e3 => ⟨i, j, rfl, rfl, decide (i ≤ j), rfl, by
    cases hd : decide (i ≤ j) with
    | true =>
      simp only [hd, Bool.true_and] at q
      exact iteT (hc H3 ((e.trans e2).trans e3) _ fun H4 e4 => ⟨j, k, rfl, rfl, q H4 ((e2.trans e3).trans e4)⟩)
    | false =>
      simp only [hd, Bool.false_and] at q
      exact iteF (q H3 (e2.trans e3))⟩
theorem ev_lenT {p : Addr} {xs : List V} (ha : Ev ta σ H (.ref p)) (h : SqT K H p xs) : Ev (tCB (rLenS K) (tCons ta tNil)) σ H (.int (xs.length : Int)) := fun H1 e Q q =>
  ha H1 e _ fun H2 e2 => ⟨p, xs, rfl, Or.inr (ex_t (e.trans e2) h), q H2 e2⟩
theorem ev_neg {i : Int} (ha : Ev ta σ H (.int i)) : Ev (tUn (rU fun i => .int (-i)) ta) σ H (.int (-i)) := ev_un ha ru_neg
end
theorem smp64 {s : Int} (h : Smp s) : -(2 ^ 64) < s ∧ s < 2 ^ 64 := by
  have : (2 : Int) ^ 64 = 18446744073709551616 := by decide
  unfold Smp at h; omega
theorem div65536 {i : Int} : CDiv i 65536 := ⟨by decide, by decide⟩

variable {P : Program} {w : World} {K : PySem.W.Frag} {mg : Str → Option Value} {base : Heap}

/-! ### cut, through -/
def sp_cut (T : Tx K mg) : Sp := fun vs H Q _ => ∃ n : Int, vs = [.int n] ∧ RetV (.int (cutI n)) H Q
theorem v_cut (T : Tx K mg) {H : Hp} (n : Int) : SpV (sp_cut T) [.int n] H (.int (cutI n)) := fun _ _ _ q _ => ⟨n, rfl, q⟩
theorem ok_cut (T : Tx K mg) : FnOk P w K mg base CX0 1 T.a_cut T.d_cut P_cut (sp_cut T) := by
  refine T.F_cut.ok sc_cut (fun vs H Q E h => ?_) (fun cdv A outer s H vs Q E hr h => ?_)
  · obtain ⟨n, rfl, _⟩ := h
    rfl
  · obtain ⟨n, rfl, k⟩ := h
    refine ⟨_, (pss_one (ps_ret (pe_callB (call_max2 rfl) (by rfl) T.z_max (by decide +kernel) (pa_cons (pe_glob (v := .int (-8388608)) (by rfl) T.g_SAMPLE_LEAST ⟨_, rfl⟩) (pa_cons (pe_callB (call_min2 rfl) (by rfl) T.z_min (by decide +kernel) (pa_cons (pe_glob (v := .int (8388607)) (by rfl) T.g_SAMPLE_MOST ⟨_, rfl⟩) (pa_cons (pv 0) pa_nil))) pa_nil))))), ?_⟩
    exact s_ret (ev_max2 ev_c (ev_min2 ev_c (ev_var rfl))) k
def sp_through (T : Tx K mg) : Sp := fun vs H Q _ => ∃ s g : Int, vs = [.int s, .int g] ∧ Smp s ∧ RetV (.int (thrI s g)) H Q
theorem v_through (T : Tx K mg) {H : Hp} {s g : Int} (h : Smp s) : SpV (sp_through T) [.int s, .int g] H (.int (thrI s g)) := fun _ _ _ q _ => ⟨s, g, rfl, h, q⟩
theorem ok_through (T : Tx K mg) : FnOk P w K mg base CX0 2 T.a_through T.d_through P_through (sp_through T) := by
  refine T.F_through.ok sc_through (fun vs H Q E h => ?_) (fun cdv A outer s H vs Q E hr h => ?_)
  · obtain ⟨a, g, rfl, _⟩ := h
    rfl
  · obtain ⟨a, g, rfl, ha, k⟩ := h
    refine ⟨_, (pss_one (ps_ret (pe_call (ok_cut T) (hr.mono (by decide)) (by rfl) T.g_cut T.F_cut.kp T.b_cut .nil pass0 (pa_cons (pe_op op_fdiv (pe_op op_add (pe_op op_mul (pv 0) (pv 1)) (pe_op op_fdiv (pe_glob (v := .int (65536)) (by rfl) T.g_GAIN_ONE ⟨_, rfl⟩) pe_int)) (pe_glob (v := .int (65536)) (by rfl) T.g_GAIN_ONE ⟨_, rfl⟩)) pa_nil)))), ?_⟩
    exact s_ret (ev_call0 (ea_cons (ev_op (ev_op (ev_op (ev_var rfl) (ev_var rfl) (rv_I (.inl (smp64 ha)))) (ev_op ev_c ev_c (rv_I ⟨by decide, by decide⟩)) rv_I0) ev_c (rv_I div65536)) ea_nil) (v_cut T _)) k

/-! ### is_count, is_sample -/
def sp_is_count (T : Tx K mg) : Sp := fun vs H Q _ => ∃ v lo hi : Int, vs = [.int v, .int lo, .int hi] ∧ RetV (.bl (decide (lo ≤ v) && decide (v ≤ hi))) H Q
theorem v_is_count (T : Tx K mg) {H : Hp} (v lo hi : Int) : SpV (sp_is_count T) [.int v, .int lo, .int hi] H (.bl (decide (lo ≤ v) && decide (v ≤ hi))) := fun _ _ _ q _ => ⟨v, lo, hi, rfl, q⟩
theorem ok_is_count (T : Tx K mg) : FnOk P w K mg base CX0 1 T.a_is_count T.d_is_count P_is_count (sp_is_count T) := by
  refine T.F_is_count.ok sc_is_count (fun vs H Q E h => ?_) (fun cdv A outer s H vs Q E hr h => ?_)
  · obtain ⟨v, lo, hi, rfl, _⟩ := h
    rfl
  · obtain ⟨v, lo, hi, rfl, k⟩ := h
    refine ⟨_, (pss_one (ps_ret (pe_and (pe_callB call_isi (by rfl) T.z_isinstance (by decide +kernel) (pa_cons (pv 0) (pa_cons (pe_bltn (v := .ty "int") (by rfl) T.z_int (by decide +kernel) rfl) pa_nil))) (pe_and (pe_not (pe_callB call_isi (by rfl) T.z_isinstance (by decide +kernel) (pa_cons (pv 0) (pa_cons (pe_bltn (v := .ty "bool") (by rfl) T.z_bool (by decide +kernel) rfl) pa_nil)))) (pe_one (pe_chain op_le op_le (pv 1) (pv 0) (pv 2))))))), ?_⟩
    exact s_ret (ev_andV (ev_isi_ii (ev_var rfl)) fun _ => ev_andV (ev_notV (ev_isi_ib (ev_var rfl))) fun _ => ev_chain (ev_var rfl) (ev_var rfl) (ev_var rfl)) k
def sp_is_sample (T : Tx K mg) : Sp := fun vs H Q _ => ∃ v : Int, vs = [.int v] ∧ Smp v ∧ RetV (.bl true) H Q
theorem v_is_sample (T : Tx K mg) {H : Hp} {v : Int} (h : Smp v) : SpV (sp_is_sample T) [.int v] H (.bl true) := fun _ _ _ q _ => ⟨v, rfl, h, q⟩
theorem ok_is_sample (T : Tx K mg) : FnOk P w K mg base CX0 2 T.a_is_sample T.d_is_sample P_is_sample (sp_is_sample T) := by
  refine T.F_is_sample.ok sc_is_sample (fun vs H Q E h => ?_) (fun cdv A outer s H vs Q E hr h => ?_)
  · obtain ⟨v, rfl, _⟩ := h
    rfl
  · obtain ⟨v, rfl, hv, k⟩ := h
    refine ⟨_, (pss_one (ps_ret (pe_call (ok_is_count T) (hr.mono (by decide)) (by rfl) T.g_is_count T.F_is_count.kp T.b_is_count .nil pass0 (pa_cons (pv 0) (pa_cons (pe_glob (v := .int (-8388608)) (by rfl) T.g_SAMPLE_LEAST ⟨_, rfl⟩) (pa_cons (pe_glob (v := .int (8388607)) (by rfl) T.g_SAMPLE_MOST ⟨_, rfl⟩) pa_nil)))))), ?_⟩
    refine s_ret (ev_is (ev_call0 (ea_cons (ev_var rfl) (ea_cons ev_c (ea_cons ev_c ea_nil))) (v_is_count T v _ _)) ?_) k
    unfold Smp at hv
    rw [decide_eq_true hv.1, decide_eq_true hv.2]
    rfl
end K37

/-! K37, part 3: smoothing, ahead, ticks and frames. -/
namespace K37
open PySem L2 Evl

/-! ### tuples in a list or a tuple -/
def TupL {α : Type} (H : Hp) (es : List Addr) (f : α → List V) (xs : List α) : Prop := es.length = xs.length ∧ ∀ (i : Nat) (e : Addr) (x : α), es[i]? = some e → xs[i]? = some x → H e = some (.tup (f x))
theorem TupL.mono {α : Type} {H H' : Hp} {es : List Addr} {f : α → List V} {xs : List α} (e : Ex H H') (h : TupL H es f xs) : TupL H' es f xs := ⟨h.1, fun i a x h1 h2 => e _ _ (h.2 i a x h1 h2)⟩
theorem TupL.get {α : Type} {H : Hp} {es : List Addr} {f : α → List V} {xs : List α} (h : TupL H es f xs) {i : Nat} {x : α} (hx : xs[i]? = some x) : ∃ e, es[i]? = some e ∧ H e = some (.tup (f x)) := by
  have hi := (List.getElem?_eq_some_iff.mp hx).1
  have he : es[i]? = some (es[i]'(by rw [h.1]; exact hi)) := List.getElem?_eq_getElem _
  exact ⟨_, he, h.2 i _ x he hx⟩
theorem TupL.get' {α : Type} {H : Hp} {es : List Addr} {f : α → List V} {xs : List α} (h : TupL H es f xs) {i : Nat} {v : V} (hx : (es.map V.ref)[i]? = some v) : ∃ e x, v = .ref e ∧ xs[i]? = some x ∧ H e = some (.tup (f x)) := by
  rw [List.getElem?_map] at hx
  cases he : es[i]? with
  | none => rw [he] at hx; cases hx
  | some e =>
    rw [he] at hx
    have hi := (List.getElem?_eq_some_iff.mp he).1
    have q : xs[i]? = some (xs[i]'(by rw [← h.1]; exact hi)) := List.getElem?_eq_getElem _
    exact ⟨e, _, (Option.some.inj hx).symm, q, h.2 i e _ he q⟩
theorem TupL.nil {α : Type} {H : Hp} {f : α → List V} : TupL H [] f [] := ⟨rfl, fun i e x h => by simp at h⟩
theorem TupL.snoc {α : Type} {H : Hp} {es : List Addr} {f : α → List V} {xs : List α} {e : Addr} {x : α} (h : TupL H es f xs) (he : H e = some (.tup (f x))) : TupL H (es ++ [e]) f (xs ++ [x]) := by
  refine ⟨by simp [h.1], fun i a y h1 h2 => ?_⟩
  by_cases hi : i < es.length
  · rw [List.getElem?_append_left hi] at h1
    rw [List.getElem?_append_left (by rw [← h.1]; exact hi)] at h2
    exact h.2 i a y h1 h2
  · rw [List.getElem?_append_right (by omega)] at h1
    rw [List.getElem?_append_right (by rw [← h.1]; omega)] at h2
    have z : i - es.length = 0 := by
      have := (List.getElem?_eq_some_iff.mp h1).1
      simp at this
      omega
    rw [z] at h1
    rw [← h.1, z] at h2
    cases h1; cases h2
    exact he
def entV (e : Ent) : List V := [.int e.1, .int e.2.1, .int e.2.2]
def pntV (p : Pnt) : List V := [.int p.1, .int p.2]
def IsTs (H : Hp) (a : Addr) (ts : List Ent) : Prop := ∃ es : List Addr, H a = some (.lst (es.map V.ref)) ∧ TupL H es entV ts
/-- points in a list, in a tuple -/
def IsPl (H : Hp) (a : Addr) (ps : List Pnt) : Prop := ∃ es : List Addr, H a = some (.lst (es.map V.ref)) ∧ TupL H es pntV ps
def IsPt (H : Hp) (a : Addr) (ps : List Pnt) : Prop := ∃ es : List Addr, H a = some (.tup (es.map V.ref)) ∧ TupL H es pntV ps
theorem IsTs.mono {H H' : Hp} {a : Addr} {ts : List Ent} (e : Ex H H') : IsTs H a ts → IsTs H' a ts := fun ⟨es, h, t⟩ => ⟨es, e _ _ h, t.mono e⟩
theorem IsPl.mono {H H' : Hp} {a : Addr} {ps : List Pnt} (e : Ex H H') : IsPl H a ps → IsPl H' a ps := fun ⟨es, h, t⟩ => ⟨es, e _ _ h, t.mono e⟩
theorem IsPt.mono {H H' : Hp} {a : Addr} {ps : List Pnt} (e : Ex H H') : IsPt H a ps → IsPt H' a ps := fun ⟨es, h, t⟩ => ⟨es, e _ _ h, t.mono e⟩
theorem at_map {α : Type} {f : α → V} {xs : List α} {i : Nat} {x : α} (h : xs[i]? = some x) : atI (xs.map f) (i : Int) = some (f x) := atI_nat (by rw [List.getElem?_map, h]; rfl)
theorem at_mapz {α : Type} {f : α → V} {xs : List α} {i : Nat} {x : α} {z : Int} (h : xs[i]? = some x) (hz : z = (i : Int)) : atI (xs.map f) z = some (f x) := by rw [hz]; exact at_map h
theorem at_mapl {α : Type} {f : α → V} {xs : List α} {x : α} : atI ((xs ++ [x]).map f) (-1) = some (f x) := by rw [List.map_append]; exact atI_last _ _
section
variable {K : PySem.W.Frag} {σ : L2.St} {H H' : Hp} {ta tb tc te tx : TE} {t u : TT} {x y z v : V} {r : R2} {D : Ends}
theorem s_par {i j : Nat} {t : TA} (h : EvA t σ H [x, y]) (k : ∀ H1, Ex H H1 → D.nx ((σ.set i (some x)).set j (some y)) H1) : tPar i j t D σ H := h H (Ex.refl H) _ fun H1 e => ⟨x, y, rfl, k H1 e⟩
end

variable {P : Program} {w : World} {K : PySem.W.Frag} {mg : Str → Option Value} {base : Heap}

/-! ### toward, turned_down, latency_of -/
theorem parts_at {k : Nat} (h : k ≤ 8) : atI (PARTSV.map V.int) (k : Int) = some (.int (2 ^ k)) := by
  have : k = 0 ∨ k = 1 ∨ k = 2 ∨ k = 3 ∨ k = 4 ∨ k = 5 ∨ k = 6 ∨ k = 7 ∨ k = 8 := by omega
  rcases this with h | h | h | h | h | h | h | h | h <;> subst h <;> rfl
theorem pow_div {k : Nat} (h : k ≤ 8) (i : Int) : CDiv i (2 ^ k) := by
  have : k = 0 ∨ k = 1 ∨ k = 2 ∨ k = 3 ∨ k = 4 ∨ k = 5 ∨ k = 6 ∨ k = 7 ∨ k = 8 := by omega
  rcases this with h | h | h | h | h | h | h | h | h <;> subst h <;> exact ⟨by decide, by decide⟩
def sp_toward (T : Tx K mg) : Sp := fun vs H Q _ => ∃ (v s : Int) (k : Nat), vs = [.int v, .int s, .int k] ∧ k ≤ 8 ∧ RetV (.int (towI v s k)) H Q
theorem v_toward (T : Tx K mg) {H : Hp} {v s : Int} {k : Nat} (h : k ≤ 8) : SpV (sp_toward T) [.int v, .int s, .int k] H (.int (towI v s k)) := fun _ _ _ q _ => ⟨v, s, k, rfl, h, q⟩
theorem ok_toward (T : Tx K mg) : FnOk P w K mg base CX0 1 T.a_toward T.d_toward P_toward (sp_toward T) := by
  refine T.F_toward.ok sc_toward (fun vs H Q E h => ?_) (fun cdv A outer s H vs Q E hr h => ?_)
  · obtain ⟨v, a, n, rfl, _⟩ := h
    rfl
  · obtain ⟨v, a, n, rfl, hn, k⟩ := h
    refine ⟨_, (pss_cons (ps_if (pt_cmpR op_lt (pv 1) (pv 0) (nomark _)) (pss_one (ps_ret (pe_op op_fdiv (pe_op op_sub (pv 1) (pv 0)) (pe_ix ix_seq (pe_glob (v := .ref T.a_PARTS) (by rfl) T.g_PARTS rfl) (pv 2) (fun _ _ => rfl))))) pss_nil) (pss_one (ps_ret (pe_un un_neg (pe_op op_fdiv (pe_op op_sub (pv 0) (pv 1)) (pe_ix ix_seq (pe_glob (v := .ref T.a_PARTS) (by rfl) T.g_PARTS rfl) (pv 2) (fun _ _ => rfl))))))), ?_⟩
    unfold towI at k
    refine q_when (et_test (ev_op (ev_var rfl) (ev_var rfl) rv_I0)) (fun hb H1 e1 => ?_) (fun hb H1 e1 => ?_)
    · rw [if_pos (of_decide_eq_true hb)] at k
      exact s_ret (ev_op (ev_op (ev_var rfl) (ev_var rfl) rv_I0) (ev_op ev_c (ev_var rfl) (rv_iT (T.p_PARTS _) (parts_at hn))) (rv_I (pow_div hn _))) fun H2 e2 => k H2 (e1.trans e2)
    · rw [if_neg (of_decide_eq_false hb)] at k
      exact s_ret (ev_neg (ev_op (ev_op (ev_var rfl) (ev_var rfl) rv_I0) (ev_op ev_c (ev_var rfl) (rv_iT (T.p_PARTS _) (parts_at hn))) (rv_I (pow_div hn _)))) fun H2 e2 => k H2 (e1.trans e2)
def sp_turned_down (T : Tx K mg) : Sp := fun vs H Q _ => ∃ (p c : Int), vs = [.int p, .int c] ∧ (0 ≤ c ∧ c ≤ 8388607 ∧ p ≤ 8388608) ∧ RetV (.int (turnI p c)) H Q
theorem v_turned (T : Tx K mg) {H : Hp} {p c : Int} (h : 0 ≤ c ∧ c ≤ 8388607 ∧ p ≤ 8388608) : SpV (sp_turned_down T) [.int p, .int c] H (.int (turnI p c)) := fun _ _ _ q _ => ⟨p, c, rfl, h, q⟩
theorem ok_turned_down (T : Tx K mg) : FnOk P w K mg base CX0 1 T.a_turned_down T.d_turned_down P_turned_down (sp_turned_down T) := by
  refine T.F_turned_down.ok sc_turned_down (fun vs H Q E h => ?_) (fun cdv A outer s H vs Q E hr h => ?_)
  · obtain ⟨p, c, rfl, _⟩ := h
    rfl
  · obtain ⟨p, c, rfl, hn, k⟩ := h
    refine ⟨_, (pss_cons (ps_if (pt_cmpR op_le (pv 0) (pv 1) (nomark _)) (pss_one (ps_ret (pe_glob (v := .int (65536)) (by rfl) T.g_GAIN_ONE ⟨_, rfl⟩))) pss_nil) (pss_one (ps_ret (pe_op op_fdiv (pe_op op_mul (pv 1) (pe_glob (v := .int (65536)) (by rfl) T.g_GAIN_ONE ⟨_, rfl⟩)) (pv 0))))), ?_⟩
    unfold turnI at k
    refine q_when (et_test (ev_op (ev_var rfl) (ev_var rfl) rv_I0)) (fun hb H1 e1 => ?_) (fun hb H1 e1 => ?_)
    · rw [if_pos (of_decide_eq_true hb)] at k
      exact s_ret ev_c fun H2 e2 => k H2 (e1.trans e2)
    · have hb' := of_decide_eq_false hb
      rw [if_neg hb'] at k
      exact s_ret (ev_op (ev_op (ev_var rfl) ev_c (rv_I (.inr ⟨by decide, by decide⟩))) (ev_var rfl) (rv_I ⟨by omega, by omega⟩)) fun H2 e2 => k H2 (e1.trans e2)

/-! ### the greatest common divisor, the common denominator -/
def sp_greatest_divisor (T : Tx K mg) : Sp := fun vs H Q _ => ∃ (a b : Nat), vs = [.int a, .int b] ∧ RetV (.int (Nat.gcd a b : Nat)) H Q
theorem v_gcd (T : Tx K mg) {H : Hp} (a b : Nat) : SpV (sp_greatest_divisor T) [.int a, .int b] H (.int (Nat.gcd a b : Nat)) := fun _ _ _ q _ => ⟨a, b, rfl, q⟩
theorem ok_greatest_divisor (T : Tx K mg) : FnOk P w K mg base CX0 1 T.a_greatest_divisor T.d_greatest_divisor P_greatest_divisor (sp_greatest_divisor T) := by
  refine T.F_greatest_divisor.ok sc_greatest_divisor (fun vs H Q E h => ?_) (fun cdv A outer s H vs Q E hr h => ?_)
  · obtain ⟨a, b, rfl, _⟩ := h
    rfl
  · obtain ⟨a, b, rfl, k⟩ := h
    refine ⟨_, (pss_cons (ps_while PassesOwn.never (pt_cmpR op_gt (pv 1) pe_int (nomark _)) (pss_one (ps_par (i := 0) (j := 1) rfl sc_greatest_divisor.nd rfl rfl (by decide) rfl rfl (pa_cons (pv 1) (pa_cons (pe_op op_mod (pv 0) (pv 1)) pa_nil)) (by rfl)))) (pss_one (ps_ret (pv 0)))), ?_⟩
    refine q_while (fun m σ' H' => ∃ a' b' : Nat, σ' = [some (.int a'), some (.int b')] ∧ Nat.gcd a' b' = Nat.gcd a b ∧ m = b' ∧ Ex H H') b ⟨a, b, rfl, rfl, rfl, Ex.refl H⟩ ?_
    rintro m σ' H' ⟨a', b', rfl, hg, rfl, e0⟩
    refine ⟨_, et_test (ev_op (ev_var rfl) ev_c rv_I0), fun hb H1 e1 => ⟨fun σ2 H2 => ∃ a2 b2 : Nat, σ2 = [some (.int a2), some (.int b2)] ∧ Nat.gcd a2 b2 = Nat.gcd a b ∧ b2 < m ∧ Ex H H2, ?_, ?_⟩, fun hb H1 e1 => ?_⟩
    · rintro σ2 H2 ⟨a2, b2, q1, q2, q3, q4⟩
      exact ⟨b2, q3, a2, b2, q1, q2, rfl, q4⟩
    · have hb' := of_decide_eq_true hb
      have hm : 0 < m := by omega
      refine s_par (ea_cons (ev_var rfl) (ea_cons (ev_op (ev_var rfl) (ev_var rfl) (rv_I (show (0 : Int) < (m : Int) by omega))) ea_nil)) fun H2 e2 => ?_
      refine ⟨m, a' % m, rfl, ?_, Nat.mod_lt _ hm, (e0.trans e1).trans e2⟩
      rw [← hg, Nat.gcd_comm a' m, Nat.gcd_rec m a', Nat.gcd_comm]
    · have hb' := of_decide_eq_false hb
      have hm : m = 0 := by omega
      subst hm
      rw [Nat.gcd_zero_right] at hg
      subst hg
      exact s_ret (ev_var rfl) fun H2 e2 => k H2 ((e0.trans e1).trans e2)
def sp_common_denominator (T : Tx K mg) : Sp := fun vs H Q _ => ∃ (a : Addr) (ts : List Ent), vs = [.ref a] ∧ IsTs H a ts ∧ TsOk ts ∧ RetV (.int (comN 1 ts : Nat)) H Q
theorem v_common (T : Tx K mg) {H : Hp} {a : Addr} {ts : List Ent} (h : IsTs H a ts) (hd : TsOk ts) : SpV (sp_common_denominator T) [.ref a] H (.int (comN 1 ts : Nat)) := fun _ e _ q _ => ⟨a, ts, rfl, h.mono e, hd, q⟩
theorem ok_common_denominator (T : Tx K mg) : FnOk P w K mg base CX0 2 T.a_common_denominator T.d_common_denominator P_common_denominator (sp_common_denominator T) := by
  refine T.F_common_denominator.ok sc_common_denominator (fun vs H Q E h => ?_) (fun cdv A outer s H vs Q E hr h => ?_)
  · obtain ⟨a, ts, rfl, _⟩ := h
    rfl
  · obtain ⟨a, ts, rfl, ⟨es, ha, ht⟩, hd, k⟩ := h
    refine ⟨_, (pss_cons (ps_set (i := 1) sc_common_denominator.nd rfl (.inl rfl) pe_int) (pss_cons (ps_for PassesOwn.never rfl (pi_list (pv 0)) (pg_tup rfl (pgs_cons (pg_name (i := 2) sc_common_denominator.nd rfl (.inl rfl)) (pgs_cons (pg_name (i := 2) sc_common_denominator.nd rfl (.inl rfl)) (pgs_cons (pg_name (i := 3) sc_common_denominator.nd rfl (.inl rfl)) pgs_nil)))) (pss_one (ps_set (i := 1) sc_common_denominator.nd rfl (.inl rfl) (pe_op op_fdiv (pe_op op_mul (pv 1) (pv 3)) (pe_call (ok_greatest_divisor T) (hr.mono (by decide)) (by rfl) T.g_greatest_divisor T.F_greatest_divisor.kp T.b_greatest_divisor .nil pass0 (pa_cons (pv 1) (pa_cons (pv 3) pa_nil))))))) (pss_one (ps_ret (pv 1))))), ?_⟩
    refine q_asg ev_c fun H0 e0 => ?_
    refine q_forL (ev_var rfl) (sq_of (e0 _ _ ha)) (fun i σ' H' => Ex H H' ∧ ∃ (c : Nat) (x y : Option V), σ' = [some (.ref a), some (.int c), x, y] ∧ c ∣ 420 ∧ comN c (ts.drop i) = comN 1 ts)
      (fun H1 e1 => ⟨e0.trans e1, 1, none, none, rfl, by decide, rfl⟩) (fun i σ' H' _ p => sq_of (p.1 _ _ ha)) ?_ ?_
    · rintro i v σ' H' hv ⟨e1, c, x, y, rfl, hc, hr⟩
      obtain ⟨e, en, rfl, hen, he⟩ := (ht.mono e1).get' hv
      have hi := List.getElem?_eq_some_iff.mp hen
      have hde := hd.den en (by rw [← hi.2]; exact List.getElem_mem _)
      have hcp := dvd420_pos hc
      refine ⟨e, entV en, rfl, st_of he, rfl, _, _, rfl, _, _, rfl, _, _, rfl, rfl, ?_⟩
      have gp : 0 < Nat.gcd c en.2.2 := Nat.gcd_pos_of_pos_left _ hcp.1
      have gl : Nat.gcd c en.2.2 ≤ c := Nat.gcd_le_left _ hcp.1
      refine s_asg (ev_op (ev_op (ev_var rfl) (ev_var rfl) (rv_I (.inl ⟨by omega, by omega⟩))) (ev_call0 (ea_cons (ev_var rfl) (ea_cons (ev_var rfl) ea_nil)) (v_gcd T c en.2.2)) (rv_I ⟨by omega, by omega⟩)) fun H2 e2 => ?_
      refine ⟨e1.trans e2, Nat.lcm c en.2.2, _, _, rfl, Nat.lcm_dvd hc (dvd420 hde), ?_⟩
      rw [← hr, ← List.getElem_cons_drop hi.1, hi.2]
      rfl
    · rintro σ' H' ⟨e1, c, x, y, rfl, hc, hr⟩
      have hl : (es.map V.ref).length = ts.length := by rw [List.length_map, ht.1]
      rw [hl, List.drop_length] at hr
      have hr : c = comN 1 ts := hr
      subst hr
      exact s_ret (ev_var rfl) fun H2 e2 => k H2 (e1.trans e2)
end K37

/-! K37, part 4: units_of, frame_of, in_frames, value_at. -/
namespace K37
open PySem L2 Evl

theorem tup_upd {H : Hp} {l e : Addr} {ys vs : List V} {o : HO} (hl : H l = some (.lst ys)) (he : H e = some (.tup vs)) : upd H l o e = some (.tup vs) := by
  rw [upd_ne (ne_of he hl (by intro q; cases q))]
  exact he
theorem TupL.upd {α : Type} {H : Hp} {es : List Addr} {f : α → List V} {xs : List α} {l : Addr} {ys : List V} {o : HO} (h : TupL H es f xs) (hl : H l = some (.lst ys)) : TupL (L2.upd H l o) es f xs :=
  ⟨h.1, fun i e x h1 h2 => tup_upd hl (h.2 i e x h1 h2)⟩
theorem at_mapl' {α : Type} {f : α → V} {xs : List α} {x : α} {n : Nat} (h : xs[n]? = some x) (hn : xs.length = n + 1) : atI (xs.map f) (-1) = some (f x) := by
  have e : xs = xs.take n ++ [x] := by
    have := List.take_succ (l := xs) (i := n)
    rw [h] at this
    rw [← hn, List.take_length] at this
    exact this
  rw [e]
  exact at_mapl
theorem take_snoc {α : Type} {xs : List α} {i : Nat} {x : α} (h : xs[i]? = some x) : xs.take (i + 1) = xs.take i ++ [x] := by
  rw [List.take_succ, h]
  rfl
section
variable {K : PySem.W.Frag} {σ : L2.St} {H H' : Hp} {ta tb tc te tx : TE} {t u : TT} {x y z v : V} {r : R2} {D : Ends} {tu tz : TS} {g : TG}
/-- for .. in enumerate(list) -/
theorem s_forE {a : Addr} {xs : List V} {ta : TA} (h : EvA ta σ H [.ref a]) (hx : SqL K H a xs) (Pv : Nat → L2.St → Hp → Prop) (h0 : ∀ H1, Ex H H1 → Pv 0 σ H1) (hl : ∀ i σ' H', i ≤ xs.length → Pv i σ' H' → SqL K H' a xs)
    (hs : ∀ (i : Nat) x (T : Addr) σ' H', xs[i]? = some x → Pv i σ' H' → H' T = none → g (.ref T) σ' (upd H' T (.tup [.int (i : Nat), x])) fun σ2 H2 => tu { D with nx := Pv (i + 1), ct := Pv (i + 1), bk := D.nx } σ2 H2)
    (hd : ∀ σ' H', Pv xs.length σ' H' → D.nx σ' H') : tFor (iEnum K ta) g tu D σ H := h H (Ex.refl H) _ fun H1 e => by
  refine ⟨a, xs, rfl, ex_l e hx, fun i m σ H => m = xs.length - i ∧ i ≤ xs.length ∧ Pv i σ H, ⟨xs.length, by simp, Nat.zero_le _, h0 H1 e⟩, ?_⟩
  rintro i m σ H ⟨rfl, hi, p⟩
  have q := hl i σ H hi p
  by_cases hlt : i < xs.length
  · refine .inr ⟨⟨xs, xs[i], q, by simp [hlt]⟩, Pv (i + 1), fun σ' H' p' => ⟨xs.length - (i + 1), by omega, rfl, hlt, p'⟩, fun x H' y => ?_⟩
    obtain ⟨T, x0, rfl, hT, rfl, hx0⟩ := y
    exact hs i x0 T σ H (hx0 xs q) p hT
  · have e : i = xs.length := by omega
    subst e
    exact .inl ⟨⟨xs, q, Nat.le_refl _⟩, hd σ H p⟩
theorem q_asgC {sp : Sp} {vs : List V} {E : XK} {ta : TA} {i : Nat} (h : EvA ta σ H vs) (hs : ∀ H1, Ex H H1 → sp vs H1 (fun x H2 => tz D (σ.set i (some x)) H2) E) : tSeq (tAsg (tCall sp [] E ta) (gName i)) tz D σ H :=
  h H (Ex.refl H) _ fun H1 e => by
    show sp (vs ++ []) H1 (fun x H2 => tz D (σ.set i (some x)) H2) E
    rw [List.append_nil]
    exact hs H1 e
theorem s_retC {sp : Sp} {vs : List V} {E : XK} {ta : TA} (h : EvA ta σ H vs) (hs : ∀ H1, Ex H H1 → sp vs H1 D.rt E) : tRet (tCall sp [] E ta) D σ H :=
  h H (Ex.refl H) _ fun H1 e => by
    show sp (vs ++ []) H1 D.rt E
    rw [List.append_nil]
    exact hs H1 e
theorem q_forE {a : Addr} {xs : List V} {ta : TA} (h : EvA ta σ H [.ref a]) (hx : SqL K H a xs) (Pv : Nat → L2.St → Hp → Prop) (h0 : ∀ H1, Ex H H1 → Pv 0 σ H1) (hl : ∀ i σ' H', i ≤ xs.length → Pv i σ' H' → SqL K H' a xs)
    (hs : ∀ (i : Nat) x (T : Addr) σ' H', xs[i]? = some x → Pv i σ' H' → H' T = none → g (.ref T) σ' (upd H' T (.tup [.int (i : Nat), x])) fun σ2 H2 => tu { D with nx := Pv (i + 1), ct := Pv (i + 1), bk := tz D } σ2 H2)
    (hd : ∀ σ' H', Pv xs.length σ' H' → tz D σ' H') : tSeq (tFor (iEnum K ta) g tu) tz D σ H := s_forE (D := { D with nx := tz D }) h hx Pv h0 hl hs hd
end

variable {P : Program} {w : World} {K : PySem.W.Frag} {mg : Str → Option Value} {base : Heap}

def uniV (u : Nat × Nat) : List V := [.int u.1, .int u.2]
def IsUl (H : Hp) (a : Addr) (us : List (Nat × Nat)) : Prop := ∃ es : List Addr, H a = some (.lst (es.map V.ref)) ∧ TupL H es uniV us
theorem IsUl.mono {H H' : Hp} {a : Addr} {us : List (Nat × Nat)} (e : Ex H H') : IsUl H a us → IsUl H' a us := fun ⟨es, h, t⟩ => ⟨es, e _ _ h, t.mono e⟩
def sp_units_of (T : Tx K mg) : Sp := fun vs H Q _ => ∃ (a : Addr) (C : Nat) (ts : List Ent), vs = [.ref a, .int C] ∧ IsTs H a ts ∧ TsOk ts ∧ (0 < C ∧ C ≤ 420) ∧ ∀ p H2, Ex H H2 → IsUl H2 p (untN C 0 ts) → Q (.ref p) H2
theorem ok_units_of (T : Tx K mg) : FnOk P w K mg base CX0 1 T.a_units_of T.d_units_of P_units_of (sp_units_of T) := by
  refine T.F_units_of.ok sc_units_of (fun vs H Q E h => ?_) (fun cdv A outer s H vs Q E hr h => ?_)
  · obtain ⟨a, C, ts, rfl, _⟩ := h
    rfl
  · obtain ⟨a, C, ts, rfl, ⟨es, ha, ht⟩, hd, hC, k⟩ := h
    refine ⟨_, (pss_cons (ps_set (i := 2) sc_units_of.nd rfl (.inl rfl) (pe_lst pa_nil)) (pss_cons (ps_set (i := 3) sc_units_of.nd rfl (.inl rfl) pe_int) (pss_cons (ps_for PassesOwn.never rfl (pi_enum (by rfl) T.z_enumerate (pa_cons (pv 0) pa_nil)) (pg_tup rfl (pgs_cons (pg_name (i := 4) sc_units_of.nd rfl (.inl rfl)) (pgs_cons (pg_tup rfl (pgs_cons (pg_name (i := 5) sc_units_of.nd rfl (.inl rfl)) (pgs_cons (pg_name (i := 6) sc_units_of.nd rfl (.inl rfl)) (pgs_cons (pg_name (i := 7) sc_units_of.nd rfl (.inl rfl)) pgs_nil)))) pgs_nil))) (pss_cons (ps_if (pt_cmpR op_gt (pv 4) pe_int (nomark _)) (pss_one (ps_aug (i := 3) sc_units_of.nd rfl (.inl rfl) (pe_op op_mul (pe_op op_sub (pv 5) (pe_ix ix_seq (pe_ix ix_seq (pv 0) (pe_op op_sub (pv 4) pe_int) (fun _ _ => rfl)) pe_int (fun _ _ => rfl))) (pe_ix ix_seq (pe_ix ix_seq (pv 2) (pe_un un_neg pe_int) (fun _ _ => rfl)) pe_int (fun _ _ => rfl))) ip_add)) pss_nil) (pss_one (ps_expr (pe_bm PySem.F.plainAttrs_list PySem.F.slot_list_append PySem.F.type_list_append mt_append (pv 2) (pa_cons (pe_tup (pa_cons (pv 3) (pa_cons (pe_op op_mul (pv 6) (pe_op op_fdiv (pv 1) (pv 7))) pa_nil))) pa_nil)))))) (pss_one (ps_ret (pv 2)))))), ?_⟩
    refine q_asgL (el_lst ea_nil (by decide)) fun f H0 hf e0 hf0 => ?_
    refine q_asg ev_c fun H1 e1 => ?_
    have hU := untN_len C ts 0
    have hl : (es.map V.ref).length = ts.length := by rw [List.length_map, ht.1]
    refine q_forE (ea_cons (ev_var rfl) ea_nil) (sq_of ((e0.trans e1) _ _ ha)) (fun i σ' H' => Ex H H' ∧ ∃ (us : List Addr) (ah : Nat) (x1 x2 x3 x4 : Option V), σ' = [some (.ref a), some (.int C), some (.ref f), some (.int ah), x1, x2, x3, x4] ∧
        H' f = some (.lst (us.map V.ref)) ∧ TupL H' us uniV ((untN C 0 ts).take i) ∧ (i = 0 → ah = 0) ∧ ∀ j u, i = j + 1 → (untN C 0 ts)[j]? = some u → ah = u.1)
      (fun H2 e2 => ⟨(e0.trans e1).trans e2, [], 0, none, none, none, none, rfl, e2 _ _ (e1 _ _ hf0), .nil, fun _ => rfl, fun j u h => by omega⟩) (fun i σ' H' _ p => sq_of (p.1 _ _ ha)) ?_ ?_
    · rintro i v X σ' H' hv ⟨e2, us, ah, x1, x2, x3, x4, rfl, hf1, hus, hi0, hij⟩ hX
      obtain ⟨e, en, rfl, hen, he⟩ := (ht.mono e2).get' hv
      have hi := List.getElem?_eq_some_iff.mp hen
      have hit := hi.1
      have hlen := hd.len
      have hde := hd.den en (by rw [← hi.2]; exact List.getElem_mem _)
      have hnu := hd.num en (by rw [← hi.2]; exact List.getElem_mem _)
      have htk := hd.tick en (by rw [← hi.2]; exact List.getElem_mem _)
      have e3 := Ex.new (o := .tup [.int (i : Nat), .ref e]) hX
      have ul : us.length = i := by rw [hus.1, List.length_take, hU]; omega
      obtain ⟨u, hu⟩ : ∃ u, (untN C 0 ts)[i]? = some u := ⟨(untN C 0 ts)[i]'(by omega), List.getElem?_eq_getElem _⟩
      have hrate := untN_rate C ts 0 i en u hen hu
      refine ⟨X, _, rfl, st_of upd_same, rfl, _, _, rfl, _, _, rfl, e, entV en, rfl, st_of (e3 _ _ he), rfl, _, _, rfl, _, _, rfl, _, _, rfl, rfl, rfl, ?_⟩
      -- the append, whatever the way
      have app : ∀ H4, Ex (upd H' X (.tup [.int (i : Nat), .ref e])) H4 → ∀ (D : Ends), (D.nx = fun σ' H' => Ex H H' ∧ ∃ (us : List Addr) (ah : Nat) (x1 x2 x3 x4 : Option V), σ' = [some (.ref a), some (.int C), some (.ref f), some (.int ah), x1, x2, x3, x4] ∧
          H' f = some (.lst (us.map V.ref)) ∧ TupL H' us uniV ((untN C 0 ts).take (i + 1)) ∧ (i + 1 = 0 → ah = 0) ∧ ∀ j u, i + 1 = j + 1 → (untN C 0 ts)[j]? = some u → ah = u.1) →
          tDrop (tBM K "list" rAppend (tVar 2) (tCons (tTup (tCons (tVar 3) (tCons (tOp (rI CMul fun i j => .int (i * j)) (tVar 6) (tOp (rI CDiv fun i j => .int (i / j)) (tVar 1) (tVar 7))) tNil))) tNil)) D
            [some (.ref a), some (.int C), some (.ref f), some (.int u.1), some (.int (i : Nat)), some (.int en.1), some (.int en.2.1), some (.int en.2.2)] H4 := by
        intro H4 e4 D hD
        have e5 : Ex H' H4 := e3.trans e4
        refine s_appU (xs := us.map V.ref) (e5 _ _ hf1) (ev_var rfl) (eu_tup (ea_cons (ev_var rfl) (ea_cons (ev_op (ev_var rfl) (ev_op (ev_var rfl) (ev_var rfl) (rv_I ⟨by omega, by omega⟩)) (rv_I (.inl ⟨by omega, by omega⟩))) ea_nil)) (show 2 ≤ 100000 by decide)) (by rw [List.length_map, ul]; omega) fun p H5 hp e6 h5 => ?_
        rw [hD]
        have e7 := e5.trans e6
        refine ⟨Ex.mut (e2.trans e7) hf, us ++ [p], u.1, _, _, _, _, rfl, ?_, ?_, fun h => by omega, fun j v hj hjv => ?_⟩
        · rw [upd_same, List.map_append]; rfl
        · rw [take_snoc hu]
          have hv2 : ([.int (u.1 : Int), .int ((en.2.1 : Int) * ((C : Int) / (en.2.2 : Int)))] : List V) = uniV u := by
            unfold uniV
            rw [hrate]
            norm_cast
          rw [hv2] at h5
          exact ((hus.mono e7).snoc h5).upd (e7 _ _ hf1)
        · have : j = i := by omega
          subst this
          rw [hu] at hjv
          cases hjv; rfl
      refine q_when (et_test (ev_op (ev_var rfl) ev_c rv_I0)) (fun hb H4 e4 => ?_) (fun hb H4 e4 => ?_)
      · have hb' := of_decide_eq_true hb
        obtain ⟨j, rfl⟩ : ∃ j, i = j + 1 := ⟨i - 1, by omega⟩
        have e5 : Ex H' H4 := e3.trans e4
        obtain ⟨ep, hep⟩ : ∃ ep, ts[j]? = some ep := ⟨ts[j]'(by omega), List.getElem?_eq_getElem _⟩
        obtain ⟨up, hup⟩ : ∃ up, (untN C 0 ts)[j]? = some up := ⟨(untN C 0 ts)[j]'(by omega), List.getElem?_eq_getElem _⟩
        obtain ⟨ea, hea, hea2⟩ := (ht.mono (e2.trans e5)).get hep
        obtain ⟨ua, hua, hua2⟩ := (hus.mono e5).get (i := j) (x := up) (by rw [List.getElem?_take, if_pos (by omega)]; exact hup)
        have hah := hij j up rfl hup
        have hs := untN_succ C ts 0 j ep en up u hep hen hup hu
        have hasc : ep.1 < en.1 := by
          have h1 := List.getElem?_eq_some_iff.mp hep
          rw [← h1.2, ← hi.2]
          exact List.pairwise_iff_getElem.mp hd.asc j (j + 1) _ _ (by omega)
        refine s_aug (a := (ah : Int)) (b := (((en.1 - ep.1) * up.2 : Nat) : Int)) rfl (ev_is (ev_op (ev_op (ev_var rfl) (ev_op (ev_op (ev_var rfl) (ev_op (ev_var rfl) ev_c rv_I0) (rv_iL (sq_of ((e2.trans e5) _ _ ha)) (at_mapz hea (by omega)))) ev_c (rv_iT (st_of hea2) rfl)) rv_I0)
          (ev_op (ev_op (ev_var rfl) (ev_neg ev_c) (rv_iL (sq_of (e5 _ _ hf1)) (at_mapl' hua (by omega)))) ev_c (rv_iT (st_of hua2) rfl)) (rv_I (.inl ⟨by omega, by omega⟩))) ?_) fun H6 e6 => ?_
        · rw [Int.natCast_mul, Int.natCast_sub (by omega)]
        · have q := app H6 (e4.trans e6)
          rw [hs, ← hah] at q
          exact q _ rfl
      · have hb' := of_decide_eq_false hb
        have hi0' : i = 0 := by omega
        subst hi0'
        have hu0 : u.1 = 0 := by
          cases ts with
          | nil => simp at hen
          | cons x r =>
            rw [untN_0] at hu
            cases hu; rfl
        have q := app H4 e4
        rw [show u.1 = ah by rw [hu0, hi0 rfl]] at q
        exact q _ rfl
    · rintro σ' H' ⟨e2, us, ah, x1, x2, x3, x4, rfl, hf1, hus, _, _⟩
      rw [hl, ← hU, List.take_length] at hus
      exact s_ret (ev_var rfl) fun H3 e3 => k _ _ (e2.trans e3) (IsUl.mono e3 ⟨us, hf1, hus⟩)
theorem v_units (T : Tx K mg) {H : Hp} {a : Addr} {C : Nat} {ts : List Ent} (h : IsTs H a ts) (hd : TsOk ts) (hC : 0 < C ∧ C ≤ 420) {E : XK} : ∀ H1, Ex H H1 → ∀ Q : VK, (∀ p H2, Ex H1 H2 → IsUl H2 p (untN C 0 ts) → Q (.ref p) H2) → sp_units_of T [.ref a, .int C] H1 Q E :=
  fun H1 e Q q => ⟨a, C, ts, rfl, h.mono e, hd, hC, q⟩

/-! ### a comprehension that counts -/
theorem given_cnt {α : Type} (ts : List α) (p : α → Bool) (f : Nat → Bool) (v : Nat → V) (h : ∀ i x, ts[i]? = some x → f i = p x) : ∀ i, i ≤ ts.length → (given i f v).length = ((ts.take i).filter p).length
  | 0, _ => rfl
  | i + 1, hi => by
    have hx : ts[i]? = some (ts[i]'(by omega)) := List.getElem?_eq_getElem _
    have hf := h i _ hx
    have ih := given_cnt ts p f v h i (by omega)
    rw [take_snoc hx, List.filter_append, List.length_append, ← ih]
    cases hb : f i with
    | true =>
      rw [given_yes hb, List.length_append, List.filter_cons, if_pos (by rw [← hf]; exact hb)]
      rfl
    | false =>
      rw [given_no hb, List.filter_cons, if_neg (by rw [← hf, hb]; decide)]
      rfl
section
variable {σ : L2.St} {H H' : Hp} {tl te : TE} {t : TT}
/-- how many of a list of tuples pass a test -/
theorem ev_count {α : Type} {a : Addr} {es : List Addr} {f : α → List V} {xs : List α} {j : Nat} {vs : List Nat} (p : α → Bool) (h : Ev tl σ H (.ref a)) (ha : H a = some (.lst (es.map V.ref))) (ht : TupL H es f xs) (hz : xs.length ≤ 40000)
    (hw : ∀ x, wipe ((wipe σ vs).set j (some x)) vs = wipe σ vs) (hp : ∀ (e : Addr) (x : α) H1, Ex H H1 → H1 e = some (.tup (f x)) → EvT t ((wipe σ vs).set j (some (.ref e))) H1 (p x)) (he : te = tVar j) (hj : j < (wipe σ vs).length) :
    Ev (tCB (rLenS K) (tCons (tLc (iList K tl) (gName j) t te vs) tNil)) σ H (.int ((xs.filter p).length : Nat)) := by
  have hl : (es.map V.ref).length = xs.length := by rw [List.length_map, ht.1]
  have q := el_lcL (K := K) (te := te) (t := t) (j := j) (fun i => match xs[i]? with | some x => p x | none => false) (fun i => (es.map V.ref).getD i .non) h (sq_of ha) (by omega) hw (fun i x H1 e hx => by
      obtain ⟨e', y, rfl, hy, h1⟩ := (ht.mono e).get' hx
      rw [hy]
      exact hp e' y H1 e h1) (fun i x H1 e hx _ => by
      subst he
      refine ev_var ?_
      rw [List.getElem?_set_self hj, List.getD_eq_getElem?_getD, hx]
      rfl)
  have c := given_cnt xs p (fun i => match xs[i]? with | some x => p x | none => false) (fun i => (es.map V.ref).getD i .non) (fun i x hx => by rw [hx]) xs.length (Nat.le_refl _)
  rw [List.take_length] at c
  rw [hl] at q
  have r := ev_lenN (K := K) q
  rw [c] at r
  exact r
end

/-! ### frame_of -/
def sp_frame_of (T : Tx K mg) : Sp := fun vs H Q _ => ∃ (a : Addr) (ts : List Ent) (n : Nat), vs = [.ref a, .int n] ∧ IsTs H a ts ∧ TsOk ts ∧ n ≤ 1000 ∧ RetV (.int (frameN ts n : Nat)) H Q
theorem v_frame (T : Tx K mg) {H : Hp} {a : Addr} {ts : List Ent} {n : Nat} (h : IsTs H a ts) (hd : TsOk ts) (hn : n ≤ 1000) : SpV (sp_frame_of T) [.ref a, .int n] H (.int (frameN ts n : Nat)) := fun _ e _ q _ => ⟨a, ts, n, rfl, h.mono e, hd, hn, q⟩
theorem ok_frame_of (T : Tx K mg) : FnOk P w K mg base CX0 3 T.a_frame_of T.d_frame_of P_frame_of (sp_frame_of T) := by
  refine T.F_frame_of.ok sc_frame_of (fun vs H Q E h => ?_) (fun cdv A outer s H vs Q E hr h => ?_)
  · obtain ⟨a, ts, n, rfl, _⟩ := h
    rfl
  · obtain ⟨a, ts, n, rfl, hts, hd, hn, k⟩ := h
    refine ⟨_, (pss_cons (ps_set (i := 2) sc_frame_of.nd rfl (.inl rfl) (pe_call (ok_common_denominator T) (hr.mono (by decide)) (by rfl) T.g_common_denominator T.F_common_denominator.kp T.b_common_denominator .nil pass0 (pa_cons (pv 0) pa_nil))) (pss_cons (ps_set (i := 3) sc_frame_of.nd rfl (.inl rfl) (pe_call (ok_units_of T) (hr.mono (by decide)) (by rfl) T.g_units_of T.F_units_of.kp T.b_units_of .nil pass0 (pa_cons (pv 0) (pa_cons (pv 2) pa_nil)))) (pss_cons (ps_set (i := 4) sc_frame_of.nd rfl (.inl rfl) (pe_op op_sub (pe_callB call_len_seq (by rfl) T.z_len (by decide +kernel) (pa_cons (pe_lc (own := [("entry", 5)]) (g := (gName 5)) (tt := (tTest (tOp (rI0 fun i j => .bl (decide (i ≤ j))) (tOp (rIx K) (tVar 5) (tC (.int 0))) (tVar 1)))) (te := (tVar 5)) rfl sc_frame_of.nd (pi_list (pv 0)) (blkOk_by (N := N_frame_of) (sc := defScope s_frame_of) (by decide +kernel)) (fun _ _ _ _ _ => (pg_name (i := 5) sc_frame_of.nd rfl (.inl rfl))) (fun _ _ _ _ _ => (pts_one (pt_cmpR op_le (pe_ix ix_seq (pv 5) pe_int (fun _ _ => rfl)) (pv 1) (nomark _)))) (fun _ _ _ _ _ => (pv 5))) pa_nil)) pe_int)) (pss_one (ps_ret (pe_op op_fdiv (pe_op op_add (pe_ix ix_seq (pe_ix ix_seq (pv 3) (pv 4) (fun _ _ => rfl)) pe_int (fun _ _ => rfl)) (pe_op op_mul (pe_op op_sub (pv 1) (pe_ix ix_seq (pe_ix ix_seq (pv 0) (pv 4) (fun _ _ => rfl)) pe_int (fun _ _ => rfl))) (pe_ix ix_seq (pe_ix ix_seq (pv 3) (pv 4) (fun _ _ => rfl)) pe_int (fun _ _ => rfl)))) (pv 2))))))), ?_⟩
    refine q_asg (ev_call0 (ea_cons (ev_var rfl) ea_nil) (v_common T hts hd)) fun H1 e1 => ?_
    refine q_asgC (ea_cons (ev_var rfl) (ea_cons (ev_var rfl) ea_nil)) fun H1' e1' => v_units T (hts.mono e1) hd hd.com H1' e1' _ fun u H2 e2' hu => ?_
    have e2 := e1'.trans e2'
    obtain ⟨es, ha, ht⟩ := hts.mono (e1.trans e2)
    obtain ⟨eu, hu1, hu2⟩ := hu
    refine q_asg (v := .int ((cntN ts n : Int) - 1)) (ev_op (ev_count (fun e => decide (e.1 ≤ n)) (ev_var rfl) ha ht (Nat.le_trans hd.len (by decide)) (fun _ => rfl) (fun e x H3 e3 hx => ?_) rfl (show (5 : Nat) < 6 by decide)) ev_c rv_I0) fun H3 e3 => ?_
    · refine et_is (et_test (ev_op (ev_op (ev_var rfl) ev_c (rv_iT (st_of hx) rfl)) (ev_var rfl) rv_I0)) ?_
      rw [Bool.eq_iff_iff]
      simp
    · obtain ⟨en, un, h1, h2, h3, h4, h5⟩ := untN_frame (comN 1 ts) ts 0 n hd.asc (fun e he => by rw [hd.first e he]; exact Nat.zero_le _) hd.ne
      obtain ⟨ea, hea, hea2⟩ := (ht.mono e3).get h1
      obtain ⟨ua, hua, hua2⟩ := (hu2.mono e3).get h2
      have hc := hd.com
      have hi : (cntN ts n : Int) - 1 = ((cntN ts n - 1 : Nat) : Int) := by omega
      refine s_ret (ev_is (ev_op (ev_op (ev_op (ev_op (ev_var rfl) (ev_var rfl) (rv_iL (sq_of (e3 _ _ hu1)) (at_mapz hua hi))) ev_c (rv_iT (st_of hua2) rfl)) (ev_op (ev_op (ev_var rfl) (ev_op (ev_op (ev_var rfl) (ev_var rfl) (rv_iL (sq_of (e3 _ _ ha)) (at_mapz hea hi))) ev_c (rv_iT (st_of hea2) rfl)) rv_I0)
        (ev_op (ev_op (ev_var rfl) (ev_var rfl) (rv_iL (sq_of (e3 _ _ hu1)) (at_mapz hua hi))) ev_c (rv_iT (st_of hua2) rfl)) (rv_I (.inl ⟨by omega, by omega⟩))) rv_I0) (ev_var rfl) (rv_I ⟨by omega, by omega⟩)) ?_) fun H4 e4 => k H4 (((e1.trans e2).trans e3).trans e4)
      unfold frameN
      rw [show sumN (comN 1 ts) ts n = un.1 + (n - en.1) * un.2 by omega, Int.natCast_ediv, Int.natCast_add, Int.natCast_mul, Int.natCast_sub h4]
end K37

/-! K37, part 5: curves; the law's numbers. -/
namespace K37
open PySem L2 Evl
variable {P : Program} {w : World} {K : PySem.W.Frag} {mg : Str → Option Value} {base : Heap}

/-! ### in_frames -/
structure CvOk (ps : List Pnt) : Prop where
  ne : 0 < ps.length
  len : ps.length ≤ 32
  asc : ps.Pairwise fun a b => a.1 < b.1
  tick : ∀ p ∈ ps, p.1 ≤ 1000
  val : ∀ p ∈ ps, GainR p.2
/-- points in frames -/
structure PvOk (ps : List Pnt) : Prop where
  ne : 0 < ps.length
  len : ps.length ≤ 32
  mono : PsOk ps
  frm : ∀ p ∈ ps, p.1 ≤ 192000
  val : ∀ p ∈ ps, GainR p.2
theorem CvOk.fps {ts : List Ent} {ps : List Pnt} (T : TsOk ts) (h : CvOk ps) : PvOk (fps ts ps) where
  ne := by unfold K37.fps; rw [List.length_map]; exact h.ne
  len := by unfold K37.fps; rw [List.length_map]; exact h.len
  mono := by
    unfold K37.fps PsOk
    rw [List.pairwise_map]
    exact h.asc.imp fun q => frameN_mono ts (Nat.le_of_lt q)
  frm := fun p hp => by
    obtain ⟨q, hq, rfl⟩ := List.mem_map.mp hp
    exact frameN_le T (h.tick q hq)
  val := fun p hp => by
    obtain ⟨q, hq, rfl⟩ := List.mem_map.mp hp
    exact h.val q hq
theorem mem_of_get {α : Type} {l : List α} {i : Nat} {x : α} (h : l[i]? = some x) : x ∈ l := List.mem_of_getElem? h
/-! ### value_at -/
def sp_value_at (T : Tx K mg) : Sp := fun vs H Q _ => ∃ (a : Addr) (ps : List Pnt) (f : Int), vs = [.ref a, .int f] ∧ IsPl H a ps ∧ PvOk ps ∧ RetV (.int (valN ps f)) H Q
theorem v_value_at (T : Tx K mg) {H : Hp} {a : Addr} {ps : List Pnt} (f : Int) (h : IsPl H a ps) (hp : PvOk ps) : SpV (sp_value_at T) [.ref a, .int f] H (.int (valN ps f)) := fun _ e _ q _ => ⟨a, ps, f, rfl, h.mono e, hp, q⟩
theorem dec_int_true {a b : Int} (h : decide (V.int a = V.int b) = true) : a = b := V.int.inj (of_decide_eq_true h)
theorem dec_int_false {a b : Int} (h : decide (V.int a = V.int b) = false) : a ≠ b := fun e => of_decide_eq_false h (by rw [e])
theorem gain64 {g h : Int} (h1 : GainR g) (h2 : GainR h) : -(2 ^ 64) < g - h ∧ g - h < 2 ^ 64 := by
  have : (2 : Int) ^ 64 = 18446744073709551616 := by decide
  unfold GainR at *; omega
theorem ok_value_at (T : Tx K mg) : FnOk P w K mg base CX0 1 T.a_value_at T.d_value_at P_value_at (sp_value_at T) := by
  refine T.F_value_at.ok sc_value_at (fun vs H Q E h => ?_) (fun cdv A outer s H vs Q E hr h => ?_)
  · obtain ⟨a, ps, f, rfl, _⟩ := h
    rfl
  · obtain ⟨a, ps, f, rfl, ⟨es, ha, ht⟩, hv, k⟩ := h
    refine ⟨_, (pss_cons (ps_set (i := 2) sc_value_at.nd rfl (.inl rfl) (pe_callB call_len_seq (by rfl) T.z_len (by decide +kernel) (pa_cons (pe_lc (own := [("point", 7)]) (g := (gName 7)) (tt := (tTest (tOp (rI0 fun i j => .bl (decide (i ≤ j))) (tOp (rIx K) (tVar 7) (tC (.int 0))) (tVar 1)))) (te := (tVar 7)) rfl sc_value_at.nd (pi_list (pv 0)) (blkOk_by (N := N_value_at) (sc := defScope s_value_at) (by decide +kernel)) (fun _ _ _ _ _ => (pg_name (i := 7) sc_value_at.nd rfl (.inl rfl))) (fun _ _ _ _ _ => (pts_one (pt_cmpR op_le (pe_ix ix_seq (pv 7) pe_int (fun _ _ => rfl)) (pv 1) (nomark _)))) (fun _ _ _ _ _ => (pv 7))) pa_nil))) (pss_cons (ps_if (pt_cmpR op_eq (pv 2) pe_int (nomark _)) (pss_one (ps_ret (pe_ix ix_seq (pe_ix ix_seq (pv 0) pe_int (fun _ _ => rfl)) pe_int (fun _ _ => rfl)))) pss_nil) (pss_cons (ps_asg (pe_ix ix_seq (pv 0) (pe_op op_sub (pv 2) pe_int) (fun _ _ => rfl)) (pg_tup rfl (pgs_cons (pg_name (i := 3) sc_value_at.nd rfl (.inl rfl)) (pgs_cons (pg_name (i := 4) sc_value_at.nd rfl (.inl rfl)) pgs_nil)))) (pss_cons (ps_if (pt_cmpR op_eq (pv 2) (pe_callB call_len_seq (by rfl) T.z_len (by decide +kernel) (pa_cons (pv 0) pa_nil)) (nomark _)) (pss_one (ps_ret (pv 4))) pss_nil) (pss_cons (ps_asg (pe_ix ix_seq (pv 0) (pv 2) (fun _ _ => rfl)) (pg_tup rfl (pgs_cons (pg_name (i := 5) sc_value_at.nd rfl (.inl rfl)) (pgs_cons (pg_name (i := 6) sc_value_at.nd rfl (.inl rfl)) pgs_nil)))) (pss_one (ps_ret (pe_op op_add (pv 4) (pe_op op_fdiv (pe_op op_mul (pe_op op_sub (pv 6) (pv 4)) (pe_op op_sub (pv 1) (pv 3))) (pe_op op_sub (pv 5) (pv 3))))))))))), ?_⟩
    have hl : (es.map V.ref).length = ps.length := by rw [List.length_map, ht.1]
    obtain ⟨c0, c1, c2⟩ := valN_cnt ps f hv.mono hv.ne
    have cl := cntP_le ps f
    refine q_asg (v := .int (cntP ps f : Nat)) (ev_is (ev_count (fun p => decide ((p.1 : Int) ≤ f)) (ev_var rfl) ha ht (Nat.le_trans hv.len (by decide)) (fun _ => rfl) (fun e x H3 e3 hx => ?_) rfl (show (7 : Nat) < 8 by decide)) rfl) fun H1 e1 => ?_
    · exact et_test (ev_op (ev_op (ev_var rfl) ev_c (rv_iT (st_of hx) rfl)) (ev_var rfl) rv_I0)
    refine q_when (et_test (ev_op (ev_var rfl) ev_c (rv_eq rfl))) (fun hb H2 e2 => ?_) (fun hb H2 e2 => ?_)
    · have hz := dec_int_true hb
      obtain ⟨p, hp⟩ : ∃ p, ps[0]? = some p := ⟨ps[0]'(hv.ne), List.getElem?_eq_getElem _⟩
      obtain ⟨ea, hea, hea2⟩ := (ht.mono (e1.trans e2)).get hp
      refine s_ret (ev_is (ev_op (ev_op (ev_var rfl) ev_c (rv_iL (sq_of ((e1.trans e2) _ _ ha)) (at_mapz hea rfl))) ev_c (rv_iT (st_of hea2) rfl)) ?_) fun H3 e3 => k H3 ((e1.trans e2).trans e3)
      rw [c0 (by omega) p hp]
    · have hz := dec_int_false hb
      have hcp : 0 < cntP ps f := by omega
      obtain ⟨p, hp⟩ : ∃ p, ps[cntP ps f - 1]? = some p := ⟨ps[cntP ps f - 1]'(by omega), List.getElem?_eq_getElem _⟩
      obtain ⟨ea, hea, hea2⟩ := (ht.mono (e1.trans e2)).get hp
      have hpi : (cntP ps f : Int) - 1 = ((cntP ps f - 1 : Nat) : Int) := by omega
      have q := ev_op (σ := [some (.ref a), some (.int f), some (.int (cntP ps f : Nat)), none, none, none, none, none]) (ta := tVar 0) (tb := tOp (rI0 fun i j => .int (i - j)) (tVar 2) (tC (.int 1))) (ev_var rfl) (ev_op (ev_var rfl) ev_c rv_I0) (rv_iL (K := K) (sq_of ((e1.trans e2) _ _ ha)) (at_mapz hea hpi))
      refine q H2 (Ex.refl H2) _ fun H3 e3 => ⟨ea, pntV p, rfl, st_of (e3 _ _ hea2), rfl, _, _, rfl, _, _, rfl, rfl, ?_⟩
      have e13 := (e1.trans e2).trans e3
      refine q_when (et_test (ev_op (ev_var rfl) (ev_len (ev_var rfl) (sq_of (e13 _ _ ha))) (rv_eq rfl))) (fun hb H4 e4 => ?_) (fun hb H4 e4 => ?_)
      · have hz2 := dec_int_true hb
        refine s_ret (ev_is (ev_var rfl) ?_) fun H5 e5 => k H5 ((e13.trans e4).trans e5)
        rw [c1 hcp (by omega) p hp]
      · have hz2 := dec_int_false hb
        obtain ⟨p2, hp2⟩ : ∃ p2, ps[cntP ps f]? = some p2 := ⟨ps[cntP ps f]'(by omega), List.getElem?_eq_getElem _⟩
        obtain ⟨eb, heb, heb2⟩ := (ht.mono (e13.trans e4)).get hp2
        obtain ⟨g1, g2, g3⟩ := c2 hcp p p2 hp hp2
        have q2 := ev_op (σ := [some (.ref a), some (.int f), some (.int (cntP ps f : Nat)), some (.int p.1), some (.int p.2), none, none, none]) (ta := tVar 0) (tb := tVar 2) (ev_var rfl) (ev_var rfl) (rv_iL (K := K) (sq_of ((e13.trans e4) _ _ ha)) (at_map heb))
        refine q2 H4 (Ex.refl H4) _ fun H5 e5 => ⟨eb, pntV p2, rfl, st_of (e5 _ _ heb2), rfl, _, _, rfl, _, _, rfl, rfl, ?_⟩
        have hb2 := hv.frm p2 (mem_of_get hp2)
        refine s_ret (ev_is (ev_op (ev_var rfl) (ev_op (ev_op (ev_op (ev_var rfl) (ev_var rfl) rv_I0) (ev_op (ev_var rfl) (ev_var rfl) rv_I0) (rv_I (.inl (gain64 (hv.val p2 (mem_of_get hp2)) (hv.val p (mem_of_get hp)))))) (ev_op (ev_var rfl) (ev_var rfl) rv_I0) (rv_I ⟨by omega, by omega⟩)) rv_I0) ?_) fun H6 e6 => k H6 (((e13.trans e4).trans e5).trans e6)
        rw [g1]
        rfl

/-! ### the law's cut, through, before, smoothed -/
def sp_l_cut (T : Tx K mg) : Sp := fun vs H Q _ => ∃ n : Int, vs = [.int n] ∧ RetV (.int (cutI n)) H Q
theorem v_l_cut (T : Tx K mg) {H : Hp} (n : Int) : SpV (sp_l_cut T) [.int n] H (.int (cutI n)) := fun _ _ _ q _ => ⟨n, rfl, q⟩
theorem ok_l_cut (T : Tx K mg) : FnOk P w K mg base CX0 1 T.a_l_cut T.d_l_cut P_l_cut (sp_l_cut T) := by
  refine T.F_l_cut.ok sc_l_cut (fun vs H Q E h => ?_) (fun cdv A outer s H vs Q E hr h => ?_)
  · obtain ⟨n, rfl, _⟩ := h
    rfl
  · obtain ⟨n, rfl, k⟩ := h
    refine ⟨_, (pss_cons (ps_if (pt_cmpR op_gt (pv 0) pe_int (nomark _)) (pss_one (ps_ret pe_int)) pss_nil) (pss_cons (ps_if (pt_cmpR op_lt (pv 0) (pe_un un_neg pe_int) (nomark _)) (pss_one (ps_ret (pe_un un_neg pe_int))) pss_nil) (pss_one (ps_ret (pv 0))))), ?_⟩
    rw [cutI_law] at k
    refine q_when (et_test (ev_op (ev_var rfl) ev_c rv_I0)) (fun hb H1 e1 => ?_) (fun hb H1 e1 => ?_)
    · rw [if_pos (of_decide_eq_true hb)] at k
      exact s_ret ev_c fun H2 e2 => k H2 (e1.trans e2)
    · rw [if_neg (of_decide_eq_false hb)] at k
      refine q_when (et_test (ev_op (ev_var rfl) (ev_neg ev_c) rv_I0)) (fun hb2 H2 e2 => ?_) (fun hb2 H2 e2 => ?_)
      · rw [if_pos (of_decide_eq_true hb2)] at k
        exact s_ret (ev_neg ev_c) fun H3 e3 => k H3 ((e1.trans e2).trans e3)
      · rw [if_neg (of_decide_eq_false hb2)] at k
        exact s_ret (ev_var rfl) fun H3 e3 => k H3 ((e1.trans e2).trans e3)
def sp_l_through (T : Tx K mg) : Sp := fun vs H Q _ => ∃ s g : Int, vs = [.int s, .int g] ∧ Smp s ∧ RetV (.int (thrI s g)) H Q
theorem v_l_through (T : Tx K mg) {H : Hp} {s g : Int} (h : Smp s) : SpV (sp_l_through T) [.int s, .int g] H (.int (thrI s g)) := fun _ _ _ q _ => ⟨s, g, rfl, h, q⟩
theorem smp64x2 {s : Int} (h : Smp s) : -(2 ^ 64) < 2 * s ∧ 2 * s < 2 ^ 64 := by
  have : (2 : Int) ^ 64 = 18446744073709551616 := by decide
  unfold Smp at h; omega
theorem ok_l_through (T : Tx K mg) : FnOk P w K mg base CX0 2 T.a_l_through T.d_l_through P_l_through (sp_l_through T) := by
  refine T.F_l_through.ok sc_l_through (fun vs H Q E h => ?_) (fun cdv A outer s H vs Q E hr h => ?_)
  · obtain ⟨a, g, rfl, _⟩ := h
    rfl
  · obtain ⟨a, g, rfl, ha, k⟩ := h
    refine ⟨_, (pss_one (ps_ret (pe_call (ok_l_cut T) (hr.mono (by decide)) (by rfl) T.g_l_cut T.F_l_cut.kp T.b_l_cut .nil pass0 (pa_cons (pe_op op_fdiv (pe_op op_add (pe_op op_mul (pe_op op_mul pe_int (pv 0)) (pv 1)) pe_int) pe_int) pa_nil)))), ?_⟩
    refine s_ret (ev_is (ev_call0 (ea_cons (ev_op (ev_op (ev_op (ev_op ev_c (ev_var rfl) (rv_I (.inl ⟨by decide, by decide⟩))) (ev_var rfl) (rv_I (.inl (smp64x2 ha)))) ev_c rv_I0) ev_c (rv_I ⟨by decide, by decide⟩)) ea_nil) (v_l_cut T _)) ?_) k
    rw [thrI_law]
    rfl
def sp_l_before (T : Tx K mg) : Sp := fun vs H Q _ => ∃ (a : Addr) (row : List Int) (i : Int), vs = [.ref a, .int i] ∧ H a = some (.lst (row.map V.int)) ∧ i < row.length ∧ RetV (.int (if i < 0 then 0 else row.getD i.toNat 0)) H Q
theorem v_l_before (T : Tx K mg) {H : Hp} {a : Addr} {row : List Int} {i : Int} (h : H a = some (.lst (row.map V.int))) (hi : i < row.length) : SpV (sp_l_before T) [.ref a, .int i] H (.int (if i < 0 then 0 else row.getD i.toNat 0)) := fun _ e _ q _ => ⟨a, row, i, rfl, e _ _ h, hi, q⟩
theorem ok_l_before (T : Tx K mg) : FnOk P w K mg base CX0 1 T.a_l_before T.d_l_before P_l_before (sp_l_before T) := by
  refine T.F_l_before.ok sc_l_before (fun vs H Q E h => ?_) (fun cdv A outer s H vs Q E hr h => ?_)
  · obtain ⟨a, row, i, rfl, _⟩ := h
    rfl
  · obtain ⟨a, row, i, rfl, ha, hi, k⟩ := h
    refine ⟨_, (pss_cons (ps_if (pt_cmpR op_lt (pv 1) pe_int (nomark _)) (pss_one (ps_ret pe_int)) pss_nil) (pss_one (ps_ret (pe_ix ix_seq (pv 0) (pv 1) (fun _ _ => rfl))))), ?_⟩
    refine q_when (et_test (ev_op (ev_var rfl) ev_c rv_I0)) (fun hb H1 e1 => ?_) (fun hb H1 e1 => ?_)
    · rw [if_pos (of_decide_eq_true hb)] at k
      exact s_ret ev_c fun H2 e2 => k H2 (e1.trans e2)
    · have hb' := of_decide_eq_false hb
      rw [if_neg hb'] at k
      have hx : row[i.toNat]? = some (row.getD i.toNat 0) := by
        rw [List.getD_eq_getElem?_getD, List.getElem?_eq_getElem (by omega)]
        rfl
      exact s_ret (ev_op (ev_var rfl) (ev_var rfl) (rv_iL (sq_of (e1 _ _ ha)) (at_mapz hx (by omega)))) fun H2 e2 => k H2 (e1.trans e2)
def sp_l_smoothed (T : Tx K mg) : Sp := fun vs H Q _ => ∃ (v s : Int) (n : Nat), vs = [.int v, .int s, .int n] ∧ n ≤ 8 ∧ RetV (.int (lawSm v s n)) H Q
theorem v_l_smoothed (T : Tx K mg) {H : Hp} {v s : Int} {n : Nat} (h : n ≤ 8) : SpV (sp_l_smoothed T) [.int v, .int s, .int n] H (.int (lawSm v s n)) := fun _ _ _ q _ => ⟨v, s, n, rfl, h, q⟩
theorem pow8 {i : Nat} (h : i ≤ 8) : (0 : Int) < 2 ^ i ∧ (2 : Int) ^ i ≤ 256 := by
  have : i = 0 ∨ i = 1 ∨ i = 2 ∨ i = 3 ∨ i = 4 ∨ i = 5 ∨ i = 6 ∨ i = 7 ∨ i = 8 := by omega
  rcases this with h | h | h | h | h | h | h | h | h <;> subst h <;> decide
theorem ok_l_smoothed (T : Tx K mg) : FnOk P w K mg base CX0 1 T.a_l_smoothed T.d_l_smoothed P_l_smoothed (sp_l_smoothed T) := by
  refine T.F_l_smoothed.ok sc_l_smoothed (fun vs H Q E h => ?_) (fun cdv A outer s H vs Q E hr h => ?_)
  · obtain ⟨v, a, n, rfl, _⟩ := h
    rfl
  · obtain ⟨v, a, n, rfl, hn, k⟩ := h
    refine ⟨_, (pss_cons (ps_set (i := 3) sc_l_smoothed.nd rfl (.inl rfl) pe_int) (pss_cons (ps_for PassesOwn.never rfl (pi_range1 (by rfl) T.z_range (pa_cons (pv 2) pa_nil)) (pg_name (i := 4) sc_l_smoothed.nd rfl (.inl rfl)) (pss_one (ps_set (i := 3) sc_l_smoothed.nd rfl (.inl rfl) (pe_op op_mul (pv 3) pe_int)))) (pss_cons (ps_set (i := 5) sc_l_smoothed.nd rfl (.inl rfl) (pe_op op_fdiv (pe_op op_sub (pe_op op_add (pe_callB call_abs (by rfl) T.z_abs (by decide +kernel) (pa_cons (pe_op op_sub (pv 1) (pv 0)) pa_nil)) (pv 3)) pe_int) (pv 3))) (pss_cons (ps_if (pt_cmpR op_lt (pv 1) (pv 0) (nomark _)) (pss_one (ps_ret (pe_op op_sub (pv 0) (pv 5)))) pss_nil) (pss_one (ps_ret (pe_op op_add (pv 0) (pv 5)))))))), ?_⟩
    refine q_asg ev_c fun H1 e1 => ?_
    refine q_forR1 (n := (n : Int)) (ea_cons (ev_var rfl) ea_nil) ⟨by omega, by omega⟩ (fun i σ' H' => i ≤ n ∧ Ex H H' ∧ ∃ x y : Option V, σ' = [some (.int v), some (.int a), some (.int n), some (.int (2 ^ i)), x, y]) (fun H2 e2 => ⟨Nat.zero_le _, e1.trans e2, none, none, rfl⟩) ?_ ?_
    · rintro i σ' H' hi ⟨hin, e2, x, y, rfl⟩
      have h8 := pow8 (i := i) (by omega)
      refine s_asg (ev_is (ev_op (ev_var rfl) ev_c (rv_I (.inl ⟨by omega, by omega⟩))) (w := .int (2 ^ (i + 1))) ?_) fun H3 e3 => ⟨by omega, e2.trans e3, _, _, rfl⟩
      rw [Int.pow_succ]
    · rintro σ' H' ⟨hin, e2, x, y, rfl⟩
      rw [show (n : Int).toNat = n by omega]
      have h8 := pow8 hn
      refine q_asg (ev_op (ev_op (ev_op (ev_abs (ev_op (ev_var rfl) (ev_var rfl) rv_I0)) (ev_var rfl) rv_I0) ev_c rv_I0) (ev_var rfl) (rv_I ⟨by omega, by omega⟩)) fun H3 e3 => ?_
      unfold lawSm at k
      refine q_when (et_test (ev_op (ev_var rfl) (ev_var rfl) rv_I0)) (fun hb H4 e4 => ?_) (fun hb H4 e4 => ?_)
      · rw [if_pos (of_decide_eq_true hb)] at k
        exact s_ret (ev_op (ev_var rfl) (ev_var rfl) rv_I0) fun H5 e5 => k H5 (((e2.trans e3).trans e4).trans e5)
      · rw [if_neg (of_decide_eq_false hb)] at k
        exact s_ret (ev_op (ev_var rfl) (ev_var rfl) rv_I0) fun H5 e5 => k H5 (((e2.trans e3).trans e4).trans e5)

/-! ### the law's frame -/
def sp_l_frame (T : Tx K mg) : Sp := fun vs H Q _ => ∃ (a : Addr) (ts : List Ent) (n : Nat), vs = [.ref a, .int n] ∧ IsTs H a ts ∧ TsOk ts ∧ n ≤ 1000 ∧ RetV (.int (frameN ts n : Nat)) H Q
theorem v_l_frame (T : Tx K mg) {H : Hp} {a : Addr} {ts : List Ent} {n : Nat} (h : IsTs H a ts) (hd : TsOk ts) (hn : n ≤ 1000) : SpV (sp_l_frame T) [.ref a, .int n] H (.int (frameN ts n : Nat)) := fun _ e _ q _ => ⟨a, ts, n, rfl, h.mono e, hd, hn, q⟩
theorem hiN_drop {ts : List Ent} {i n : Nat} {e : Ent} (h : ts[i]? = some e) : hiN (ts.drop i) n = min n e.1 := by
  have hi := List.getElem?_eq_some_iff.mp h
  rw [← List.getElem_cons_drop hi.1, hi.2]
  rfl
theorem sumN_drop {C : Nat} {ts : List Ent} {i n : Nat} {e : Ent} (h : ts[i]? = some e) : sumN C (ts.drop i) n = (hiN (ts.drop (i + 1)) n - e.1) * (e.2.1 * (C / e.2.2)) + sumN C (ts.drop (i + 1)) n := by
  have hi := List.getElem?_eq_some_iff.mp h
  conv => lhs; rw [← List.getElem_cons_drop hi.1, hi.2]
  rfl
theorem ok_l_frame (T : Tx K mg) : FnOk P w K mg base CX0 1 T.a_l_frame T.d_l_frame P_l_frame (sp_l_frame T) := by
  refine T.F_l_frame.ok sc_l_frame (fun vs H Q E h => ?_) (fun cdv A outer s H vs Q E hr h => ?_)
  · obtain ⟨a, ts, n, rfl, _⟩ := h
    rfl
  · obtain ⟨a, ts, n, rfl, ⟨es, ha, ht⟩, hd, hn, k⟩ := h
    refine ⟨_, (pss_cons (ps_set (i := 2) sc_l_frame.nd rfl (.inl rfl) pe_int) (pss_cons (ps_set (i := 3) sc_l_frame.nd rfl (.inl rfl) pe_int) (pss_cons (ps_for PassesOwn.never rfl (pi_range1 (by rfl) T.z_range (pa_cons (pe_callB call_len_seq (by rfl) T.z_len (by decide +kernel) (pa_cons (pv 0) pa_nil)) pa_nil)) (pg_name (i := 4) sc_l_frame.nd rfl (.inl rfl)) (pss_cons (ps_set (i := 5) sc_l_frame.nd rfl (.inl rfl) (pv 1)) (pss_cons (ps_if (pt_cmpR op_lt (pe_op op_add (pv 4) pe_int) (pe_callB call_len_seq (by rfl) T.z_len (by decide +kernel) (pa_cons (pv 0) pa_nil)) (nomark _)) (pss_one (ps_set (i := 5) sc_l_frame.nd rfl (.inl rfl) (pe_callB (call_min2 rfl) (by rfl) T.z_min (by decide +kernel) (pa_cons (pv 1) (pa_cons (pe_ix ix_seq (pe_ix ix_seq (pv 0) (pe_op op_add (pv 4) pe_int) (fun _ _ => rfl)) pe_int (fun _ _ => rfl)) pa_nil))))) pss_nil) (pss_cons (ps_set (i := 6) sc_l_frame.nd rfl (.inl rfl) (pe_callB (call_max2 rfl) (by rfl) T.z_max (by decide +kernel) (pa_cons pe_int (pa_cons (pe_op op_sub (pv 5) (pe_ix ix_seq (pe_ix ix_seq (pv 0) (pv 4) (fun _ _ => rfl)) pe_int (fun _ _ => rfl))) pa_nil)))) (pss_cons (ps_set (i := 2) sc_l_frame.nd rfl (.inl rfl) (pe_op op_add (pe_op op_mul (pv 2) (pe_ix ix_seq (pe_ix ix_seq (pv 0) (pv 4) (fun _ _ => rfl)) pe_int (fun _ _ => rfl))) (pe_op op_mul (pe_op op_mul (pv 6) (pe_ix ix_seq (pe_ix ix_seq (pv 0) (pv 4) (fun _ _ => rfl)) pe_int (fun _ _ => rfl))) (pv 3)))) (pss_one (ps_set (i := 3) sc_l_frame.nd rfl (.inl rfl) (pe_op op_mul (pv 3) (pe_ix ix_seq (pe_ix ix_seq (pv 0) (pv 4) (fun _ _ => rfl)) pe_int (fun _ _ => rfl)))))))))) (pss_one (ps_ret (pe_op op_fdivW (pv 2) (pv 3))))))), ?_⟩
    have hl : (es.map V.ref).length = ts.length := by rw [List.length_map, ht.1]
    have hlen := hd.len
    have hC := hd.com
    refine q_asg ev_c fun H1 e1 => q_asg ev_c fun H2 e2 => ?_
    have e12 := e1.trans e2
    refine q_forR1 (n := ((es.map V.ref).length : Nat)) (ea_cons (ev_len (ev_var rfl) (sq_of (e12 _ _ ha))) ea_nil) ⟨by omega, by omega⟩
      (fun i σ' H' => Ex H H' ∧ ∃ (ab be A : Nat) (x4 x5 x6 : Option V), σ' = [some (.ref a), some (.int n), some (.int ab), some (.int be), x4, x5, x6] ∧ ab * comN 1 ts = A * be ∧ (0 < be ∧ be ≤ 8 ^ i) ∧ A + sumN (comN 1 ts) (ts.drop i) n = sumN (comN 1 ts) ts n)
      (fun H3 e3 => ⟨e12.trans e3, 0, 1, 0, none, none, none, rfl, by rw [Nat.zero_mul, Nat.zero_mul], ⟨by decide, by decide⟩, by rw [List.drop_zero, Nat.zero_add]⟩) ?_ ?_
    · rintro i σ' H' hi ⟨e3, ab, be, A, x4, x5, x6, rfl, hab, hbe, hs⟩
      have hit : i < ts.length := by omega
      obtain ⟨en, hen⟩ : ∃ e, ts[i]? = some e := ⟨ts[i], List.getElem?_eq_getElem hit⟩
      obtain ⟨ea, hea, hea2⟩ := (ht.mono e3).get hen
      have hde := hd.den en (mem_of_get hen)
      have hnu := hd.num en (mem_of_get hen)
      have htk := hd.tick en (mem_of_get hen)
      have hhi := hiN_le (ts.drop (i + 1)) n
      refine q_asg (ev_var rfl) fun H4 e4 => ?_
      refine q_ifAsg (b := decide ((i : Int) + 1 < ((es.map V.ref).length : Nat))) (v := .int (hiN (ts.drop (i + 1)) n : Nat)) (et_test (ev_op (ev_op (ev_var rfl) ev_c rv_I0) (ev_len (ev_var rfl) (sq_of (e4 _ _ (e3 _ _ ha)))) rv_I0)) (fun hb => ?_) (fun hb => ?_) fun H5 e5 => ?_
      · have hb' := of_decide_eq_true hb
        obtain ⟨e2n, he2n⟩ : ∃ e, ts[i + 1]? = some e := ⟨ts[i + 1]'(by omega), List.getElem?_eq_getElem _⟩
        obtain ⟨eb, heb, heb2⟩ := (ht.mono (e3.trans e4)).get he2n
        refine ev_is (ev_min2 (ev_var rfl) (ev_op (ev_op (ev_var rfl) (ev_op (ev_var rfl) ev_c rv_I0) (rv_iL (sq_of (e4 _ _ (e3 _ _ ha))) (at_mapz heb (by omega)))) ev_c (rv_iT (st_of heb2) rfl))) ?_
        rw [hiN_drop he2n]
        congr 1
        split <;> omega
      · have hb' := of_decide_eq_false hb
        rw [List.drop_eq_nil_of_le (by omega)]
        rfl
      · have e35 := (e3.trans e4).trans e5
        have sa := sq_of (K := K) (e35 _ _ ha)
        have ta := st_of (K := K) ((e4.trans e5) _ _ hea2)
        have hx : hiN (ts.drop (i + 1)) n - en.1 ≤ 1000 := by omega
        refine q_asg (v := .int (hiN (ts.drop (i + 1)) n - en.1 : Nat)) (ev_is (ev_max2 ev_c (ev_op (ev_var rfl) (ev_op (ev_op (ev_var rfl) (ev_var rfl) (rv_iL sa (at_map hea))) ev_c (rv_iT ta rfl)) rv_I0)) ?_) fun H6 e6 => ?_
        · congr 1
          split <;> omega
        have sa := ex_l e6 sa
        have ta := ex_t e6 ta
        generalize hX : hiN (ts.drop (i + 1)) n - en.1 = X at *
        have hXn : X * en.2.1 ≤ 1000 * 12 := Nat.mul_le_mul hx hnu.2
        have cXn : (X : Int) * (en.2.1 : Int) = ((X * en.2.1 : Nat) : Int) := (Int.natCast_mul ..).symm
        refine q_asg (v := .int (ab * en.2.2 + X * en.2.1 * be : Nat)) (ev_is (ev_op (ev_op (ev_var rfl) (ev_op (ev_op (ev_var rfl) (ev_var rfl) (rv_iL sa (at_map hea))) ev_c (rv_iT ta rfl)) (rv_I (.inr ⟨by omega, by omega⟩)))
          (ev_op (ev_op (ev_var rfl) (ev_op (ev_op (ev_var rfl) (ev_var rfl) (rv_iL sa (at_map hea))) ev_c (rv_iT ta rfl)) (rv_I (.inl ⟨by omega, by omega⟩))) (ev_var rfl) (rv_I (.inl ⟨by omega, by omega⟩))) rv_I0) ?_) fun H7 e7 => ?_
        · rw [Int.natCast_add, Int.natCast_mul, Int.natCast_mul, Int.natCast_mul]
        have sa := ex_l e7 sa
        have ta := ex_t e7 ta
        refine s_asg (v := .int (be * en.2.2 : Nat)) (ev_is (ev_op (ev_var rfl) (ev_op (ev_op (ev_var rfl) (ev_var rfl) (rv_iL sa (at_map hea))) ev_c (rv_iT ta rfl)) (rv_I (.inr ⟨by omega, by omega⟩))) ?_) fun H8 e8 => ?_
        · rw [Int.natCast_mul]
        refine ⟨((e35.trans e6).trans e7).trans e8, _, _, A + X * (en.2.1 * (comN 1 ts / en.2.2)), _, _, _, rfl, law_step (comN_dvd ts 1 en (mem_of_get hen)) hab, ⟨Nat.mul_pos hbe.1 hde.1, ?_⟩, ?_⟩
        · rw [Nat.pow_succ]
          exact Nat.mul_le_mul hbe.2 (by omega)
        · rw [sumN_drop hen, hX] at hs
          omega
    · rintro σ' H' ⟨e3, ab, be, A, x4, x5, x6, rfl, hab, hbe, hs⟩
      rw [show ((es.map V.ref).length : Int).toNat = ts.length by omega, List.drop_length] at hs
      have hs : A = sumN (comN 1 ts) ts n := hs
      have hb16 : be ≤ 8 ^ 16 := Nat.le_trans hbe.2 (Nat.pow_le_pow_right (by decide) (by omega))
      have h49 : (8 : Nat) ^ 16 < 2 ^ 49 := by decide
      refine s_ret (ev_is (ev_op (ev_var rfl) (ev_var rfl) (rv_I (wide_div (b := 49) (by omega) (by rw [Int.natAbs_natCast]; omega) (by decide) (by decide)))) ?_) fun H4 e4 => k H4 (e3.trans e4)
      rw [hs] at hab
      unfold frameN
      rw [← law_div hC.1 hbe.1 hab, Int.natCast_ediv]
end K37

/-! K37, part 6: steps of the heap, specs, instances; latency_of, is_past, state, restore. -/
namespace K37
open PySem L2 Evl

/-! ### from (F, H) to (F', H'): F what stands for good, H all; S the objects that may change -/
structure Stp (S : Addr → Prop) (F H F' H' : Hp) : Prop where
  ex : Ex F F'
  ex' : Ex F' H'
  fr : ∀ b, F b = none → H b ≠ none → F' b = none
  kp : ∀ b o, ¬ S b → H b = some o → H' b = some o
  dm : ∀ b, H b ≠ none → H' b ≠ none
def S0 : Addr → Prop := fun _ => False
section
variable {S S' : Addr → Prop} {F H F1 H1 F2 H2 : Hp} {p : Addr} {o : HO}
theorem Stp.refl (e : Ex F H) : Stp S F H F H := ⟨Ex.refl F, e, fun _ h _ => h, fun _ _ _ h => h, fun _ h => h⟩
theorem ex_dm (e : Ex H H1) : ∀ b, H b ≠ none → H1 b ≠ none := fun b h => by
  cases q : H b with
  | none => exact absurd q h
  | some o => rw [e b o q]; simp
theorem Stp.pure (s : Stp S F H F1 H1) (e : Ex H1 H2) : Stp S F H F1 H2 := ⟨s.ex, s.ex'.trans e, s.fr, fun b o n h => e _ _ (s.kp b o n h), fun b h => ex_dm e b (s.dm b h)⟩
theorem Stp.trans (s : Stp S F H F1 H1) (t : Stp S' F1 H1 F2 H2) (hS : ∀ b, S' b → S b ∨ H b = none) : Stp S F H F2 H2 :=
  ⟨s.ex.trans t.ex, t.ex', fun b h1 h2 => t.fr b (s.fr b h1 h2) (s.dm b h2), fun b o n h => t.kp b o (fun q => (hS b q).elim n fun z => by rw [z] at h; cases h) (s.kp b o n h), fun b h => t.dm b (s.dm b h)⟩
theorem Stp.mut (s : Stp S F H F1 H1) (hp : S p ∨ H p = none) (hF : F1 p = none) : Stp S F H F1 (upd H1 p o) :=
  ⟨s.ex, fun b u h => by rw [upd_ne (ne_of_none h hF)]; exact s.ex' b u h, s.fr, fun b u n h => by
    have : b ≠ p := fun e => by
      subst e
      rcases hp with q | q
      · exact n q
      · rw [q] at h; cases h
    rw [upd_ne this]; exact s.kp b u n h, fun b h => by
    by_cases e : b = p
    · subst e; rw [upd_same]; simp
    · rw [upd_ne e]; exact s.dm b h⟩
theorem Stp.fresh (s : Stp S F H F1 H1) (h : H1 p = none) : H p = none := by
  cases q : H p with
  | none => rfl
  | some o => exact absurd h (s.dm p (by rw [q]; simp))
theorem Stp.freshF (s : Stp S F H F1 H1) (h : H1 p = none) : F1 p = none := by
  cases q : F1 p with
  | none => rfl
  | some o => rw [s.ex' p o q] at h; cases h
theorem Stp.freeze (s : Stp S F H F1 H1) (hp : H p = none) (h : H1 p = some o) : Stp S F H (upd F1 p o) H1 :=
  ⟨fun b u q => by
    have q' := s.ex b u q
    by_cases e : b = p
    · subst e; rw [upd_same, ← h, s.ex' b u q']
    · rw [upd_ne e]; exact q', fun b u q => by
    by_cases e : b = p
    · subst e; rw [upd_same] at q; rw [h, q]
    · rw [upd_ne e] at q; exact s.ex' b u q, fun b h1 h2 => by
    have : b ≠ p := fun e => by subst e; exact h2 hp
    rw [upd_ne this]; exact s.fr b h1 h2, s.kp, s.dm⟩
theorem Stp.mono (s : Stp S F H F1 H1) (h : ∀ b, S b → S' b) : Stp S' F H F1 H1 := ⟨s.ex, s.ex', s.fr, fun b o n q => s.kp b o (fun z => n (h b z)) q, s.dm⟩
theorem Stp.keepF (s : Stp S F H F1 H1) : Stp S F H F H1 := ⟨Ex.refl F, s.ex.trans s.ex', fun _ h _ => h, s.kp, s.dm⟩
theorem ex_upd_new {B : Hp} (e : Ex F B) (h : B p = some o) : Ex (upd F p o) B := fun b u q => by
  by_cases z : b = p
  · subst z; rw [upd_same] at q; rw [h, q]
  · rw [upd_ne z] at q; exact e b u q
theorem ex_to_upd {B : Hp} (e : Ex F B) (h : B p = some o) : Ex F (upd F p o) := fun b u q => by
  by_cases z : b = p
  · subst z; rw [upd_same, ← h, e b u q]
  · rw [upd_ne z]; exact q
end

/-! ### comprehensions without a test -/
section
variable {K : PySem.W.Frag} {σ : L2.St} {H H' : Hp} {ta tb tc te tl tx : TE} {t u : TT} {x y z v : V} {D : Ends} {tu tz : TS} {g : TG}
theorem map_turn {H H1 H' : Hp} {Dl : Addr} {ys : List V} {i : Nat} {y : V} {σ2 : L2.St} (hD : H1 Dl = none) (e : Ex H1 H') (hl : H' Dl = some (.lst (ys.take i))) (hy : ys[i]? = some y) (hz : ys.length ≤ 40000) (he : Ev te σ2 H' y) :
    tYes σ2 H' fun b H3 => if b = true then te σ2 H3 fun y H4 => ∃ acc, H4 Dl = some (.lst acc) ∧ acc.length < sizeLine ∧ (H1 Dl = none ∧ Ex H1 (upd H4 Dl (.lst (acc ++ [y]))) ∧ upd H4 Dl (.lst (acc ++ [y])) Dl = some (.lst (ys.take (i + 1)))) else (H1 Dl = none ∧ Ex H1 H3 ∧ H3 Dl = some (.lst (ys.take (i + 1)))) := by
  dsimp only [tYes]
  rw [if_pos rfl]
  refine he H' (Ex.refl H') _ fun H4 e4 => ⟨ys.take i, e4 _ _ hl, sz_lt (by rw [List.length_take]; omega), hD, Ex.mut (e.trans e4) hD, ?_⟩
  rw [upd_same, take_snoc hy]
theorem get_of_lt {α : Type} {l : List α} {i : Nat} (h : i < l.length) : ∃ x, l[i]? = some x := ⟨l[i], List.getElem?_eq_getElem h⟩
theorem el_mapT {a : Addr} {xs : List V} {j : Nat} {vs : List Nat} (ys : List V) (hlen : ys.length = xs.length) (h : Ev tl σ H (.ref a)) (hx : SqT K H a xs) (hz : xs.length ≤ 40000) (hw : ∀ x, wipe ((wipe σ vs).set j (some x)) vs = wipe σ vs)
    (he : ∀ (i : Nat) (x y : V) H1, Ex H H1 → xs[i]? = some x → ys[i]? = some y → Ev te ((wipe σ vs).set j (some x)) H1 y) : EvL (tLc (iTup K tl) (gName j) tYes te vs) σ H ys := fun H0 e Q q => h H0 e _ fun H1 e1 => ⟨a, rfl, ⟨xs, ex_t (e.trans e1) hx⟩, fun Dl hD =>
  lc_tup (xs := xs) (fun i H' => H1 Dl = none ∧ Ex H1 H' ∧ H' Dl = some (.lst (ys.take i))) ⟨hD, Ex.new hD, upd_same⟩ (fun i H' _ p => ex_t ((e.trans e1).trans p.2.1) hx)
    (fun i x H' hi p => by
      obtain ⟨y, hy⟩ := get_of_lt (l := ys) (i := i) (by rw [hlen]; exact (List.getElem?_eq_some_iff.mp hi).1)
      exact ⟨hw x, map_turn (H := H) p.1 p.2.1 p.2.2 hy (by omega) (he i x y H' ((e.trans e1).trans p.2.1) hi hy)⟩)
    (fun H' p => q Dl H' (fresh_back e1 hD) (e1.trans p.2.1) (by rw [p.2.2, ← hlen, List.take_length]))⟩
theorem el_mapL {a : Addr} {xs : List V} {j : Nat} {vs : List Nat} (ys : List V) (hlen : ys.length = xs.length) (h : Ev tl σ H (.ref a)) (hx : SqL K H a xs) (hz : xs.length ≤ 40000) (hw : ∀ x, wipe ((wipe σ vs).set j (some x)) vs = wipe σ vs)
    (he : ∀ (i : Nat) (x y : V) H1, Ex H H1 → xs[i]? = some x → ys[i]? = some y → Ev te ((wipe σ vs).set j (some x)) H1 y) : EvL (tLc (iList K tl) (gName j) tYes te vs) σ H ys := fun H0 e Q q => h H0 e _ fun H1 e1 => ⟨a, rfl, ⟨xs, ex_l (e.trans e1) hx⟩, fun Dl hD =>
  lc_list (xs := xs) (fun i H' => H1 Dl = none ∧ Ex H1 H' ∧ H' Dl = some (.lst (ys.take i))) ⟨hD, Ex.new hD, upd_same⟩ (fun i H' _ p => ex_l ((e.trans e1).trans p.2.1) hx)
    (fun i x H' hi p => by
      obtain ⟨y, hy⟩ := get_of_lt (l := ys) (i := i) (by rw [hlen]; exact (List.getElem?_eq_some_iff.mp hi).1)
      exact ⟨hw x, map_turn (H := H) p.1 p.2.1 p.2.2 hy (by omega) (he i x y H' ((e.trans e1).trans p.2.1) hi hy)⟩)
    (fun H' p => q Dl H' (fresh_back e1 hD) (e1.trans p.2.1) (by rw [p.2.2, ← hlen, List.take_length]))⟩
/-- .. over a new list -/
theorem el_mapNL {xs : List V} {j : Nat} {vs : List Nat} (ys : List V) (hlen : ys.length = xs.length) (h : EvL tl σ H xs) (hz : xs.length ≤ 40000) (hw : ∀ x, wipe ((wipe σ vs).set j (some x)) vs = wipe σ vs)
    (he : ∀ (i : Nat) (x y : V) H1, Ex H H1 → xs[i]? = some x → ys[i]? = some y → Ev te ((wipe σ vs).set j (some x)) H1 y) : EvL (tLc (iList K tl) (gName j) tYes te vs) σ H ys := fun H0 e Q q => h H0 e _ fun a H1 ha e1 hx => ⟨a, rfl, ⟨xs, sq_of hx⟩, fun Dl hD =>
  lc_list (xs := xs) (fun i H' => H1 Dl = none ∧ Ex H1 H' ∧ H' Dl = some (.lst (ys.take i))) ⟨hD, Ex.new hD, upd_same⟩ (fun i H' _ p => sq_of (p.2.1 _ _ hx))
    (fun i x H' hi p => by
      obtain ⟨y, hy⟩ := get_of_lt (l := ys) (i := i) (by rw [hlen]; exact (List.getElem?_eq_some_iff.mp hi).1)
      exact ⟨hw x, map_turn (H := H) p.1 p.2.1 p.2.2 hy (by omega) (he i x y H' ((e.trans e1).trans p.2.1) hi hy)⟩)
    (fun H' p => q Dl H' (fresh_back e1 hD) (e1.trans p.2.1) (by rw [p.2.2, ← hlen, List.take_length]))⟩
theorem el_mapR1 {ta : TA} {n : Nat} {j : Nat} {vs : List Nat} (ys : List V) (hlen : ys.length = n) (h : EvA ta σ H [.int (n : Nat)]) (hz : n ≤ 40000) (hw : ∀ x, wipe ((wipe σ vs).set j (some x)) vs = wipe σ vs)
    (he : ∀ (i : Nat) (y : V) H1, Ex H H1 → ys[i]? = some y → Ev te ((wipe σ vs).set j (some (.int (i : Nat)))) H1 y) : EvL (tLc (iRng1 ta) (gName j) tYes te vs) σ H ys := fun H0 e Q q => h H0 e _ fun H1 e1 => ⟨n, rfl, by omega, by omega, fun Dl hD =>
  lc_range (lo := 0) (n := (n : Int).toNat) (fun i H' => H1 Dl = none ∧ Ex H1 H' ∧ H' Dl = some (.lst (ys.take i))) ⟨hD, Ex.new hD, upd_same⟩
    (fun i H' hi p => by
      obtain ⟨y, hy⟩ := get_of_lt (l := ys) (i := i) (by omega)
      rw [show (0 : Int) + (i : Int) = (i : Nat) by omega]
      exact ⟨hw _, map_turn (H := H) p.1 p.2.1 p.2.2 hy (by omega) (he i y H' ((e.trans e1).trans p.2.1) hy)⟩)
    (fun H' p => q Dl H' (fresh_back e1 hD) (e1.trans p.2.1) (by rw [p.2.2, show (n : Int).toNat = ys.length by omega, List.take_length]))⟩
theorem el_mapR2 {ta : TA} {lo hi : Int} {j : Nat} {vs : List Nat} (ys : List V) (hlen : ys.length = (hi - lo).toNat) (h : EvA ta σ H [.int lo, .int hi]) (hz : -40000 ≤ lo ∧ lo ≤ 40000 ∧ -40000 ≤ hi ∧ hi ≤ 40000 ∧ hi - lo ≤ 40000) (hw : ∀ x, wipe ((wipe σ vs).set j (some x)) vs = wipe σ vs)
    (he : ∀ (i : Nat) (y : V) H1, Ex H H1 → ys[i]? = some y → Ev te ((wipe σ vs).set j (some (.int (lo + (i : Nat))))) H1 y) : EvL (tLc (iRng2 ta) (gName j) tYes te vs) σ H ys := fun H0 e Q q => h H0 e _ fun H1 e1 => ⟨lo, hi, rfl, ⟨by omega, by omega, by omega, by omega⟩, fun Dl hD =>
  lc_range (lo := lo) (n := (hi - lo).toNat) (fun i H' => H1 Dl = none ∧ Ex H1 H' ∧ H' Dl = some (.lst (ys.take i))) ⟨hD, Ex.new hD, upd_same⟩
    (fun i H' hi p => by
      obtain ⟨y, hy⟩ := get_of_lt (l := ys) (i := i) (by omega)
      exact ⟨hw _, map_turn (H := H) p.1 p.2.1 p.2.2 hy (by omega) (he i y H' ((e.trans e1).trans p.2.1) hy)⟩)
    (fun H' p => q Dl H' (fresh_back e1 hD) (e1.trans p.2.1) (by rw [p.2.2, ← hlen, List.take_length]))⟩
def rTupOf (K : PySem.W.Frag) : List V → Hp → VK → Prop := fun xs H Q => ∃ p ys, xs = [.ref p] ∧ ((SqL K H p ys ∧ ∀ l, H l = none → Q (.ref l) (upd H l (.tup ys))) ∨ (SqT K H p ys ∧ Q (.ref p) H))
/-- tuple(a new list) -/
theorem eu_tupN {xs : List V} (h : EvL te σ H xs) : EvU (tCB (rTupOf K) (tCons te tNil)) σ H xs := fun H1 e Q q =>
  h H1 e _ fun p H2 hp e2 h2 => ⟨p, xs, rfl, .inl ⟨sq_of h2, fun l hl => q l _ (fresh_back e2 hl) (e2.trans (Ex.new hl)) upd_same⟩⟩
/-- list(a tuple) -/
theorem el_listT {p : Addr} {xs : List V} (ha : Ev ta σ H (.ref p)) (h : SqT K H p xs) : EvL (tCB (rListS K) (tCons ta tNil)) σ H xs := fun H1 e Q q =>
  ha H1 e _ fun H2 e2 => ⟨p, xs, rfl, Or.inr (ex_t (e.trans e2) h), fun l hl => q l _ (fresh_back e2 hl) (e2.trans (Ex.new hl)) upd_same⟩
/-- a new list + a new list -/
theorem el_cat {xs ys : List V} (ha : EvL ta σ H xs) (hb : EvL tb σ H ys) (hz : xs.length + ys.length ≤ 100000) : EvL (tOp rCat ta tb) σ H (xs ++ ys) := fun H1 e Q q =>
  ha H1 e _ fun p H2 hp e2 h2 => hb H2 (e.trans e2) _ fun r H3 hr e3 h3 => ⟨p, r, xs, ys, rfl, rfl, e3 _ _ h2, h3, sz_of hz, fun l hl => q l _ (fresh_back (e2.trans e3) hl) ((e2.trans e3).trans (Ex.new hl)) upd_same⟩
/-- a list that stands + a new list, and the other way round -/
theorem el_catV {xs ys : List V} {a : Addr} (ha : Ev ta σ H (.ref a)) (hx : H a = some (.lst xs)) (hb : EvL tb σ H ys) (hz : xs.length + ys.length ≤ 100000) : EvL (tOp rCat ta tb) σ H (xs ++ ys) := fun H1 e Q q =>
  ha H1 e _ fun H2 e2 => hb H2 (e.trans e2) _ fun r H3 hr e3 h3 => ⟨a, r, xs, ys, rfl, rfl, e3 _ _ (e2 _ _ (e _ _ hx)), h3, sz_of hz, fun l hl => q l _ (fresh_back (e2.trans e3) hl) ((e2.trans e3).trans (Ex.new hl)) upd_same⟩
theorem el_catW {xs ys : List V} {b : Addr} (ha : EvL ta σ H xs) (hb : Ev tb σ H (.ref b)) (hy : H b = some (.lst ys)) (hz : xs.length + ys.length ≤ 100000) : EvL (tOp rCat ta tb) σ H (xs ++ ys) := fun H1 e Q q =>
  ha H1 e _ fun p H2 hp e2 h2 => hb H2 (e.trans e2) _ fun H3 e3 => ⟨p, b, xs, ys, rfl, rfl, e3 _ _ h2, e3 _ _ (e2 _ _ (e _ _ hy)), sz_of hz, fun l hl => q l _ (fresh_back (e2.trans e3) hl) ((e2.trans e3).trans (Ex.new hl)) upd_same⟩
/-- a slice of a new list -/
theorem el_slN {tl' th : TO} {xs : List V} {lo hi : Option Int} (h : EvL te σ H xs) (h1 : EvO tl' σ H lo) (h2 : EvO th σ H hi) : EvL (tSl (rSlL K) te tl' th) σ H (cutV xs lo hi) := fun H1 e _ q =>
  h H1 e _ fun a H2 ha e2 hx => h1 H2 (e.trans e2) _ fun H3 e3 => h2 H3 ((e.trans e2).trans e3) _ fun H4 e4 =>
    ⟨a, xs, rfl, sq_of (e4 _ _ (e3 _ _ hx)), fun p hp => q p _ (fresh_back ((e2.trans e3).trans e4) hp) (((e2.trans e3).trans e4).trans (Ex.new hp)) upd_same⟩
theorem cut_drop {xs : List V} {n : Nat} (h : n ≤ xs.length) : cutV xs (some (n : Int)) none = xs.drop n := by
  unfold cutV
  rw [HT.sIx_nat, HT.sIx_none, Nat.min_eq_left h, List.take_of_length_le (by rw [List.length_drop]; exact Nat.le_refl _)]
theorem cut_take {xs : List V} {n : Nat} (h : n ≤ xs.length) : cutV xs none (some (n : Int)) = xs.take n := by
  unfold cutV
  rw [HT.sIx_nat, HT.sIx_none, Nat.min_eq_left h, List.drop_zero, Nat.sub_zero]
theorem cut_mid {xs : List V} {n m : Nat} : cutV xs (some (n : Int)) (some (m : Int)) = (xs.drop n).take (m - n) := by
  unfold cutV
  rw [HT.sIx_nat, HT.sIx_nat]
  by_cases h : n ≤ xs.length
  · rw [Nat.min_eq_left h]
    by_cases h2 : m ≤ xs.length
    · rw [Nat.min_eq_left h2]
    · rw [Nat.min_eq_right (by omega), List.take_of_length_le (by rw [List.length_drop]; exact Nat.le_refl _), List.take_of_length_le (by rw [List.length_drop]; omega)]
  · rw [show min n xs.length = xs.length by omega, List.drop_length, List.drop_eq_nil_of_le (by omega)]
    simp
theorem el_is {xs ys : List V} (h : EvL te σ H xs) (e : xs = ys) : EvL te σ H ys := e ▸ h
theorem eu_is {xs ys : List V} (h : EvU te σ H xs) (e : xs = ys) : EvU te σ H ys := e ▸ h
/-- all(a new list of Trues) -/
theorem ev_allN {bs : List Bool} (h : EvL te σ H (bs.map V.bl)) : Ev (tCB (rAll K) (tCons te tNil)) σ H (.bl (bs.all id)) := fun H1 e Q q =>
  h H1 e _ fun a H2 ha e2 hx => ⟨a, bs, rfl, sq_of hx, q H2 e2⟩
/-- o.f = e -/
theorem q_fld {a C dx : Addr} {fs : List (Str × V)} {f : Str} (hv : Ev tx σ H v) (ha : Ev ta σ H (.ref a)) (ho : H a = some (.ins C dx fs)) (hc : Cls K C) (hn : NoAttr K C f) (hl : fs.length < 1000) (k : ∀ H1, Ex H H1 → tz D σ (upd H1 a (.ins C dx (putF f v fs)))) : tSeq (sFld K ta tx f) tz D σ H :=
  hv H (Ex.refl H) _ fun H1 e1 => ha H1 e1 _ fun H2 e2 => ⟨a, C, dx, fs, rfl, e2 _ _ (e1 _ _ ho), hc, hn, hl, k H2 (e1.trans e2)⟩
theorem s_fld {a C dx : Addr} {fs : List (Str × V)} {f : Str} (hv : Ev tx σ H v) (ha : Ev ta σ H (.ref a)) (ho : H a = some (.ins C dx fs)) (hc : Cls K C) (hn : NoAttr K C f) (hl : fs.length < 1000) (k : ∀ H1, Ex H H1 → D.nx σ (upd H1 a (.ins C dx (putF f v fs)))) : sFld K ta tx f D σ H :=
  hv H (Ex.refl H) _ fun H1 e1 => ha H1 e1 _ fun H2 e2 => ⟨a, C, dx, fs, rfl, e2 _ _ (e1 _ _ ho), hc, hn, hl, k H2 (e1.trans e2)⟩
theorem q_fldU {a C dx : Addr} {fs : List (Str × V)} {f : Str} {xs : List V} (hv : EvU tx σ H xs) (ha : Ev ta σ H (.ref a)) (ho : H a = some (.ins C dx fs)) (hc : Cls K C) (hn : NoAttr K C f) (hl : fs.length < 1000) (k : ∀ p H1, H p = none → Ex H H1 → H1 p = some (.tup xs) → tz D σ (upd H1 a (.ins C dx (putF f (.ref p) fs)))) : tSeq (sFld K ta tx f) tz D σ H :=
  hv H (Ex.refl H) _ fun p H1 hp e1 h1 => ha H1 e1 _ fun H2 e2 => ⟨a, C, dx, fs, rfl, e2 _ _ (e1 _ _ ho), hc, hn, hl, k p H2 hp (e1.trans e2) (e2 _ _ h1)⟩
theorem s_fldU {a C dx : Addr} {fs : List (Str × V)} {f : Str} {xs : List V} (hv : EvU tx σ H xs) (ha : Ev ta σ H (.ref a)) (ho : H a = some (.ins C dx fs)) (hc : Cls K C) (hn : NoAttr K C f) (hl : fs.length < 1000) (k : ∀ p H1, H p = none → Ex H H1 → H1 p = some (.tup xs) → D.nx σ (upd H1 a (.ins C dx (putF f (.ref p) fs)))) : sFld K ta tx f D σ H :=
  hv H (Ex.refl H) _ fun p H1 hp e1 h1 => ha H1 e1 _ fun H2 e2 => ⟨a, C, dx, fs, rfl, e2 _ _ (e1 _ _ ho), hc, hn, hl, k p H2 hp (e1.trans e2) (e2 _ _ h1)⟩
end

/-! ### specs -/
def kw : Pt → Str
  | .line _ => "line" | .pass => "pass" | .gain _ => "gain" | .delay _ _ _ => "delay" | .smooth _ => "smooth" | .ahead _ _ => "ahead"
def IsSp (H : Hp) (a : Addr) : Pt → Prop
  | .line n => H a = some (.tup [.str "line", .int n])
  | .pass => H a = some (.tup [.str "pass"])
  | .gain ps => ∃ q, H a = some (.tup [.str "gain", .ref q]) ∧ IsPt H q ps
  | .delay n fb own => H a = some (.tup [.str "delay", .int n, .int fb, .int own])
  | .smooth k => H a = some (.tup [.str "smooth", .int k])
  | .ahead n c => H a = some (.tup [.str "ahead", .int n, .int c])
theorem IsSp.mono {H H' : Hp} {a : Addr} (e : Ex H H') : ∀ {p : Pt}, IsSp H a p → IsSp H' a p
  | .line n, h => e _ _ h
  | .pass, h => e _ _ h
  | .gain ps, ⟨q, h, t⟩ => ⟨q, e _ _ h, t.mono e⟩
  | .delay n fb own, h => e _ _ h
  | .smooth k, h => e _ _ h
  | .ahead n c, h => e _ _ h
theorem IsSp.tup {H : Hp} {a : Addr} : ∀ {p : Pt}, IsSp H a p → ∃ r, H a = some (.tup (.str (kw p) :: r))
  | .line n, h => ⟨_, h⟩
  | .pass, h => ⟨_, h⟩
  | .gain ps, ⟨q, h, t⟩ => ⟨_, h⟩
  | .delay n fb own, h => ⟨_, h⟩
  | .smooth k, h => ⟨_, h⟩
  | .ahead n c, h => ⟨_, h⟩
theorem at_hd {v : V} {r : List V} : atI (v :: r) 0 = some v := by
  rw [show (0 : Int) = ((0 : Nat) : Int) from rfl]
  exact atI_nat rfl
section
variable {K : PySem.W.Frag} {σ : L2.St} {H H' : Hp} {te : TE}
/-- spec[0] == word -/
theorem et_kw {a : Addr} {p : Pt} {x : Str} {b : Bool} (h : Ev te σ H (.ref a)) (hs : IsSp H a p) (hb : decide (kw p = x) = b) : EvT (tTest (tOp rEq (tOp (rIx K) te (tC (.int 0))) (tC (.str x)))) σ H b := by
  obtain ⟨r, hr⟩ := hs.tup
  refine et_is (et_test (ev_op (ev_op h ev_c (rv_iT (st_of hr) at_hd)) ev_c (rv_eq rfl))) ?_
  rw [← hb, Bool.eq_iff_iff]
  simp
end

variable {P : Program} {w : World} {K : PySem.W.Frag} {mg : Str → Option Value} {base : Heap}

/-! ### latency_of -/
def sp_latency_of (T : Tx K mg) : Sp := fun vs H Q _ => ∃ (a : Addr) (p : Pt), vs = [.ref a] ∧ IsSp H a p ∧ (∀ n, p ≠ .line n) ∧ RetV (.int (latP p : Nat)) H Q
theorem v_latency (T : Tx K mg) {H : Hp} {a : Addr} {p : Pt} (h : IsSp H a p) (hn : ∀ n, p ≠ .line n) : SpV (sp_latency_of T) [.ref a] H (.int (latP p : Nat)) := fun _ e _ q _ => ⟨a, p, rfl, h.mono e, hn, q⟩
theorem ok_latency_of (T : Tx K mg) : FnOk P w K mg base CX0 1 T.a_latency_of T.d_latency_of P_latency_of (sp_latency_of T) := by
  refine T.F_latency_of.ok sc_latency_of (fun vs H Q E h => ?_) (fun cdv A outer s H vs Q E hr h => ?_)
  · obtain ⟨a, p, rfl, _⟩ := h
    rfl
  · obtain ⟨a, p, rfl, hs, hn, k⟩ := h
    refine ⟨_, (pss_cons (ps_if (pt_cmpR op_eq (pe_ix ix_seq (pv 0) pe_int (fun _ _ => rfl)) pe_str (nomark _)) (pss_one (ps_ret (pe_ix ix_seq (pv 0) pe_int (fun _ _ => rfl)))) pss_nil) (pss_one (ps_ret pe_int))), ?_⟩
    by_cases hp : ∃ n c, p = .ahead n c
    · obtain ⟨n, c, rfl⟩ := hp
      refine q_when (et_kw (b := true) (ev_var rfl) hs (show decide (("ahead" : Str) = "ahead") = true by decide +kernel)) (fun _ H1 e1 => ?_) (fun hb => absurd hb (by decide))
      exact s_ret (ev_op (ev_var rfl) ev_c (rv_iT (st_of (hs.mono e1)) rfl)) fun H2 e2 => k H2 (e1.trans e2)
    · have hb : decide (kw p = ("ahead" : Str)) = false ∧ latP p = 0 := by
        cases p with
        | line n => exact absurd rfl (hn n)
        | pass => exact ⟨by decide +kernel, rfl⟩
        | gain ps => exact ⟨(by decide +kernel : decide (("gain" : Str) = "ahead") = false), rfl⟩
        | delay n fb own => exact ⟨(by decide +kernel : decide (("delay" : Str) = "ahead") = false), rfl⟩
        | smooth n => exact ⟨(by decide +kernel : decide (("smooth" : Str) = "ahead") = false), rfl⟩
        | ahead n c => exact absurd ⟨n, c, rfl⟩ hp
      refine q_when (et_kw (b := false) (ev_var rfl) hs hb.1) (fun hb => absurd hb (by decide)) (fun _ H1 e1 => ?_)
      rw [hb.2] at k
      exact s_ret ev_c fun H2 e2 => k H2 (e1.trans e2)

/-! ### is_past -/
def sp_is_past (T : Tx K mg) : Sp := fun vs H Q _ => ∃ (a : Addr) (xs : List Int), vs = [.ref a, .int (xs.length : Nat)] ∧ H a = some (.tup (xs.map V.int)) ∧ (∀ x ∈ xs, Smp x) ∧ xs.length ≤ 1000 ∧ RetV (.bl true) H Q
theorem v_is_past (T : Tx K mg) {H : Hp} {a : Addr} {xs : List Int} (h : H a = some (.tup (xs.map V.int))) (hs : ∀ x ∈ xs, Smp x) (hl : xs.length ≤ 1000) : SpV (sp_is_past T) [.ref a, .int (xs.length : Nat)] H (.bl true) := fun _ e _ q _ => ⟨a, xs, rfl, e _ _ h, hs, hl, q⟩
theorem ok_is_past (T : Tx K mg) : FnOk P w K mg base CX0 3 T.a_is_past T.d_is_past P_is_past (sp_is_past T) := by
  refine T.F_is_past.ok sc_is_past (fun vs H Q E h => ?_) (fun cdv A outer s H vs Q E hr h => ?_)
  · obtain ⟨a, xs, rfl, _⟩ := h
    rfl
  · obtain ⟨a, xs, rfl, ha, hs, hlen, k⟩ := h
    refine ⟨_, (pss_one (ps_ret (pe_and (pe_callB call_isi (by rfl) T.z_isinstance (by decide +kernel) (pa_cons (pv 0) (pa_cons (pe_bltn (v := .ty "tuple") (by rfl) T.z_tuple (by decide +kernel) rfl) pa_nil))) (pe_and (pe_cmpR op_eq (pe_callB call_len_seq (by rfl) T.z_len (by decide +kernel) (pa_cons (pv 0) pa_nil)) (pv 1) (nomark _)) (pe_one (pe_callB (cr_all rfl) (by rfl) T.z_all (by decide +kernel) (pa_cons (pe_lc (own := [("sample", 2)]) (g := (gName 2)) (tt := tYes) (te := (tCall (sp_is_sample T) [] E0 (tCons (tVar 2) tNil))) rfl sc_is_past.nd (pi_tup (pv 0)) (blkOk_by (N := N_is_past) (sc := defScope s_is_past) (by decide +kernel)) (fun _ _ _ _ _ => (pg_name (i := 2) sc_is_past.nd rfl (.inl rfl))) (fun _ _ _ _ _ => pts_nil) (fun _ _ _ _ _ => (pe_call (ok_is_sample T) (hr.mono (by decide)) (by rfl) T.g_is_sample T.F_is_sample.kp T.b_is_sample .nil pass0 (pa_cons (pv 2) pa_nil)))) pa_nil))))))), ?_⟩
    have c : ((xs.map fun _ => true).map V.bl) = (xs.map fun _ => V.bl true) := by rw [List.map_map]; rfl
    have q := el_mapT (K := K) (σ := [some (.ref a), some (.int (xs.length : Nat)), none]) (te := tCall (sp_is_sample T) [] E0 (tCons (tVar 2) tNil)) (tl := tVar 0) (j := 2) (vs := [2]) ((xs.map fun _ => true).map V.bl) (by simp) (ev_var rfl) (st_of ha) (by rw [List.length_map]; omega) (fun _ => rfl) (fun i x y H1 e1 hx hy => by
      rw [List.getElem?_map] at hx
      rw [c, List.getElem?_map] at hy
      cases q : xs[i]? with
      | none => rw [q] at hx; cases hx
      | some z =>
        rw [q] at hx hy
        cases hx; cases hy
        exact ev_call0 (ea_cons (ev_var rfl) ea_nil) (v_is_sample T (hs z (mem_of_get q))))
    refine s_ret (ev_is (ev_andV (ev_isi_tt (ev_var rfl) ha) fun _ => ev_andV (b := true) (ev_is (ev_op (ev_lenT (ev_var rfl) (st_of ha)) (ev_var rfl) (rv_eq rfl)) (w := .bl true) ?_) fun _ => ev_is (ev_allN q) (w := .bl true) ?_) rfl) k
    · rw [List.length_map]
      congr 1
      exact decide_eq_true rfl
    · congr 1
      simp
end K37

/-! K37, part 7: instances: made, their state told and restored. -/
namespace K37
open PySem L2 Evl
variable {P : Program} {w : World} {K : PySem.W.Frag} {mg : Str → Option Value} {base : Heap}

theorem lk_hd {f : Str} {v : V} {r : List (Str × V)} : ((f, v) :: r).lookup f = some v := by simp [List.lookup]
theorem lk_tl {f g : Str} {v : V} {r : List (Str × V)} (h : ¬ f = g) : ((g, v) :: r).lookup f = r.lookup f := by
  have : (f == g) = false := beq_eq_false_iff_ne.mpr h
  simp [List.lookup, this]
theorem lk_nil {f : Str} : ([] : List (Str × V)).lookup f = none := rfl
theorem pf_hd {f : Str} {v x : V} {r : List (Str × V)} : putF f v ((f, x) :: r) = (f, v) :: r := if_pos rfl
theorem pf_tl {f g : Str} {v x : V} {r : List (Str × V)} (h : ¬ g = f) : putF f v ((g, x) :: r) = (g, x) :: putF f v r := if_neg h
theorem n_fr_pa : ¬ (("frames" : Str) = "past") := by decide +kernel
theorem n_pa_fr : ¬ (("past" : Str) = "frames") := by decide +kernel
theorem n_fr_fe : ¬ (("frames" : Str) = "feedback") := by decide +kernel
theorem n_fe_fr : ¬ (("feedback" : Str) = "frames") := by decide +kernel
theorem n_fr_ow : ¬ (("frames" : Str) = "own") := by decide +kernel
theorem n_ow_fr : ¬ (("own" : Str) = "frames") := by decide +kernel
theorem n_fe_ow : ¬ (("feedback" : Str) = "own") := by decide +kernel
theorem n_ow_fe : ¬ (("own" : Str) = "feedback") := by decide +kernel
theorem n_fe_pa : ¬ (("feedback" : Str) = "past") := by decide +kernel
theorem n_pa_fe : ¬ (("past" : Str) = "feedback") := by decide +kernel
theorem n_ow_pa : ¬ (("own" : Str) = "past") := by decide +kernel
theorem n_pa_ow : ¬ (("past" : Str) = "own") := by decide +kernel
theorem n_fr_ce : ¬ (("frames" : Str) = "ceiling") := by decide +kernel
theorem n_ce_fr : ¬ (("ceiling" : Str) = "frames") := by decide +kernel
theorem n_ce_pa : ¬ (("ceiling" : Str) = "past") := by decide +kernel
theorem n_pa_ce : ¬ (("past" : Str) = "ceiling") := by decide +kernel
theorem n_k_va : ¬ (("k" : Str) = "value") := by decide +kernel
theorem n_va_k : ¬ (("value" : Str) = "k") := by decide +kernel

/-! ### the fields -/
def fs_line (n : Int) (t : Addr) : List (Str × V) := [("frames", .int n), ("past", .ref t)]
def fs_gain (l : Addr) : List (Str × V) := [("points", .ref l)]
def fs_delay (n fb own : Int) (t : Addr) : List (Str × V) := [("frames", .int n), ("feedback", .int fb), ("own", .int own), ("past", .ref t)]
def fs_smooth (k v : Int) : List (Str × V) := [("k", .int k), ("value", .int v)]
def fs_ahead (n c : Int) (t : Addr) : List (Str × V) := [("frames", .int n), ("ceiling", .int c), ("past", .ref t)]
section
variable {n fb own c k v v' : Int} {t t' l : Addr}
theorem fl_frames : (fs_line n t).lookup ("frames" : Str) = some (.int n) := lk_hd
theorem fl_past : (fs_line n t).lookup ("past" : Str) = some (.ref t) := (lk_tl n_pa_fr).trans lk_hd
theorem fl_put : putF "past" (.ref t') (fs_line n t) = fs_line n t' := (pf_tl n_fr_pa).trans (congrArg _ pf_hd)
theorem fg_points : (fs_gain l).lookup ("points" : Str) = some (.ref l) := lk_hd
theorem fd_frames : (fs_delay n fb own t).lookup ("frames" : Str) = some (.int n) := lk_hd
theorem fd_feedback : (fs_delay n fb own t).lookup ("feedback" : Str) = some (.int fb) := (lk_tl n_fe_fr).trans lk_hd
theorem fd_own : (fs_delay n fb own t).lookup ("own" : Str) = some (.int own) := (lk_tl n_ow_fr).trans ((lk_tl n_ow_fe).trans lk_hd)
theorem fd_past : (fs_delay n fb own t).lookup ("past" : Str) = some (.ref t) := (lk_tl n_pa_fr).trans ((lk_tl n_pa_fe).trans ((lk_tl n_pa_ow).trans lk_hd))
theorem fd_put : putF "past" (.ref t') (fs_delay n fb own t) = fs_delay n fb own t' := (pf_tl n_fr_pa).trans (congrArg _ ((pf_tl n_fe_pa).trans (congrArg _ ((pf_tl n_ow_pa).trans (congrArg _ pf_hd)))))
theorem fs_k : (fs_smooth k v).lookup ("k" : Str) = some (.int k) := lk_hd
theorem fs_value : (fs_smooth k v).lookup ("value" : Str) = some (.int v) := (lk_tl n_va_k).trans lk_hd
theorem fs_put : putF "value" (.int v') (fs_smooth k v) = fs_smooth k v' := (pf_tl n_k_va).trans (congrArg _ pf_hd)
theorem fa_frames : (fs_ahead n c t).lookup ("frames" : Str) = some (.int n) := lk_hd
theorem fa_ceiling : (fs_ahead n c t).lookup ("ceiling" : Str) = some (.int c) := (lk_tl n_ce_fr).trans lk_hd
theorem fa_past : (fs_ahead n c t).lookup ("past" : Str) = some (.ref t) := (lk_tl n_pa_fr).trans ((lk_tl n_pa_ce).trans lk_hd)
theorem fa_put : putF "past" (.ref t') (fs_ahead n c t) = fs_ahead n c t' := (pf_tl n_fr_pa).trans (congrArg _ ((pf_tl n_ce_pa).trans (congrArg _ pf_hd)))
/-- no attribute of these names -/
theorem no_attr {m : Str} {fs : List (Str × V)} (h : ∀ p ∈ fs, ¬ m = p.1) : fs.lookup m = none := by
  induction fs with
  | nil => rfl
  | cons a r ih => exact (lk_tl (h a (by simp))).trans (ih fun p hp => h p (by simp [hp]))
end

/-- an instance of a part, in the state st: F knows what it leans on, H itself -/
def InstAt (T : Tx K mg) (ts : List Ent) (F H : Hp) (m : Addr) : Pt → List Int → Prop
  | .line n, st => ∃ dx t, H m = some (.ins T.c_DelayLine dx (fs_line n t)) ∧ F t = some (.tup (st.map V.int))
  | .pass, st => st = [] ∧ ∃ dx, H m = some (.ins T.c_Pass dx [])
  | .gain ps, st => st = [] ∧ ∃ dx l, H m = some (.ins T.c_Gain dx (fs_gain l)) ∧ IsPl F l (fps ts ps)
  | .delay n fb own, st => ∃ dx t, H m = some (.ins T.c_Delay dx (fs_delay n fb own t)) ∧ F t = some (.tup (st.map V.int))
  | .smooth k, st => ∃ dx v, st = [v] ∧ H m = some (.ins T.c_Smooth dx (fs_smooth k v))
  | .ahead n c, st => ∃ dx t, H m = some (.ins T.c_Ahead dx (fs_ahead n c t)) ∧ F t = some (.tup (st.map V.int))
theorem InstAt.mono {T : Tx K mg} {ts : List Ent} {F H F' H' : Hp} {m : Addr} (e : Ex F F') (hm : ∀ o, H m = some o → H' m = some o) : ∀ {p : Pt} {st : List Int}, InstAt T ts F H m p st → InstAt T ts F' H' m p st
  | .line n, st, ⟨dx, t, a, b⟩ => ⟨dx, t, hm _ a, e _ _ b⟩
  | .pass, st, ⟨z, dx, a⟩ => ⟨z, dx, hm _ a⟩
  | .gain ps, st, ⟨z, dx, l, a, b⟩ => ⟨z, dx, l, hm _ a, b.mono e⟩
  | .delay n fb own, st, ⟨dx, t, a, b⟩ => ⟨dx, t, hm _ a, e _ _ b⟩
  | .smooth k, st, ⟨dx, v, z, a⟩ => ⟨dx, v, z, hm _ a⟩
  | .ahead n c, st, ⟨dx, t, a, b⟩ => ⟨dx, t, hm _ a, e _ _ b⟩
theorem InstAt.ins {T : Tx K mg} {ts : List Ent} {F H : Hp} {m : Addr} : ∀ {p : Pt} {st : List Int}, InstAt T ts F H m p st → ∃ C dx fs, H m = some (.ins C dx fs)
  | .line n, st, ⟨dx, t, a, b⟩ => ⟨_, _, _, a⟩
  | .pass, st, ⟨z, dx, a⟩ => ⟨_, _, _, a⟩
  | .gain ps, st, ⟨z, dx, l, a, b⟩ => ⟨_, _, _, a⟩
  | .delay n fb own, st, ⟨dx, t, a, b⟩ => ⟨_, _, _, a⟩
  | .smooth k, st, ⟨dx, v, z, a⟩ => ⟨_, _, _, a⟩
  | .ahead n c, st, ⟨dx, t, a, b⟩ => ⟨_, _, _, a⟩

/-! ### __init__ -/
def zv (n : Nat) : List V := (zer n).map V.int
theorem zv_len (n : Nat) : (zv n).length = n := by unfold zv zer; simp
theorem zv_get {n i : Nat} {y : V} (h : (zv n)[i]? = some y) : y = .int 0 := by
  unfold zv zer at h
  rw [List.map_replicate, List.getElem?_replicate] at h
  split at h
  · cases h; rfl
  · cases h
/-- all but m is kept; a new tuple of zeros at t -/
def Past0 (H H' : Hp) (m : Addr) (n : Nat) (t : Addr) : Prop := (∀ b o, H b = some o → b ≠ m → H' b = some o) ∧ H t = none ∧ t ≠ m ∧ H' t = some (.tup (zv n))
def sp_DelayLine_init (T : Tx K mg) : Sp := fun vs H Q _ => ∃ (m dx : Addr) (n : Nat), vs = [.ref m, .int n] ∧ H m = some (.ins T.c_DelayLine dx []) ∧ n ≤ 1000 ∧ ∀ t H', Past0 H H' m n t → H' m = some (.ins T.c_DelayLine dx (fs_line n t)) → Q .non H'
theorem ok_DelayLine_init (T : Tx K mg) : FnOk P w K mg base CX0 1 T.a_DelayLine_init T.d_DelayLine_init P_DelayLine_init (sp_DelayLine_init T) := by
  refine T.F_DelayLine_init.ok sc_DelayLine_init (fun vs H Q E h => ?_) (fun cdv A outer s H vs Q E hr h => ?_)
  · obtain ⟨m, dx, n, rfl, _⟩ := h
    rfl
  · obtain ⟨m, dx, n, rfl, hm, hn, k⟩ := h
    refine ⟨_, (pss_cons (ps_fld (pv 0) (pv 1) rfl) (pss_one (ps_fld (pv 0) (pe_callTy call_tuple_of (by rfl) T.z_tuple (by decide +kernel) (pa_cons (pe_lc (own := [("_", 2)]) (g := (gName 2)) (tt := tYes) (te := (tC (.int 0))) rfl sc_DelayLine_init.nd (pi_range1 (by rfl) T.z_range (pa_cons (pv 1) pa_nil)) (blkOk_by (N := N_DelayLine_init) (sc := defScope s_DelayLine_init) (by decide +kernel)) (fun _ _ _ _ _ => (pg_name (i := 2) sc_DelayLine_init.nd rfl (.inl rfl))) (fun _ _ _ _ _ => pts_nil) (fun _ _ _ _ _ => pe_int)) pa_nil)) rfl))), ?_⟩
    refine q_fld (ev_var rfl) (ev_var rfl) hm T.cl_DelayLine T.n_DelayLine_frames (show 0 < 1000 by decide) fun H1 e1 => ?_
    refine s_fldU (eu_tupN (el_mapR1 (n := n) (zv n) (zv_len n) (ea_cons (ev_var rfl) ea_nil) (by omega) (fun _ => rfl) fun i y H3 e3 hy => by rw [zv_get hy]; exact ev_c)) (ev_var rfl) upd_same T.cl_DelayLine T.n_DelayLine_past (show 1 < 1000 by decide) fun t H2 ht e2 h2 => ?_
    have ntm : t ≠ m := fun q => by rw [q, upd_same] at ht; cases ht
    rw [upd_ne ntm] at ht
    refine k t _ ⟨fun b o hb nb => ?_, fresh_back e1 ht, ntm, by rw [upd_ne ntm]; exact h2⟩ ?_
    · rw [upd_ne nb]
      exact e2 _ _ (by rw [upd_ne nb]; exact e1 _ _ hb)
    · rw [upd_same]
      exact congrArg (fun z => some (HO.ins T.c_DelayLine dx z)) (pf_tl n_fr_pa)
def sp_Ahead_init (T : Tx K mg) : Sp := fun vs H Q _ => ∃ (m dx : Addr) (n : Nat) (c : Int), vs = [.ref m, .int n, .int c] ∧ H m = some (.ins T.c_Ahead dx []) ∧ n ≤ 1000 ∧ ∀ t H', Past0 H H' m n t → H' m = some (.ins T.c_Ahead dx (fs_ahead n c t)) → Q .non H'
theorem ok_Ahead_init (T : Tx K mg) : FnOk P w K mg base CX0 1 T.a_Ahead_init T.d_Ahead_init P_Ahead_init (sp_Ahead_init T) := by
  refine T.F_Ahead_init.ok sc_Ahead_init (fun vs H Q E h => ?_) (fun cdv A outer s H vs Q E hr h => ?_)
  · obtain ⟨m, dx, n, c, rfl, _⟩ := h
    rfl
  · obtain ⟨m, dx, n, c, rfl, hm, hn, k⟩ := h
    refine ⟨_, (pss_cons (ps_fld (pv 0) (pv 1) rfl) (pss_cons (ps_fld (pv 0) (pv 2) rfl) (pss_one (ps_fld (pv 0) (pe_callTy call_tuple_of (by rfl) T.z_tuple (by decide +kernel) (pa_cons (pe_lc (own := [("_", 3)]) (g := (gName 3)) (tt := tYes) (te := (tC (.int 0))) rfl sc_Ahead_init.nd (pi_range1 (by rfl) T.z_range (pa_cons (pv 1) pa_nil)) (blkOk_by (N := N_Ahead_init) (sc := defScope s_Ahead_init) (by decide +kernel)) (fun _ _ _ _ _ => (pg_name (i := 3) sc_Ahead_init.nd rfl (.inl rfl))) (fun _ _ _ _ _ => pts_nil) (fun _ _ _ _ _ => pe_int)) pa_nil)) rfl)))), ?_⟩
    refine q_fld (ev_var rfl) (ev_var rfl) hm T.cl_Ahead T.n_Ahead_frames (show 0 < 1000 by decide) fun H1 e1 => ?_
    refine q_fld (ev_var rfl) (ev_var rfl) upd_same T.cl_Ahead T.n_Ahead_ceiling (show 1 < 1000 by decide) fun H1b e1b => ?_
    refine s_fldU (eu_tupN (el_mapR1 (n := n) (zv n) (zv_len n) (ea_cons (ev_var rfl) ea_nil) (by omega) (fun _ => rfl) fun i y H3 e3 hy => by rw [zv_get hy]; exact ev_c)) (ev_var rfl) upd_same T.cl_Ahead T.n_Ahead_past (by rw [show putF "ceiling" (V.int c) (putF "frames" (V.int n) []) = ([("frames", V.int n), ("ceiling", V.int c)] : List (Str × V)) from pf_tl n_fr_ce]; show 2 < 1000; decide) fun t H2 ht e2 h2 => ?_
    have ntm : t ≠ m := fun q => by rw [q, upd_same] at ht; cases ht
    rw [upd_ne ntm] at ht
    have ht := fresh_back e1b ht
    rw [upd_ne ntm] at ht
    refine k t _ ⟨fun b o hb nb => ?_, fresh_back e1 ht, ntm, by rw [upd_ne ntm]; exact h2⟩ ?_
    · rw [upd_ne nb]
      exact e2 _ _ (by rw [upd_ne nb]; exact e1b _ _ (by rw [upd_ne nb]; exact e1 _ _ hb))
    · rw [upd_same]
      refine congrArg (fun z => some (HO.ins T.c_Ahead dx z)) ?_
      rw [show putF "ceiling" (V.int c) (putF "frames" (V.int n) []) = ([("frames", V.int n), ("ceiling", V.int c)] : List (Str × V)) from pf_tl n_fr_ce]
      exact (pf_tl n_fr_pa).trans (congrArg _ (pf_tl n_ce_pa))
def sp_Delay_init (T : Tx K mg) : Sp := fun vs H Q _ => ∃ (m dx : Addr) (n : Nat) (fb own : Int), vs = [.ref m, .int n, .int fb, .int own] ∧ H m = some (.ins T.c_Delay dx []) ∧ n ≤ 1000 ∧ ∀ t H', Past0 H H' m n t → H' m = some (.ins T.c_Delay dx (fs_delay n fb own t)) → Q .non H'
theorem ok_Delay_init (T : Tx K mg) : FnOk P w K mg base CX0 1 T.a_Delay_init T.d_Delay_init P_Delay_init (sp_Delay_init T) := by
  refine T.F_Delay_init.ok sc_Delay_init (fun vs H Q E h => ?_) (fun cdv A outer s H vs Q E hr h => ?_)
  · obtain ⟨m, dx, n, fb, own, rfl, _⟩ := h
    rfl
  · obtain ⟨m, dx, n, fb, own, rfl, hm, hn, k⟩ := h
    refine ⟨_, (pss_cons (ps_fld (pv 0) (pv 1) rfl) (pss_cons (ps_fld (pv 0) (pv 2) rfl) (pss_cons (ps_fld (pv 0) (pv 3) rfl) (pss_one (ps_fld (pv 0) (pe_callTy call_tuple_of (by rfl) T.z_tuple (by decide +kernel) (pa_cons (pe_lc (own := [("_", 4)]) (g := (gName 4)) (tt := tYes) (te := (tC (.int 0))) rfl sc_Delay_init.nd (pi_range1 (by rfl) T.z_range (pa_cons (pv 1) pa_nil)) (blkOk_by (N := N_Delay_init) (sc := defScope s_Delay_init) (by decide +kernel)) (fun _ _ _ _ _ => (pg_name (i := 4) sc_Delay_init.nd rfl (.inl rfl))) (fun _ _ _ _ _ => pts_nil) (fun _ _ _ _ _ => pe_int)) pa_nil)) rfl))))), ?_⟩
    have z2 : putF "feedback" (V.int fb) (putF "frames" (V.int n) []) = ([("frames", V.int n), ("feedback", V.int fb)] : List (Str × V)) := pf_tl n_fr_fe
    have z3 : putF "own" (V.int own) ([("frames", V.int n), ("feedback", V.int fb)] : List (Str × V)) = ([("frames", V.int n), ("feedback", V.int fb), ("own", V.int own)] : List (Str × V)) := (pf_tl n_fr_ow).trans (congrArg _ (pf_tl n_fe_ow))
    refine q_fld (ev_var rfl) (ev_var rfl) hm T.cl_Delay T.n_Delay_frames (show 0 < 1000 by decide) fun H1 e1 => ?_
    refine q_fld (ev_var rfl) (ev_var rfl) upd_same T.cl_Delay T.n_Delay_feedback (show 1 < 1000 by decide) fun H1b e1b => ?_
    refine q_fld (ev_var rfl) (ev_var rfl) upd_same T.cl_Delay T.n_Delay_own (by rw [z2]; show 2 < 1000; decide) fun H1c e1c => ?_
    refine s_fldU (eu_tupN (el_mapR1 (n := n) (zv n) (zv_len n) (ea_cons (ev_var rfl) ea_nil) (by omega) (fun _ => rfl) fun i y H3 e3 hy => by rw [zv_get hy]; exact ev_c)) (ev_var rfl) upd_same T.cl_Delay T.n_Delay_past (by rw [z2, z3]; show 3 < 1000; decide) fun t H2 ht e2 h2 => ?_
    have ntm : t ≠ m := fun q => by rw [q, upd_same] at ht; cases ht
    rw [upd_ne ntm] at ht
    have ht := fresh_back e1c ht
    rw [upd_ne ntm] at ht
    have ht := fresh_back e1b ht
    rw [upd_ne ntm] at ht
    refine k t _ ⟨fun b o hb nb => ?_, fresh_back e1 ht, ntm, by rw [upd_ne ntm]; exact h2⟩ ?_
    · rw [upd_ne nb]
      exact e2 _ _ (by rw [upd_ne nb]; exact e1c _ _ (by rw [upd_ne nb]; exact e1b _ _ (by rw [upd_ne nb]; exact e1 _ _ hb)))
    · rw [upd_same, z2, z3]
      exact congrArg (fun z => some (HO.ins T.c_Delay dx z)) ((pf_tl n_fr_pa).trans (congrArg _ ((pf_tl n_fe_pa).trans (congrArg _ (pf_tl n_ow_pa)))))
def sp_Gain_init (T : Tx K mg) : Sp := fun vs H Q _ => ∃ (m dx l : Addr), vs = [.ref m, .ref l] ∧ H m = some (.ins T.c_Gain dx []) ∧ ∀ H', (∀ b o, H b = some o → b ≠ m → H' b = some o) → H' m = some (.ins T.c_Gain dx (fs_gain l)) → Q .non H'
theorem ok_Gain_init (T : Tx K mg) : FnOk P w K mg base CX0 1 T.a_Gain_init T.d_Gain_init P_Gain_init (sp_Gain_init T) := by
  refine T.F_Gain_init.ok sc_Gain_init (fun vs H Q E h => ?_) (fun cdv A outer s H vs Q E hr h => ?_)
  · obtain ⟨m, dx, l, rfl, _⟩ := h
    rfl
  · obtain ⟨m, dx, l, rfl, hm, k⟩ := h
    refine ⟨_, (pss_one (ps_fld (pv 0) (pv 1) rfl)), ?_⟩
    refine s_fld (ev_var rfl) (ev_var rfl) hm T.cl_Gain T.n_Gain_points (show 0 < 1000 by decide) fun H1 e1 => ?_
    exact k _ (fun b o hb nb => by rw [upd_ne nb]; exact e1 _ _ hb) upd_same
def sp_Smooth_init (T : Tx K mg) : Sp := fun vs H Q _ => ∃ (m dx : Addr) (n : Int), vs = [.ref m, .int n] ∧ H m = some (.ins T.c_Smooth dx []) ∧ ∀ H', (∀ b o, H b = some o → b ≠ m → H' b = some o) → H' m = some (.ins T.c_Smooth dx (fs_smooth n 0)) → Q .non H'
theorem ok_Smooth_init (T : Tx K mg) : FnOk P w K mg base CX0 1 T.a_Smooth_init T.d_Smooth_init P_Smooth_init (sp_Smooth_init T) := by
  refine T.F_Smooth_init.ok sc_Smooth_init (fun vs H Q E h => ?_) (fun cdv A outer s H vs Q E hr h => ?_)
  · obtain ⟨m, dx, n, rfl, _⟩ := h
    rfl
  · obtain ⟨m, dx, n, rfl, hm, k⟩ := h
    refine ⟨_, (pss_cons (ps_fld (pv 0) (pv 1) rfl) (pss_one (ps_fld (pv 0) pe_int rfl))), ?_⟩
    refine q_fld (ev_var rfl) (ev_var rfl) hm T.cl_Smooth T.n_Smooth_k (show 0 < 1000 by decide) fun H1 e1 => ?_
    refine s_fld ev_c (ev_var rfl) upd_same T.cl_Smooth T.n_Smooth_value (show 1 < 1000 by decide) fun H2 e2 => ?_
    refine k _ (fun b o hb nb => by rw [upd_ne nb]; exact e2 _ _ (by rw [upd_ne nb]; exact e1 _ _ hb)) ?_
    rw [upd_same]
    exact congrArg (fun z => some (HO.ins T.c_Smooth dx z)) (pf_tl n_k_va)

/-! ### state -/
def isLine (p : Pt) : Prop := ∃ n, p = .line n
def isPass (p : Pt) : Prop := p = .pass
def isGain (p : Pt) : Prop := ∃ ps, p = .gain ps
def isDelay (p : Pt) : Prop := ∃ n fb own, p = .delay n fb own
def isSmooth (p : Pt) : Prop := ∃ n, p = .smooth n
def isAhead (p : Pt) : Prop := ∃ n c, p = .ahead n c
def spState (T : Tx K mg) (ok : Pt → Prop) : Sp := fun vs H Q _ => ∃ (ts : List Ent) (F : Hp) (m : Addr) (p : Pt) (st : List Int), ok p ∧ vs = [.ref m] ∧ Ex F H ∧ InstAt T ts F H m p st ∧
  ∀ t F' H', Stp S0 F H F' H' → F' t = some (.tup (st.map V.int)) → Q (.ref t) H'
abbrev sp_DelayLine_state (T : Tx K mg) : Sp := spState T isLine
abbrev sp_Pass_state (T : Tx K mg) : Sp := spState T isPass
abbrev sp_Gain_state (T : Tx K mg) : Sp := spState T isGain
abbrev sp_Delay_state (T : Tx K mg) : Sp := spState T isDelay
abbrev sp_Smooth_state (T : Tx K mg) : Sp := spState T isSmooth
abbrev sp_Ahead_state (T : Tx K mg) : Sp := spState T isAhead
theorem ok_DelayLine_state (T : Tx K mg) : FnOk P w K mg base CX0 1 T.a_DelayLine_state T.d_DelayLine_state P_DelayLine_state (sp_DelayLine_state T) := by
  refine T.F_DelayLine_state.ok sc_DelayLine_state (fun vs H Q E h => ?_) (fun cdv A outer s H vs Q E hr h => ?_)
  · obtain ⟨ts, F, m, p, st, _, rfl, _⟩ := h
    rfl
  · obtain ⟨ts, F, m, p, st, ⟨n, rfl⟩, rfl, hF, ⟨dx, t, hm, ht⟩, k⟩ := h
    refine ⟨_, (pss_one (ps_ret (pe_fld (pv 0) rfl))), ?_⟩
    exact s_ret (ev_fld (ev_var rfl) hm T.cl_DelayLine T.n_DelayLine_past fl_past) fun H1 e1 => k t F H1 ((Stp.refl hF).pure e1) ht
theorem ok_Delay_state (T : Tx K mg) : FnOk P w K mg base CX0 1 T.a_Delay_state T.d_Delay_state P_Delay_state (sp_Delay_state T) := by
  refine T.F_Delay_state.ok sc_Delay_state (fun vs H Q E h => ?_) (fun cdv A outer s H vs Q E hr h => ?_)
  · obtain ⟨ts, F, m, p, st, _, rfl, _⟩ := h
    rfl
  · obtain ⟨ts, F, m, p, st, ⟨n, fb, own, rfl⟩, rfl, hF, ⟨dx, t, hm, ht⟩, k⟩ := h
    refine ⟨_, (pss_one (ps_ret (pe_fld (pv 0) rfl))), ?_⟩
    exact s_ret (ev_fld (ev_var rfl) hm T.cl_Delay T.n_Delay_past fd_past) fun H1 e1 => k t F H1 ((Stp.refl hF).pure e1) ht
theorem ok_Ahead_state (T : Tx K mg) : FnOk P w K mg base CX0 1 T.a_Ahead_state T.d_Ahead_state P_Ahead_state (sp_Ahead_state T) := by
  refine T.F_Ahead_state.ok sc_Ahead_state (fun vs H Q E h => ?_) (fun cdv A outer s H vs Q E hr h => ?_)
  · obtain ⟨ts, F, m, p, st, _, rfl, _⟩ := h
    rfl
  · obtain ⟨ts, F, m, p, st, ⟨n, c, rfl⟩, rfl, hF, ⟨dx, t, hm, ht⟩, k⟩ := h
    refine ⟨_, (pss_one (ps_ret (pe_fld (pv 0) rfl))), ?_⟩
    exact s_ret (ev_fld (ev_var rfl) hm T.cl_Ahead T.n_Ahead_past fa_past) fun H1 e1 => k t F H1 ((Stp.refl hF).pure e1) ht
theorem stp_tup {F H H1 : Hp} {t : Addr} {xs : List V} (hF : Ex F H) (ht : H t = none) (e1 : Ex H H1) (h1 : H1 t = some (.tup xs)) : Stp S0 F H (upd F t (.tup xs)) H1 := ((Stp.refl hF).pure e1).freeze ht h1
theorem ok_Pass_state (T : Tx K mg) : FnOk P w K mg base CX0 1 T.a_Pass_state T.d_Pass_state P_Pass_state (sp_Pass_state T) := by
  refine T.F_Pass_state.ok sc_Pass_state (fun vs H Q E h => ?_) (fun cdv A outer s H vs Q E hr h => ?_)
  · obtain ⟨ts, F, m, p, st, _, rfl, _⟩ := h
    rfl
  · obtain ⟨ts, F, m, p, st, rfl, rfl, hF, ⟨rfl, dx, hm⟩, k⟩ := h
    refine ⟨_, (pss_one (ps_ret (pe_tup pa_nil))), ?_⟩
    exact s_retU (eu_tup ea_nil (show 0 ≤ 100000 by decide)) fun t H1 ht e1 h1 => k t _ H1 (stp_tup hF ht e1 h1) upd_same
theorem ok_Gain_state (T : Tx K mg) : FnOk P w K mg base CX0 1 T.a_Gain_state T.d_Gain_state P_Gain_state (sp_Gain_state T) := by
  refine T.F_Gain_state.ok sc_Gain_state (fun vs H Q E h => ?_) (fun cdv A outer s H vs Q E hr h => ?_)
  · obtain ⟨ts, F, m, p, st, _, rfl, _⟩ := h
    rfl
  · obtain ⟨ts, F, m, p, st, ⟨ps, rfl⟩, rfl, hF, ⟨rfl, dx, l, hm, hl⟩, k⟩ := h
    refine ⟨_, (pss_one (ps_ret (pe_tup pa_nil))), ?_⟩
    exact s_retU (eu_tup ea_nil (show 0 ≤ 100000 by decide)) fun t H1 ht e1 h1 => k t _ H1 (stp_tup hF ht e1 h1) upd_same
theorem ok_Smooth_state (T : Tx K mg) : FnOk P w K mg base CX0 1 T.a_Smooth_state T.d_Smooth_state P_Smooth_state (sp_Smooth_state T) := by
  refine T.F_Smooth_state.ok sc_Smooth_state (fun vs H Q E h => ?_) (fun cdv A outer s H vs Q E hr h => ?_)
  · obtain ⟨ts, F, m, p, st, _, rfl, _⟩ := h
    rfl
  · obtain ⟨ts, F, m, p, st, ⟨n, rfl⟩, rfl, hF, ⟨dx, v, rfl, hm⟩, k⟩ := h
    refine ⟨_, (pss_one (ps_ret (pe_tup (pa_cons (pe_fld (pv 0) rfl) pa_nil)))), ?_⟩
    exact s_retU (eu_tup (ea_cons (ev_fld (ev_var rfl) hm T.cl_Smooth T.n_Smooth_value fs_value) ea_nil) (show 1 ≤ 100000 by decide)) fun t H1 ht e1 h1 => k t _ H1 (stp_tup hF ht e1 h1) upd_same

/-! ### restore -/
def spRestore (T : Tx K mg) (ok : Pt → Prop) : Sp := fun vs H Q _ => ∃ (ts : List Ent) (F : Hp) (m t : Addr) (p : Pt) (st0 st : List Int), ok p ∧ vs = [.ref m, .ref t] ∧ Ex F H ∧ F m = none ∧ InstAt T ts F H m p st0 ∧ StOk p st ∧ st.length ≤ 1000 ∧ F t = some (.tup (st.map V.int)) ∧
  ∀ H', Stp (· = m) F H F H' → InstAt T ts F H' m p st → Q .non H'
abbrev sp_DelayLine_restore (T : Tx K mg) : Sp := spRestore T isLine
abbrev sp_Pass_restore (T : Tx K mg) : Sp := spRestore T isPass
abbrev sp_Gain_restore (T : Tx K mg) : Sp := spRestore T isGain
abbrev sp_Delay_restore (T : Tx K mg) : Sp := spRestore T isDelay
abbrev sp_Smooth_restore (T : Tx K mg) : Sp := spRestore T isSmooth
abbrev sp_Ahead_restore (T : Tx K mg) : Sp := spRestore T isAhead
theorem ok_DelayLine_restore (T : Tx K mg) : FnOk P w K mg base CX0 4 T.a_DelayLine_restore T.d_DelayLine_restore P_DelayLine_restore (sp_DelayLine_restore T) := by
  refine T.F_DelayLine_restore.ok sc_DelayLine_restore (fun vs H Q E h => ?_) (fun cdv A outer s H vs Q E hr h => ?_)
  · obtain ⟨ts, F, m, t, p, st0, st, _, rfl, _⟩ := h
    rfl
  · obtain ⟨ts, F, m, t, p, st0, st, ⟨n, rfl⟩, rfl, hF, hFm, ⟨dx, t0, hm, ht0⟩, S, hl, ht, k⟩ := h
    refine ⟨_, (pss_cons (ps_if (pt_not (pt_val (pe_call (ok_is_past T) (hr.mono (by decide)) (by rfl) T.g_is_past T.F_is_past.kp T.b_is_past .nil pass0 (pa_cons (pv 1) (pa_cons (pe_fld (pv 0) rfl) pa_nil))))) (pss_one ps_never) pss_nil) (pss_one (ps_fld (pv 0) (pv 1) rfl))), ?_⟩
    have hn : n = st.length := S.len.symm
    subst hn
    refine q_when (et_not (et_B (ev_call0 (ea_cons (ev_var rfl) (ea_cons (ev_fld (ev_var rfl) hm T.cl_DelayLine T.n_DelayLine_frames fl_frames) ea_nil)) (v_is_past T (hF _ _ ht) S.smp hl)))) (fun hb => absurd hb (by decide)) fun _ H1 e1 => ?_
    refine s_fld (ev_var rfl) (ev_var rfl) (e1 _ _ hm) T.cl_DelayLine T.n_DelayLine_past (show 2 < 1000 by decide) fun H2 e2 => ?_
    rw [fl_put]
    exact k _ (((Stp.refl hF).pure (e1.trans e2)).mut (.inl rfl) hFm) ⟨dx, t, upd_same, ht⟩
theorem ok_Delay_restore (T : Tx K mg) : FnOk P w K mg base CX0 4 T.a_Delay_restore T.d_Delay_restore P_Delay_restore (sp_Delay_restore T) := by
  refine T.F_Delay_restore.ok sc_Delay_restore (fun vs H Q E h => ?_) (fun cdv A outer s H vs Q E hr h => ?_)
  · obtain ⟨ts, F, m, t, p, st0, st, _, rfl, _⟩ := h
    rfl
  · obtain ⟨ts, F, m, t, p, st0, st, ⟨n, fb, own, rfl⟩, rfl, hF, hFm, ⟨dx, t0, hm, ht0⟩, S, hl, ht, k⟩ := h
    refine ⟨_, (pss_cons (ps_if (pt_not (pt_val (pe_call (ok_is_past T) (hr.mono (by decide)) (by rfl) T.g_is_past T.F_is_past.kp T.b_is_past .nil pass0 (pa_cons (pv 1) (pa_cons (pe_fld (pv 0) rfl) pa_nil))))) (pss_one ps_never) pss_nil) (pss_one (ps_fld (pv 0) (pv 1) rfl))), ?_⟩
    have hn : n = st.length := S.len.symm
    subst hn
    refine q_when (et_not (et_B (ev_call0 (ea_cons (ev_var rfl) (ea_cons (ev_fld (ev_var rfl) hm T.cl_Delay T.n_Delay_frames fd_frames) ea_nil)) (v_is_past T (hF _ _ ht) S.smp hl)))) (fun hb => absurd hb (by decide)) fun _ H1 e1 => ?_
    refine s_fld (ev_var rfl) (ev_var rfl) (e1 _ _ hm) T.cl_Delay T.n_Delay_past (show 4 < 1000 by decide) fun H2 e2 => ?_
    rw [fd_put]
    exact k _ (((Stp.refl hF).pure (e1.trans e2)).mut (.inl rfl) hFm) ⟨dx, t, upd_same, ht⟩
theorem ok_Ahead_restore (T : Tx K mg) : FnOk P w K mg base CX0 4 T.a_Ahead_restore T.d_Ahead_restore P_Ahead_restore (sp_Ahead_restore T) := by
  refine T.F_Ahead_restore.ok sc_Ahead_restore (fun vs H Q E h => ?_) (fun cdv A outer s H vs Q E hr h => ?_)
  · obtain ⟨ts, F, m, t, p, st0, st, _, rfl, _⟩ := h
    rfl
  · obtain ⟨ts, F, m, t, p, st0, st, ⟨n, c, rfl⟩, rfl, hF, hFm, ⟨dx, t0, hm, ht0⟩, S, hl, ht, k⟩ := h
    refine ⟨_, (pss_cons (ps_if (pt_not (pt_val (pe_call (ok_is_past T) (hr.mono (by decide)) (by rfl) T.g_is_past T.F_is_past.kp T.b_is_past .nil pass0 (pa_cons (pv 1) (pa_cons (pe_fld (pv 0) rfl) pa_nil))))) (pss_one ps_never) pss_nil) (pss_one (ps_fld (pv 0) (pv 1) rfl))), ?_⟩
    have hn : n = st.length := S.len.symm
    subst hn
    refine q_when (et_not (et_B (ev_call0 (ea_cons (ev_var rfl) (ea_cons (ev_fld (ev_var rfl) hm T.cl_Ahead T.n_Ahead_frames fa_frames) ea_nil)) (v_is_past T (hF _ _ ht) S.smp hl)))) (fun hb => absurd hb (by decide)) fun _ H1 e1 => ?_
    refine s_fld (ev_var rfl) (ev_var rfl) (e1 _ _ hm) T.cl_Ahead T.n_Ahead_past (show 3 < 1000 by decide) fun H2 e2 => ?_
    rw [fa_put]
    exact k _ (((Stp.refl hF).pure (e1.trans e2)).mut (.inl rfl) hFm) ⟨dx, t, upd_same, ht⟩
theorem ok_Smooth_restore (T : Tx K mg) : FnOk P w K mg base CX0 4 T.a_Smooth_restore T.d_Smooth_restore P_Smooth_restore (sp_Smooth_restore T) := by
  refine T.F_Smooth_restore.ok sc_Smooth_restore (fun vs H Q E h => ?_) (fun cdv A outer s H vs Q E hr h => ?_)
  · obtain ⟨ts, F, m, t, p, st0, st, _, rfl, _⟩ := h
    rfl
  · obtain ⟨ts, F, m, t, p, st0, st, ⟨n, rfl⟩, rfl, hF, hFm, ⟨dx, v, hv, hm⟩, S, hl, ht, k⟩ := h
    refine ⟨_, (pss_cons (ps_if (pt_not (pt_val (pe_call (ok_is_past T) (hr.mono (by decide)) (by rfl) T.g_is_past T.F_is_past.kp T.b_is_past .nil pass0 (pa_cons (pv 1) (pa_cons pe_int pa_nil))))) (pss_one ps_never) pss_nil) (pss_one (ps_fld (pv 0) (pe_ix ix_seq (pv 1) pe_int (fun _ _ => rfl)) rfl))), ?_⟩
    obtain ⟨y, rfl⟩ : ∃ y, st = [y] := by
      have := S.len
      match st, this with
      | [y], _ => exact ⟨y, rfl⟩
    refine q_when (et_not (et_B (ev_call0 (ea_cons (ev_var rfl) (ea_cons ev_c ea_nil)) (v_is_past T (xs := [y]) (hF _ _ ht) S.smp (show 1 ≤ 1000 by decide))))) (fun hb => absurd hb (by decide)) fun _ H1 e1 => ?_
    refine s_fld (ev_op (ev_var rfl) ev_c (rv_iT (st_of (e1 _ _ (hF _ _ ht))) rfl)) (ev_var rfl) (e1 _ _ hm) T.cl_Smooth T.n_Smooth_value (show 2 < 1000 by decide) fun H2 e2 => ?_
    rw [fs_put]
    exact k _ (((Stp.refl hF).pure (e1.trans e2)).mut (.inl rfl) hFm) ⟨dx, y, rfl, upd_same⟩
theorem rv_neD {H : Hp} {a b : Addr} {xs : List Int} (ha : H a = some (.tup (xs.map V.int))) (hb : H b = some (.tup (xs.map V.int))) (hx : xs = []) : RV (rNeD K) (.ref a) (.ref b) H (.bl false) := fun H1 e Q q => by
  subst hx
  exact ⟨.tuple [], .tuple [], .tup (st_of (e _ _ ha)) .nil, .tup (st_of (e _ _ hb)) .nil, by decide +kernel, by decide +kernel, q H1 (Ex.refl H1)⟩
theorem ok_Pass_restore (T : Tx K mg) : FnOk P w K mg base CX0 1 T.a_Pass_restore T.d_Pass_restore P_Pass_restore (sp_Pass_restore T) := by
  refine T.F_Pass_restore.ok sc_Pass_restore (fun vs H Q E h => ?_) (fun cdv A outer s H vs Q E hr h => ?_)
  · obtain ⟨ts, F, m, t, p, st0, st, _, rfl, _⟩ := h
    rfl
  · obtain ⟨ts, F, m, t, p, st0, st, rfl, rfl, hF, hFm, hI, S, hl, ht, k⟩ := h
    refine ⟨_, (pss_one (ps_if (pt_cmpR (op_neD hr.units) (pv 1) (pe_tup pa_nil) (nomark _)) (pss_one ps_never) pss_nil)), ?_⟩
    have hs : st = [] := List.eq_nil_of_length_eq_zero S.len
    refine s_when (et_test (ev_opU (xs := ([] : List Int).map V.int) (ev_var rfl) (eu_tup ea_nil (show 0 ≤ 100000 by decide)) fun b H1 hb e1 => rv_neD (e1 _ _ (hF _ _ (by rw [hs] at ht; exact ht))) hb rfl)) (fun hb => absurd hb (by decide)) fun _ H1 e1 => ?_
    subst hs
    obtain ⟨z, dx, hm⟩ := hI
    exact k _ ((Stp.refl hF).pure e1) ⟨rfl, dx, e1 _ _ hm⟩
theorem ok_Gain_restore (T : Tx K mg) : FnOk P w K mg base CX0 1 T.a_Gain_restore T.d_Gain_restore P_Gain_restore (sp_Gain_restore T) := by
  refine T.F_Gain_restore.ok sc_Gain_restore (fun vs H Q E h => ?_) (fun cdv A outer s H vs Q E hr h => ?_)
  · obtain ⟨ts, F, m, t, p, st0, st, _, rfl, _⟩ := h
    rfl
  · obtain ⟨ts, F, m, t, p, st0, st, ⟨ps, rfl⟩, rfl, hF, hFm, hI, S, hl, ht, k⟩ := h
    refine ⟨_, (pss_one (ps_if (pt_cmpR (op_neD hr.units) (pv 1) (pe_tup pa_nil) (nomark _)) (pss_one ps_never) pss_nil)), ?_⟩
    have hs : st = [] := List.eq_nil_of_length_eq_zero S.len
    refine s_when (et_test (ev_opU (xs := ([] : List Int).map V.int) (ev_var rfl) (eu_tup ea_nil (show 0 ≤ 100000 by decide)) fun b H1 hb e1 => rv_neD (e1 _ _ (hF _ _ (by rw [hs] at ht; exact ht))) hb rfl)) (fun hb => absurd hb (by decide)) fun _ H1 e1 => ?_
    subst hs
    obtain ⟨z, dx, l, hm, hl⟩ := hI
    exact k _ ((Stp.refl hF).pure e1) ⟨rfl, dx, l, e1 _ _ hm, hl⟩
end K37

/-! K37, part 8: process, effect_of. -/
namespace K37
open PySem L2 Evl
variable {P : Program} {w : World} {K : PySem.W.Frag} {mg : Str → Option Value} {base : Heap}

section
variable {σ : L2.St} {H H' : Hp} {ta tb tc te tl tx : TE} {t u : TT} {x y z v : V} {D : Ends} {tu tz : TS} {g : TG}
theorem q_fldaug {a C dx : Addr} {fs : List (Str × V)} {f : Str} {i j : Int} (ha : Ev ta σ H (.ref a)) (ho : H a = some (.ins C dx fs)) (hc : Cls K C) (hn : NoAttr K C f) (hk : fs.lookup f = some (.int i)) (hv : Ev tx σ H (.int j)) (hl : fs.length < 1000)
    (k : ∀ H1, Ex H H1 → tz D σ (upd H1 a (.ins C dx (putF f (.int (i + j)) fs)))) : tSeq (sFldAug K ta tx rAdd f) tz D σ H :=
  ha H (Ex.refl H) _ fun H1 e1 => ⟨a, C, dx, fs, .int i, rfl, e1 _ _ ho, hc, hn, hk, hv H1 e1 _ fun H2 e2 => ⟨i, j, rfl, rfl, dx, fs, e2 _ _ (e1 _ _ ho), hl, k H2 (e1.trans e2)⟩⟩
theorem ev_maxN {l : List Int} (h : EvL te σ H ((l.map absI).map V.int)) (hl : l ≠ []) : Ev (tCB (rMax K) (tCons te tNil)) σ H (.int (peakI l)) := fun H1 e Q q =>
  h H1 e _ fun a H2 ha e2 hx => ⟨a, l.map absI, rfl, sq_of hx, by rw [List.length_map]; exact List.length_pos_iff.mpr hl, fun m h1 h2 => by
    rw [peak_is hl h1 h2]
    exact q H2 e2⟩
theorem s_retM {C : Addr} {sp : Sp} {vs : List V} {E : XK} {ta : TA} (h : EvA ta σ H vs) (hs : ∀ H1 x dx, Ex H H1 → H1 x = none → H1 dx = none → dx ≠ x → sp (.ref x :: vs) (upd (upd H1 dx (.own x)) x (.ins C dx [])) (fun v H2 => v = .non ∧ D.rt (.ref x) H2) E) :
    tRet (tMake C sp [] E ta) D σ H := h H (Ex.refl H) _ fun H1 e x dx hx hdx nd => by
  show sp (.ref x :: (vs ++ [])) _ _ E
  rw [List.append_nil]
  exact hs H1 x dx e hx hdx nd
end
theorem s_retMC2 {C : Addr} {sp sp1 : Sp} {vs : List V} {E E1 : XK} {ta : TA} (h : EvA ta σ H vs)
    (hs : ∀ H1, Ex H H1 → sp1 vs H1 (fun v H2 => ∀ x dx, H2 x = none → H2 dx = none → dx ≠ x → sp [.ref x, v] (upd (upd H2 dx (.own x)) x (.ins C dx [])) (fun u H3 => u = .non ∧ D.rt (.ref x) H3) E) E1) :
    tRet (tMake C sp [] E (tCons (tCall sp1 [] E1 ta) tNil)) D σ H := h H (Ex.refl H) _ fun H1 e => by
  show sp1 (vs ++ []) H1 _ E1
  rw [List.append_nil]
  exact hs H1 e
theorem map_get {xs : List Int} {i : Nat} {v : V} (h : (xs.map V.int)[i]? = some v) : ∃ x, v = .int x ∧ xs[i]? = some x := by
  rw [List.getElem?_map] at h
  cases q : xs[i]? with
  | none => rw [q] at h; cases h
  | some x => rw [q] at h; exact ⟨x, (Option.some.inj h).symm, rfl⟩
theorem cut_dropI {xs : List Int} {n : Nat} (h : n ≤ xs.length) : cutV (xs.map V.int) (some (n : Int)) none = (xs.drop n).map V.int := by
  rw [cut_drop (by rw [List.length_map]; exact h), List.map_drop]
theorem cut_takeI {xs : List Int} {n : Nat} (h : n ≤ xs.length) : cutV (xs.map V.int) none (some (n : Int)) = (xs.take n).map V.int := by
  rw [cut_take (by rw [List.length_map]; exact h), List.map_take]
theorem cut_midI {xs : List Int} {n m : Nat} : cutV (xs.map V.int) (some (n : Int)) (some (m : Int)) = ((xs.drop n).take (m - n)).map V.int := by
  rw [cut_mid, List.map_take, List.map_drop]

def spProc (T : Tx K mg) (ok : Pt → Prop) (args : Addr → Addr → Int → List V) : Sp := fun vs H Q _ => ∃ (ts : List Ent) (F : Hp) (m a : Addr) (xs : List Int) (mo : Int) (p : Pt) (st : List Int), ok p ∧ vs = args m a mo ∧ Ex F H ∧ F m = none ∧ InstAt T ts F H m p st ∧ TsOk ts ∧ PtOk p ∧ StOk p st ∧
  F a = some (.lst (xs.map V.int)) ∧ (∀ x ∈ xs, Smp x) ∧ xs.length ≤ 1000 ∧
  ∀ q F' H', Stp (· = m) F H F' H' → InstAt T ts F' H' m p (runP ts p st mo xs).1 → F' q = some (.lst ((runP ts p st mo xs).2.map V.int)) → Q (.ref q) H'
def arg2 : Addr → Addr → Int → List V := fun m a _ => [.ref m, .ref a]
def arg3 : Addr → Addr → Int → List V := fun m a mo => [.ref m, .ref a, .int mo]
abbrev sp_DelayLine_process (T : Tx K mg) : Sp := spProc T isLine arg2
abbrev sp_Pass_process (T : Tx K mg) : Sp := spProc T isPass arg3
abbrev sp_Gain_process (T : Tx K mg) : Sp := spProc T isGain arg3
abbrev sp_Delay_process (T : Tx K mg) : Sp := spProc T isDelay arg3
abbrev sp_Smooth_process (T : Tx K mg) : Sp := spProc T isSmooth arg3
abbrev sp_Ahead_process (T : Tx K mg) : Sp := spProc T isAhead arg3

theorem ok_DelayLine_process (T : Tx K mg) : FnOk P w K mg base CX0 1 T.a_DelayLine_process T.d_DelayLine_process P_DelayLine_process (sp_DelayLine_process T) := by
  refine T.F_DelayLine_process.ok sc_DelayLine_process (fun vs H Q E h => ?_) (fun cdv A outer s H vs Q E hr h => ?_)
  · obtain ⟨ts, F, m, a, xs, mo, p, st, _, rfl, _⟩ := h
    rfl
  · obtain ⟨ts, F, m, a, xs, mo, p, st, ⟨n, rfl⟩, rfl, hF, hFm, ⟨dx, t0, hm, ht0⟩, hts, hp, hst, ha, hxs, hlen, k⟩ := h
    refine ⟨_, (pss_cons (ps_set (i := 2) sc_DelayLine_process.nd rfl (.inl rfl) (pe_op op_cat (pe_callTy call_list_of (by rfl) T.z_list (by decide +kernel) (pa_cons (pe_fld (pv 0) rfl) pa_nil)) (pe_callTy call_list_of (by rfl) T.z_list (by decide +kernel) (pa_cons (pv 1) pa_nil)))) (pss_cons (ps_fld (pv 0) (pe_callTy call_tuple_of (by rfl) T.z_tuple (by decide +kernel) (pa_cons (pe_slice sl_list (pv 2) (po_some (pe_callB call_len_seq (by rfl) T.z_len (by decide +kernel) (pa_cons (pv 1) pa_nil))) po_none) pa_nil)) rfl) (pss_one (ps_ret (pe_slice sl_list (pv 2) po_none (po_some (pe_callB call_len_seq (by rfl) T.z_len (by decide +kernel) (pa_cons (pv 1) pa_nil)))))))), ?_⟩
    rw [run_line] at k
    have hsl : st.length ≤ 20 := by rw [hst.len]; exact hp
    have hxl : (xs.map V.int).length = xs.length := List.length_map ..
    refine q_asgL (el_is (el_cat (el_listT (ev_fld (ev_var rfl) hm T.cl_DelayLine T.n_DelayLine_past fl_past) (st_of (hF _ _ ht0))) (el_list (ev_var rfl) (sq_of (hF _ _ ha))) (by rw [List.length_map, List.length_map]; omega)) (List.map_append).symm) fun r H1 hr1 e1 h1 => ?_
    refine q_fldU (eu_is (eu_tupN (el_sl (ev_var rfl) (eo_some (ev_len (ev_var rfl) (sq_of (e1 _ _ (hF _ _ ha))))) eo_none (sq_of h1))) (ys := ((st ++ xs).drop xs.length).map V.int) (by rw [hxl]; exact cut_dropI (by rw [List.length_append]; omega))) (ev_var rfl) (e1 _ _ hm) T.cl_DelayLine T.n_DelayLine_past (show 2 < 1000 by decide) fun t H2 ht e2 h2 => ?_
    rw [fl_put]
    have s2 : Stp (· = m) F H F (upd H2 m (.ins T.c_DelayLine dx (fs_line n t))) := ((Stp.refl hF).pure (e1.trans e2)).mut (.inl rfl) hFm
    have ntm : t ≠ m := (ne_of_none (e1 _ _ hm) ht).symm
    have ht2 : (upd H2 m (.ins T.c_DelayLine dx (fs_line n t))) t = some (.tup (((st ++ xs).drop xs.length).map V.int)) := by rw [upd_ne ntm]; exact h2
    have hr2 : (upd H2 m (.ins T.c_DelayLine dx (fs_line n t))) r = some (.lst ((st ++ xs).map V.int)) := by
      rw [upd_ne (ne_of_none hm hr1).symm]; exact e2 _ _ h1
    refine s_retL (el_is (el_sl (ev_var rfl) eo_none (eo_some (ev_len (ev_var rfl) (sq_of (s2.ex' _ _ ha)))) (sq_of hr2)) (ys := ((st ++ xs).take xs.length).map V.int) (by rw [hxl]; exact cut_takeI (by rw [List.length_append]; omega))) fun q H3 hq e3 h3 => ?_
    have s3 := s2.pure e3
    have s4 := (s3.freeze (fresh_back e1 ht) (e3 _ _ ht2)).freeze (s2.fresh hq) h3
    refine k q _ H3 s4 ⟨dx, t, e3 _ _ upd_same, ?_⟩ upd_same
    rw [upd_ne (ne_of_none ht2 hq), upd_same]

theorem run_pass (ts : List Ent) : ∀ (xs st : List Int) (m : Int), runP ts .pass st m xs = (st, xs)
  | [], st, m => rfl
  | x :: xs, st, m => by
    unfold runP
    rw [show stepP ts .pass st m x = (st, x) from rfl, run_pass ts xs]
theorem ok_Pass_process (T : Tx K mg) : FnOk P w K mg base CX0 1 T.a_Pass_process T.d_Pass_process P_Pass_process (sp_Pass_process T) := by
  refine T.F_Pass_process.ok sc_Pass_process (fun vs H Q E h => ?_) (fun cdv A outer s H vs Q E hr h => ?_)
  · obtain ⟨ts, F, m, a, xs, mo, p, st, _, rfl, _⟩ := h
    rfl
  · obtain ⟨ts, F, m, a, xs, mo, p, st, rfl, rfl, hF, hFm, hI, hts, hp, hst, ha, hxs, hlen, k⟩ := h
    refine ⟨_, (pss_one (ps_ret (pe_callTy call_list_of (by rfl) T.z_list (by decide +kernel) (pa_cons (pv 1) pa_nil)))), ?_⟩
    rw [run_pass] at k
    refine s_retL (el_list (ev_var rfl) (sq_of (hF _ _ ha))) fun q H1 hq e1 h1 => ?_
    have s4 := ((Stp.refl (S := (· = m)) hF).pure e1).freeze hq h1
    exact k q _ H1 s4 (hI.mono s4.ex fun o ho => e1 _ _ ho) upd_same

theorem gain_st {ts : List Ent} {ps : List Pnt} : ∀ (xs st : List Int) (m : Int), (runP ts (.gain ps) st m xs).1 = st
  | [], st, m => rfl
  | x :: xs, st, m => by
    unfold runP
    exact gain_st xs st (m + 1)
theorem ok_Gain_process (T : Tx K mg) : FnOk P w K mg base CX0 3 T.a_Gain_process T.d_Gain_process P_Gain_process (sp_Gain_process T) := by
  refine T.F_Gain_process.ok sc_Gain_process (fun vs H Q E h => ?_) (fun cdv A outer s H vs Q E hr h => ?_)
  · obtain ⟨ts, F, m, a, xs, mo, p, st, _, rfl, _⟩ := h
    rfl
  · obtain ⟨ts, F, m, a, xs, mo, p, st, ⟨ps, rfl⟩, rfl, hF, hFm, ⟨rfl, dx, l, hm, hl⟩, hts, hp, hst, ha, hxs, hlen, k⟩ := h
    refine ⟨_, (pss_cons (ps_set (i := 3) sc_Gain_process.nd rfl (.inl rfl) (pe_lst pa_nil)) (pss_cons (ps_for PassesOwn.never rfl (pi_enum (by rfl) T.z_enumerate (pa_cons (pv 1) pa_nil)) (pg_tup rfl (pgs_cons (pg_name (i := 4) sc_Gain_process.nd rfl (.inl rfl)) (pgs_cons (pg_name (i := 5) sc_Gain_process.nd rfl (.inl rfl)) pgs_nil))) (pss_one (ps_expr (pe_bm PySem.F.plainAttrs_list PySem.F.slot_list_append PySem.F.type_list_append mt_append (pv 3) (pa_cons (pe_call (ok_through T) (hr.mono (by decide)) (by rfl) T.g_through T.F_through.kp T.b_through .nil pass0 (pa_cons (pv 5) (pa_cons (pe_call (ok_value_at T) (hr.mono (by decide)) (by rfl) T.g_value_at T.F_value_at.kp T.b_value_at .nil pass0 (pa_cons (pe_fld (pv 0) rfl) (pa_cons (pe_callB (call_max2 rfl) (by rfl) T.z_max (by decide +kernel) (pa_cons pe_int (pa_cons (pe_op op_add (pv 2) (pv 4)) pa_nil))) pa_nil))) pa_nil))) pa_nil))))) (pss_one (ps_ret (pv 3))))), ?_⟩
    have hpv : PvOk (fps ts ps) := CvOk.fps hts ⟨hp.1, hp.2.1, hp.2.2.1, hp.2.2.2.1, hp.2.2.2.2⟩
    have hxl : (xs.map V.int).length = xs.length := List.length_map ..
    refine q_asgL (el_lst ea_nil (by decide)) fun f H0 hf e0 h0 => ?_
    have s0 : Stp (· = m) F H F H0 := (Stp.refl hF).pure e0
    have hFf := (Stp.refl (S := (· = m)) hF).freshF hf
    refine q_forE (ea_cons (ev_var rfl) ea_nil) (sq_of (s0.ex' _ _ ha)) (fun i σ' H' => Stp (· = m) F H F H' ∧ H' m = some (.ins T.c_Gain dx (fs_gain l)) ∧ ∃ (O : List Int) (x4 x5 : Option V), σ' = [some (.ref m), some (.ref a), some (.int mo), some (.ref f), x4, x5] ∧ O.length = i ∧
        H' f = some (.lst (O.map V.int)) ∧ (O ++ (runP ts (.gain ps) [] (mo + i) (xs.drop i)).2 = (runP ts (.gain ps) [] mo xs).2 ∧ (runP ts (.gain ps) [] (mo + i) (xs.drop i)).1 = (runP ts (.gain ps) [] mo xs).1))
      (fun H1 e1 => ⟨s0.pure e1, e1 _ _ (e0 _ _ hm), [], none, none, rfl, rfl, e1 _ _ h0, by simp, by simp⟩) (fun i σ' H' _ p => sq_of (p.1.ex' _ _ ha)) ?_ ?_
    · rintro i v X σ' H' hv ⟨s1, hm1, O, x4, x5, rfl, hO, hf1, hr⟩ hX
      obtain ⟨x, rfl, hx⟩ := map_get hv
      have hi := (List.getElem?_eq_some_iff.mp hx).1
      have eX := Ex.new (o := .tup [.int (i : Nat), .int x]) hX
      refine ⟨X, _, rfl, st_of upd_same, rfl, _, _, rfl, _, _, rfl, rfl, ?_⟩
      have hf2 := eX _ _ hf1
      have hl2 : IsPl (upd H' X (.tup [.int (i : Nat), .int x])) l (fps ts ps) := hl.mono (s1.ex'.trans eX)
      refine s_app (xs := O.map V.int) (v := .int (thrI x (valN (fps ts ps) (max0 (mo + i))))) hf2 (ev_var rfl) (ev_call0 (ea_cons (ev_var rfl) (ea_cons (ev_call0 (ea_cons (ev_fld (ev_var rfl) (eX _ _ hm1) T.cl_Gain T.n_Gain_points fg_points) (ea_cons (ev_max2 ev_c (ev_op (ev_var rfl) (ev_var rfl) rv_I0)) ea_nil)) (v_value_at T _ hl2 hpv)) ea_nil)) (v_through T (hxs x (mem_of_get hx)))) (by rw [List.length_map]; omega) fun H2 e2 => ?_
      refine ⟨(s1.pure (eX.trans e2)).mut (.inr hf) hFf, ?_, O ++ [thrI x (valN (fps ts ps) (max0 (mo + i)))], _, _, rfl, by rw [List.length_append, hO]; rfl, ?_, run_step hx hr⟩
      · rw [upd_ne (ne_of_none hm hf)]
        exact e2 _ _ (eX _ _ hm1)
      · rw [upd_same, List.map_append]; rfl
    · rintro σ' H' ⟨s1, hm1, O, x4, x5, rfl, hO, hf1, hr⟩
      rw [hxl] at hr
      obtain ⟨r1, r2⟩ := run_end hr
      refine s_ret (ev_var rfl) fun H2 e2 => ?_
      have s2 := (s1.pure e2).freeze hf (e2 _ _ hf1)
      refine k f _ H2 s2 ?_ (by rw [upd_same, r1])
      rw [gain_st]
      exact ⟨rfl, dx, l, e2 _ _ hm1, hl.mono s2.ex⟩

theorem ok_Smooth_process (T : Tx K mg) : FnOk P w K mg base CX0 2 T.a_Smooth_process T.d_Smooth_process P_Smooth_process (sp_Smooth_process T) := by
  refine T.F_Smooth_process.ok sc_Smooth_process (fun vs H Q E h => ?_) (fun cdv A outer s H vs Q E hr h => ?_)
  · obtain ⟨ts, F, m, a, xs, mo, p, st, _, rfl, _⟩ := h
    rfl
  · obtain ⟨ts, F, m, a, xs, mo, p, st, ⟨n, rfl⟩, rfl, hF, hFm, ⟨dx, v0, rfl, hm⟩, hts, hp, hst, ha, hxs, hlen, k⟩ := h
    refine ⟨_, (pss_cons (ps_set (i := 3) sc_Smooth_process.nd rfl (.inl rfl) (pe_lst pa_nil)) (pss_cons (ps_for PassesOwn.never rfl (pi_list (pv 1)) (pg_name (i := 4) sc_Smooth_process.nd rfl (.inl rfl)) (pss_cons (ps_fldaug (pv 0) (pe_call (ok_toward T) (hr.mono (by decide)) (by rfl) T.g_toward T.F_toward.kp T.b_toward .nil pass0 (pa_cons (pe_fld (pv 0) rfl) (pa_cons (pv 4) (pa_cons (pe_fld (pv 0) rfl) pa_nil)))) in_add) (pss_one (ps_expr (pe_bm PySem.F.plainAttrs_list PySem.F.slot_list_append PySem.F.type_list_append mt_append (pv 3) (pa_cons (pe_fld (pv 0) rfl) pa_nil)))))) (pss_one (ps_ret (pv 3))))), ?_⟩
    have hxl : (xs.map V.int).length = xs.length := List.length_map ..
    refine q_asgL (el_lst ea_nil (by decide)) fun f H0 hf e0 h0 => ?_
    have s0 : Stp (· = m) F H F H0 := (Stp.refl hF).pure e0
    have hFf := (Stp.refl (S := (· = m)) hF).freshF hf
    have nmf : m ≠ f := ne_of_none hm hf
    refine q_forL (ev_var rfl) (sq_of (s0.ex' _ _ ha)) (fun i σ' H' => Stp (· = m) F H F H' ∧ ∃ (O : List Int) (y : Int) (x4 : Option V), σ' = [some (.ref m), some (.ref a), some (.int mo), some (.ref f), x4] ∧ O.length = i ∧ H' m = some (.ins T.c_Smooth dx (fs_smooth n y)) ∧
        H' f = some (.lst (O.map V.int)) ∧ (O ++ (runP ts (.smooth n) [y] (mo + i) (xs.drop i)).2 = (runP ts (.smooth n) [v0] mo xs).2 ∧ (runP ts (.smooth n) [y] (mo + i) (xs.drop i)).1 = (runP ts (.smooth n) [v0] mo xs).1))
      (fun H1 e1 => ⟨s0.pure e1, [], v0, none, rfl, rfl, e1 _ _ (e0 _ _ hm), e1 _ _ h0, by simp, by simp⟩) (fun i σ' H' _ p => sq_of (p.1.ex' _ _ ha)) ?_ ?_
    · rintro i v σ' H' hv ⟨s1, O, y, x4, rfl, hO, hm1, hf1, hr⟩
      obtain ⟨x, rfl, hx⟩ := map_get hv
      have hi := (List.getElem?_eq_some_iff.mp hx).1
      have ht := v_toward T (H := H') (v := y) (s := x) (k := n) hp.2
      refine q_fldaug (ev_var rfl) hm1 T.cl_Smooth T.n_Smooth_value fs_value (ev_call0 (ea_cons (ev_fld (ev_var rfl) hm1 T.cl_Smooth T.n_Smooth_value fs_value) (ea_cons (ev_var rfl) (ea_cons (ev_fld (ev_var rfl) hm1 T.cl_Smooth T.n_Smooth_k fs_k) ea_nil))) ht) (show 2 < 1000 by decide) fun H2 e2 => ?_
      rw [fs_put]
      have s2 : Stp (· = m) F H F (upd H2 m (.ins T.c_Smooth dx (fs_smooth n (y + towI y x n)))) := (s1.pure e2).mut (.inl rfl) hFm
      have hf2 : (upd H2 m (.ins T.c_Smooth dx (fs_smooth n (y + towI y x n)))) f = some (.lst (O.map V.int)) := by rw [upd_ne nmf.symm]; exact e2 _ _ hf1
      refine s_app (xs := O.map V.int) (v := .int (y + towI y x n)) hf2 (ev_var rfl) (ev_fld (ev_var rfl) upd_same T.cl_Smooth T.n_Smooth_value fs_value) (by rw [List.length_map]; omega) fun H3 e3 => ?_
      refine ⟨(s2.pure e3).mut (.inr hf) hFf, O ++ [y + towI y x n], y + towI y x n, _, rfl, by rw [List.length_append, hO]; rfl, ?_, ?_, run_step hx hr⟩
      · rw [upd_ne nmf]
        exact e3 _ _ upd_same
      · rw [upd_same, List.map_append]; rfl
    · rintro σ' H' ⟨s1, O, y, x4, rfl, hO, hm1, hf1, hr⟩
      rw [hxl] at hr
      obtain ⟨r1, r2⟩ := run_end hr
      refine s_ret (ev_var rfl) fun H2 e2 => ?_
      have s2 := (s1.pure e2).freeze hf (e2 _ _ hf1)
      exact k f _ H2 s2 (by rw [← r2]; exact ⟨dx, y, rfl, e2 _ _ hm1⟩) (by rw [upd_same, r1])

theorem ok_Delay_process (T : Tx K mg) : FnOk P w K mg base CX0 3 T.a_Delay_process T.d_Delay_process P_Delay_process (sp_Delay_process T) := by
  refine T.F_Delay_process.ok sc_Delay_process (fun vs H Q E h => ?_) (fun cdv A outer s H vs Q E hr h => ?_)
  · obtain ⟨ts, F, m, a, xs, mo, p, st, _, rfl, _⟩ := h
    rfl
  · obtain ⟨ts, F, m, a, xs, mo, p, st, ⟨n, fb, own, rfl⟩, rfl, hF, hFm, ⟨dx, t0, hm, ht0⟩, hts, hp, hst, ha, hxs, hlen, k⟩ := h
    refine ⟨_, (pss_cons (ps_set (i := 3) sc_Delay_process.nd rfl (.inl rfl) (pe_callTy call_list_of (by rfl) T.z_list (by decide +kernel) (pa_cons (pe_fld (pv 0) rfl) pa_nil))) (pss_cons (ps_set (i := 4) sc_Delay_process.nd rfl (.inl rfl) (pe_lst pa_nil)) (pss_cons (ps_for PassesOwn.never rfl (pi_enum (by rfl) T.z_enumerate (pa_cons (pv 1) pa_nil)) (pg_tup rfl (pgs_cons (pg_name (i := 5) sc_Delay_process.nd rfl (.inl rfl)) (pgs_cons (pg_name (i := 6) sc_Delay_process.nd rfl (.inl rfl)) pgs_nil))) (pss_cons (ps_expr (pe_bm PySem.F.plainAttrs_list PySem.F.slot_list_append PySem.F.type_list_append mt_append (pv 4) (pa_cons (pe_call (ok_cut T) (hr.mono (by decide)) (by rfl) T.g_cut T.F_cut.kp T.b_cut .nil pass0 (pa_cons (pe_op op_add (pv 6) (pe_call (ok_through T) (hr.mono (by decide)) (by rfl) T.g_through T.F_through.kp T.b_through .nil pass0 (pa_cons (pe_ix ix_seq (pv 3) (pv 5) (fun _ _ => rfl)) (pa_cons (pe_fld (pv 0) rfl) pa_nil)))) pa_nil)) pa_nil))) (pss_one (ps_expr (pe_bm PySem.F.plainAttrs_list PySem.F.slot_list_append PySem.F.type_list_append mt_append (pv 3) (pa_cons (pe_call (ok_cut T) (hr.mono (by decide)) (by rfl) T.g_cut T.F_cut.kp T.b_cut .nil pass0 (pa_cons (pe_op op_add (pv 6) (pe_call (ok_through T) (hr.mono (by decide)) (by rfl) T.g_through T.F_through.kp T.b_through .nil pass0 (pa_cons (pe_ix ix_seq (pv 3) (pv 5) (fun _ _ => rfl)) (pa_cons (pe_fld (pv 0) rfl) pa_nil)))) pa_nil)) pa_nil)))))) (pss_cons (ps_fld (pv 0) (pe_callTy call_tuple_of (by rfl) T.z_tuple (by decide +kernel) (pa_cons (pe_slice sl_list (pv 3) (po_some (pe_callB call_len_seq (by rfl) T.z_len (by decide +kernel) (pa_cons (pv 1) pa_nil))) po_none) pa_nil)) rfl) (pss_one (ps_ret (pv 4))))))), ?_⟩
    have hxl : (xs.map V.int).length = xs.length := List.length_map ..
    have hsl : st.length = n := hst.len
    obtain ⟨hn1, hn2, _⟩ := hp
    refine q_asgL (el_listT (ev_fld (ev_var rfl) hm T.cl_Delay T.n_Delay_past fd_past) (st_of (hF _ _ ht0))) fun r Hr hr1 er hr2 => ?_
    have sr : Stp (· = m) F H F Hr := (Stp.refl hF).pure er
    have hFr := (Stp.refl (S := (· = m)) hF).freshF hr1
    refine q_asgL (el_lst ea_nil (by decide)) fun f H0 hf e0 h0 => ?_
    have s0 : Stp (· = m) F H F H0 := sr.pure e0
    have hf' := sr.fresh hf
    have hFf := sr.freshF hf
    have nmf : m ≠ f := ne_of_none hm hf'
    have nmr : m ≠ r := ne_of_none hm hr1
    have nrf : r ≠ f := ne_of_none hr2 hf
    refine q_forE (ea_cons (ev_var rfl) ea_nil) (sq_of (s0.ex' _ _ ha)) (fun i σ' H' => Stp (· = m) F H F H' ∧ H' m = some (.ins T.c_Delay dx (fs_delay n fb own t0)) ∧ ∃ (O R : List Int) (x4 x5 : Option V), σ' = [some (.ref m), some (.ref a), some (.int mo), some (.ref r), some (.ref f), x4, x5] ∧ O.length = i ∧ R.length = n + i ∧ (∀ z ∈ R, Smp z) ∧
        H' r = some (.lst (R.map V.int)) ∧ H' f = some (.lst (O.map V.int)) ∧ (O ++ (runP ts (.delay n fb own) (R.drop i) (mo + i) (xs.drop i)).2 = (runP ts (.delay n fb own) st mo xs).2 ∧ (runP ts (.delay n fb own) (R.drop i) (mo + i) (xs.drop i)).1 = (runP ts (.delay n fb own) st mo xs).1))
      (fun H1 e1 => ⟨s0.pure e1, e1 _ _ (e0 _ _ (er _ _ hm)), [], st, none, none, rfl, rfl, by omega, hst.smp, e1 _ _ (e0 _ _ hr2), e1 _ _ h0, by simp, by simp⟩) (fun i σ' H' _ p => sq_of (p.1.ex' _ _ ha)) ?_ ?_
    · rintro i v X σ' H' hv ⟨s1, hm1, O, R, x4, x5, rfl, hO, hR, hRs, hr3, hf1, hrun⟩ hX
      obtain ⟨x, rfl, hx⟩ := map_get hv
      have hi := (List.getElem?_eq_some_iff.mp hx).1
      have eX := Ex.new (o := .tup [.int (i : Nat), .int x]) hX
      refine ⟨X, _, rfl, st_of upd_same, rfl, _, _, rfl, _, _, rfl, rfl, ?_⟩
      obtain ⟨d, hd⟩ : ∃ d, R[i]? = some d := get_of_lt (by omega)
      have hds : Smp d := hRs d (mem_of_get hd)
      have hdd : (R.drop i).headD 0 = d := by rw [List.headD_eq_head?_getD, List.head?_drop, hd]; rfl
      refine q_app (xs := O.map V.int) (v := .int (cutI (x + thrI d own))) (eX _ _ hf1) (ev_var rfl) (ev_call0 (ea_cons (ev_op (ev_var rfl) (ev_call0 (ea_cons (ev_op (ev_var rfl) (ev_var rfl) (rv_iL (sq_of (eX _ _ hr3)) (at_map hd))) (ea_cons (ev_fld (ev_var rfl) (eX _ _ hm1) T.cl_Delay T.n_Delay_own fd_own) ea_nil)) (v_through T hds)) rv_I0) ea_nil) (v_cut T _)) (by rw [List.length_map]; omega) fun H2 e2 => ?_
      have s2 : Stp (· = m) F H F (upd H2 f (.lst (O.map V.int ++ [.int (cutI (x + thrI d own))]))) := (s1.pure (eX.trans e2)).mut (.inr hf') hFf
      have hr4 : (upd H2 f (.lst (O.map V.int ++ [.int (cutI (x + thrI d own))]))) r = some (.lst (R.map V.int)) := by rw [upd_ne nrf]; exact e2 _ _ (eX _ _ hr3)
      have hm4 : (upd H2 f (.lst (O.map V.int ++ [.int (cutI (x + thrI d own))]))) m = some (.ins T.c_Delay dx (fs_delay n fb own t0)) := by rw [upd_ne nmf]; exact e2 _ _ (eX _ _ hm1)
      refine s_app (xs := R.map V.int) (v := .int (cutI (x + thrI d fb))) hr4 (ev_var rfl) (ev_call0 (ea_cons (ev_op (ev_var rfl) (ev_call0 (ea_cons (ev_op (ev_var rfl) (ev_var rfl) (rv_iL (sq_of hr4) (at_map hd))) (ea_cons (ev_fld (ev_var rfl) hm4 T.cl_Delay T.n_Delay_feedback fd_feedback) ea_nil)) (v_through T hds)) rv_I0) ea_nil) (v_cut T _)) (by rw [List.length_map]; omega) fun H3 e3 => ?_
      have hst' := run_step hx hrun
      simp only [stepP, hdd] at hst'
      have hdr : (R.drop i).tail ++ [cutI (x + thrI d fb)] = (R ++ [cutI (x + thrI d fb)]).drop (i + 1) := by
        rw [List.tail_drop, List.drop_append_of_le_length (by omega)]
      rw [hdr] at hst'
      refine ⟨(s2.pure e3).mut (.inr hr1) hFr, ?_, O ++ [cutI (x + thrI d own)], R ++ [cutI (x + thrI d fb)], _, _, rfl, by rw [List.length_append, hO]; rfl, by rw [List.length_append, hR]; rfl, app_smp hRs (cutI_smp _), ?_, ?_, hst'⟩
      · rw [upd_ne nmr]; exact e3 _ _ hm4
      · rw [upd_same, List.map_append]; rfl
      · rw [upd_ne nrf.symm, e3 _ _ upd_same, List.map_append]; rfl
    · rintro σ' H' ⟨s1, hm1, O, R, x4, x5, rfl, hO, hR, hRs, hr3, hf1, hrun⟩
      rw [hxl] at hrun
      obtain ⟨r1, r2⟩ := run_end hrun
      rw [hxl] at hR
      refine q_fldU (eu_is (eu_tupN (el_sl (ev_var rfl) (eo_some (ev_len (ev_var rfl) (sq_of (s1.ex' _ _ ha)))) eo_none (sq_of hr3))) (ys := (R.drop xs.length).map V.int) (by rw [hxl]; exact cut_dropI (by omega))) (ev_var rfl) hm1 T.cl_Delay T.n_Delay_past (show 4 < 1000 by decide) fun t H2 ht e2 h2 => ?_
      rw [fd_put]
      have ntm : t ≠ m := (ne_of_none hm1 ht).symm
      have s2 : Stp (· = m) F H F (upd H2 m (.ins T.c_Delay dx (fs_delay n fb own t))) := (s1.pure e2).mut (.inl rfl) hFm
      have ht2 : (upd H2 m (.ins T.c_Delay dx (fs_delay n fb own t))) t = some (.tup ((R.drop xs.length).map V.int)) := by rw [upd_ne ntm]; exact h2
      have hf2 : (upd H2 m (.ins T.c_Delay dx (fs_delay n fb own t))) f = some (.lst (O.map V.int)) := by rw [upd_ne nmf.symm]; exact e2 _ _ hf1
      refine s_ret (ev_var rfl) fun H3 e3 => ?_
      have s4 := ((s2.pure e3).freeze (s1.fresh ht) (e3 _ _ ht2)).freeze hf' (e3 _ _ hf2)
      refine k f _ H3 s4 ⟨dx, t, e3 _ _ upd_same, ?_⟩ (by rw [upd_same, r1])
      rw [upd_ne (ne_of ht2 hf2 (by intro q; cases q)), upd_same, r2]

theorem ok_Ahead_process (T : Tx K mg) : FnOk P w K mg base CX0 3 T.a_Ahead_process T.d_Ahead_process P_Ahead_process (sp_Ahead_process T) := by
  refine T.F_Ahead_process.ok sc_Ahead_process (fun vs H Q E h => ?_) (fun cdv A outer s H vs Q E hr h => ?_)
  · obtain ⟨ts, F, m, a, xs, mo, p, st, _, rfl, _⟩ := h
    rfl
  · obtain ⟨ts, F, m, a, xs, mo, p, st, ⟨n, c, rfl⟩, rfl, hF, hFm, ⟨dx, t0, hm, ht0⟩, hts, hp, hst, ha, hxs, hlen, k⟩ := h
    refine ⟨_, (pss_cons (ps_set (i := 3) sc_Ahead_process.nd rfl (.inl rfl) (pe_op op_cat (pe_callTy call_list_of (by rfl) T.z_list (by decide +kernel) (pa_cons (pe_fld (pv 0) rfl) pa_nil)) (pe_callTy call_list_of (by rfl) T.z_list (by decide +kernel) (pa_cons (pv 1) pa_nil)))) (pss_cons (ps_set (i := 4) sc_Ahead_process.nd rfl (.inl rfl) (pe_lst pa_nil)) (pss_cons (ps_for PassesOwn.never rfl (pi_range1 (by rfl) T.z_range (pa_cons (pe_callB call_len_seq (by rfl) T.z_len (by decide +kernel) (pa_cons (pv 1) pa_nil)) pa_nil)) (pg_name (i := 5) sc_Ahead_process.nd rfl (.inl rfl)) (pss_cons (ps_set (i := 6) sc_Ahead_process.nd rfl (.inl rfl) (pe_callB (cr_max rfl) (by rfl) T.z_max (by decide +kernel) (pa_cons (pe_lc (own := [("sample", 7)]) (g := (gName 7)) (tt := tYes) (te := (tCB rAbs (tCons (tVar 7) tNil))) rfl sc_Ahead_process.nd (pi_list (pe_slice sl_list (pv 3) (po_some (pv 5)) (po_some (pe_op op_add (pe_op op_add (pv 5) (pe_fld (pv 0) rfl)) pe_int)))) (blkOk_by (N := N_Ahead_process) (sc := defScope s_Ahead_process) (by decide +kernel)) (fun _ _ _ _ _ => (pg_name (i := 7) sc_Ahead_process.nd rfl (.inl rfl))) (fun _ _ _ _ _ => pts_nil) (fun _ _ _ _ _ => (pe_callB call_abs (by rfl) T.z_abs (by decide +kernel) (pa_cons (pv 7) pa_nil)))) pa_nil))) (pss_one (ps_expr (pe_bm PySem.F.plainAttrs_list PySem.F.slot_list_append PySem.F.type_list_append mt_append (pv 4) (pa_cons (pe_call (ok_through T) (hr.mono (by decide)) (by rfl) T.g_through T.F_through.kp T.b_through .nil pass0 (pa_cons (pe_ix ix_seq (pv 3) (pv 5) (fun _ _ => rfl)) (pa_cons (pe_call (ok_turned_down T) (hr.mono (by decide)) (by rfl) T.g_turned_down T.F_turned_down.kp T.b_turned_down .nil pass0 (pa_cons (pv 6) (pa_cons (pe_fld (pv 0) rfl) pa_nil))) pa_nil))) pa_nil)))))) (pss_cons (ps_fld (pv 0) (pe_callTy call_tuple_of (by rfl) T.z_tuple (by decide +kernel) (pa_cons (pe_slice sl_list (pv 3) (po_some (pe_callB call_len_seq (by rfl) T.z_len (by decide +kernel) (pa_cons (pv 1) pa_nil))) po_none) pa_nil)) rfl) (pss_one (ps_ret (pv 4))))))), ?_⟩
    have hxl : (xs.map V.int).length = xs.length := List.length_map ..
    have hsl : st.length = n := hst.len
    obtain ⟨hn1, hn2, hc1, hc2⟩ := hp
    have hRs : ∀ z ∈ st ++ xs, Smp z := fun z hz => (List.mem_append.mp hz).elim (hst.smp z) (hxs z)
    have hRl : (st ++ xs).length = n + xs.length := by rw [List.length_append, hsl]
    refine q_asgL (el_is (el_cat (el_listT (ev_fld (ev_var rfl) hm T.cl_Ahead T.n_Ahead_past fa_past) (st_of (hF _ _ ht0))) (el_list (ev_var rfl) (sq_of (hF _ _ ha))) (by rw [List.length_map, List.length_map]; omega)) (List.map_append).symm) fun r Hr hr1 er hr2 => ?_
    have sr : Stp (· = m) F H F Hr := (Stp.refl hF).pure er
    refine q_asgL (el_lst ea_nil (by decide)) fun f H0 hf e0 h0 => ?_
    have s0 : Stp (· = m) F H F H0 := sr.pure e0
    have hf' := sr.fresh hf
    have hFf := sr.freshF hf
    have nmf : m ≠ f := ne_of_none hm hf'
    have nmr : m ≠ r := ne_of_none hm hr1
    have nrf : r ≠ f := ne_of_none hr2 hf
    refine q_forR1 (n := ((xs.map V.int).length : Nat)) (ea_cons (ev_len (ev_var rfl) (sq_of (s0.ex' _ _ ha))) ea_nil) ⟨by omega, by omega⟩ (fun i σ' H' => Stp (· = m) F H F H' ∧ H' m = some (.ins T.c_Ahead dx (fs_ahead n c t0)) ∧ H' r = some (.lst ((st ++ xs).map V.int)) ∧ ∃ (O : List Int) (x4 x5 : Option V), σ' = [some (.ref m), some (.ref a), some (.int mo), some (.ref r), some (.ref f), x4, x5, none] ∧ O.length = i ∧
        H' f = some (.lst (O.map V.int)) ∧ (O ++ (runP ts (.ahead n c) (((st ++ xs).drop i).take n) (mo + i) (xs.drop i)).2 = (runP ts (.ahead n c) st mo xs).2 ∧ (runP ts (.ahead n c) (((st ++ xs).drop i).take n) (mo + i) (xs.drop i)).1 = (runP ts (.ahead n c) st mo xs).1))
      (fun H1 e1 => ⟨s0.pure e1, e1 _ _ (e0 _ _ (er _ _ hm)), e1 _ _ (e0 _ _ hr2), [], none, none, rfl, rfl, e1 _ _ h0, by rw [List.drop_zero, List.take_left' hsl]; simp, by rw [List.drop_zero, List.take_left' hsl]; simp⟩) ?_ ?_
    · rintro i σ' H' hi ⟨s1, hm1, hr3, O, x4, x5, rfl, hO, hf1, hrun⟩
      have hi : i < xs.length := by omega
      obtain ⟨x, hx⟩ := get_of_lt hi
      obtain ⟨d, hd⟩ : ∃ d, (st ++ xs)[i]? = some d := get_of_lt (by omega)
      have hxR : (st ++ xs)[i + n]? = some x := by
        rw [List.getElem?_append_right (by omega), hsl, show i + n - n = i by omega]
        exact hx
      have hwin : ((st ++ xs).drop i).take n ++ [x] = ((st ++ xs).drop i).take (n + 1) := by
        have h : ((st ++ xs).drop i)[n]? = some x := by rw [List.getElem?_drop]; exact hxR
        rw [List.take_add_one, h]
        rfl
      have hnext : (((st ++ xs).drop i).take n ++ [x]).tail = ((st ++ xs).drop (i + 1)).take n := by
        rw [hwin, ← List.drop_one, List.drop_take, List.drop_drop]
        rfl
      have hwne : ((st ++ xs).drop i).take (n + 1) ≠ [] := by rw [← hwin]; simp
      have hhd : (((st ++ xs).drop i).take n ++ [x]).headD 0 = d := by
        rw [hwin, List.headD_eq_head?_getD, List.head?_eq_getElem?, List.getElem?_take, if_pos (by omega), List.getElem?_drop, Nat.add_zero, hd]
        rfl
      have hws : ∀ z ∈ ((st ++ xs).drop i).take (n + 1), Smp z := fun z hz => hRs z (List.mem_of_mem_drop (List.mem_of_mem_take hz))
      refine q_asg (v := .int (peakI (((st ++ xs).drop i).take (n + 1)))) (ev_maxN (el_mapNL (((((st ++ xs).drop i).take (n + 1)).map absI).map V.int) (by rw [List.length_map, List.length_map, List.length_map])
        (el_is (el_sl (ev_var rfl) (eo_some (ev_var rfl)) (eo_some (i := ((i + n + 1 : Nat) : Int)) (ev_is (ev_op (ev_op (ev_var rfl) (ev_fld (ev_var rfl) hm1 T.cl_Ahead T.n_Ahead_frames fa_frames) rv_I0) ev_c rv_I0) (by congr 1))) (sq_of hr3)) (ys := (((st ++ xs).drop i).take (n + 1)).map V.int) (by rw [cut_midI, show i + n + 1 - i = n + 1 by omega])) (by rw [List.length_map, List.length_take]; omega) (fun _ => rfl) (fun j v y H2 e2 hv hy => by
          obtain ⟨z, rfl, hz⟩ := map_get hv
          rw [List.getElem?_map, List.getElem?_map, hz] at hy
          cases hy
          exact ev_abs (ev_var rfl))) hwne) fun H2 e2 => ?_
      refine s_app (xs := O.map V.int) (v := .int (thrI d (turnI (peakI (((st ++ xs).drop i).take (n + 1))) c))) (e2 _ _ hf1) (ev_var rfl) (ev_call0 (ea_cons (ev_op (ev_var rfl) (ev_var rfl) (rv_iL (sq_of (e2 _ _ hr3)) (at_map hd))) (ea_cons (ev_call0 (ea_cons (ev_var rfl) (ea_cons (ev_fld (ev_var rfl) (e2 _ _ hm1) T.cl_Ahead T.n_Ahead_ceiling fa_ceiling) ea_nil)) (v_turned T ⟨by omega, hc2, peak_smp hws⟩)) ea_nil)) (v_through T (hRs d (mem_of_get hd)))) (by rw [List.length_map]; omega) fun H3 e3 => ?_
      have hst' := run_step hx hrun
      simp only [stepP, hhd, hnext] at hst'
      rw [hwin] at hst'
      refine ⟨(s1.pure (e2.trans e3)).mut (.inr hf') hFf, ?_, ?_, O ++ [thrI d (turnI (peakI (((st ++ xs).drop i).take (n + 1))) c)], _, _, rfl, by rw [List.length_append, hO]; rfl, ?_, hst'⟩
      · rw [upd_ne nmf]; exact e3 _ _ (e2 _ _ hm1)
      · rw [upd_ne nrf]; exact e3 _ _ (e2 _ _ hr3)
      · rw [upd_same, List.map_append]; rfl
    · rintro σ' H' ⟨s1, hm1, hr3, O, x4, x5, rfl, hO, hf1, hrun⟩
      rw [show (((xs.map V.int).length : Nat) : Int).toNat = xs.length by omega] at hrun
      obtain ⟨r1, r2⟩ := run_end hrun
      rw [run_ahead_st] at k
      refine q_fldU (eu_is (eu_tupN (el_sl (ev_var rfl) (eo_some (ev_len (ev_var rfl) (sq_of (s1.ex' _ _ ha)))) eo_none (sq_of hr3))) (ys := ((st ++ xs).drop xs.length).map V.int) (by rw [hxl]; exact cut_dropI (by omega))) (ev_var rfl) hm1 T.cl_Ahead T.n_Ahead_past (show 3 < 1000 by decide) fun t H2 ht e2 h2 => ?_
      rw [fa_put]
      have ntm : t ≠ m := (ne_of_none hm1 ht).symm
      have s2 : Stp (· = m) F H F (upd H2 m (.ins T.c_Ahead dx (fs_ahead n c t))) := (s1.pure e2).mut (.inl rfl) hFm
      have ht2 : (upd H2 m (.ins T.c_Ahead dx (fs_ahead n c t))) t = some (.tup (((st ++ xs).drop xs.length).map V.int)) := by rw [upd_ne ntm]; exact h2
      have hf2 : (upd H2 m (.ins T.c_Ahead dx (fs_ahead n c t))) f = some (.lst (O.map V.int)) := by rw [upd_ne nmf.symm]; exact e2 _ _ hf1
      refine s_ret (ev_var rfl) fun H3 e3 => ?_
      have s4 := ((s2.pure e3).freeze (s1.fresh ht) (e3 _ _ ht2)).freeze hf' (e3 _ _ hf2)
      refine k f _ H3 s4 ⟨dx, t, e3 _ _ upd_same, ?_⟩ (by rw [upd_same, r1])
      rw [upd_ne (ne_of ht2 hf2 (by intro q; cases q)), upd_same]

/-! ### in_frames -/
def sp_in_frames (T : Tx K mg) : Sp := fun vs H Q _ => ∃ (a b : Addr) (F : Hp) (ts : List Ent) (ps : List Pnt), vs = [.ref a, .ref b] ∧ Ex F H ∧ IsTs F a ts ∧ TsOk ts ∧ IsPt F b ps ∧ CvOk ps ∧ ∀ p F' H', Stp S0 F H F' H' → IsPl F' p (fps ts ps) → Q (.ref p) H'
theorem ok_in_frames (T : Tx K mg) : FnOk P w K mg base CX0 4 T.a_in_frames T.d_in_frames P_in_frames (sp_in_frames T) := by
  refine T.F_in_frames.ok sc_in_frames (fun vs H Q E h => ?_) (fun cdv A outer s H vs Q E hr h => ?_)
  · obtain ⟨a, b, F, ts, ps, rfl, _⟩ := h
    rfl
  · obtain ⟨a, b, F, ts, ps, rfl, hF, hts, hd, ⟨es, hb, hp⟩, hc, k⟩ := h
    refine ⟨_, (pss_one (ps_ret (pe_lc (own := [("tick", 2), ("value", 3)]) (g := (gTup K 2 (gCons (gName 2) (gCons (gName 3) gNil)))) (tt := tYes) (te := (tTup (tCons (tCall (sp_frame_of T) [] E0 (tCons (tVar 0) (tCons (tVar 2) tNil))) (tCons (tVar 3) tNil)))) rfl sc_in_frames.nd (pi_tup (pv 1)) (blkOk_by (N := N_in_frames) (sc := defScope s_in_frames) (by decide +kernel)) (fun _ _ _ _ _ => (pg_tup rfl (pgs_cons (pg_name (i := 2) sc_in_frames.nd rfl (.inl rfl)) (pgs_cons (pg_name (i := 3) sc_in_frames.nd rfl (.inl rfl)) pgs_nil)))) (fun _ _ _ _ _ => pts_nil) (fun _ _ _ _ _ => (pe_tup (pa_cons (pe_call (ok_frame_of T) (hr.mono (by decide)) (by rfl) T.g_frame_of T.F_frame_of.kp T.b_frame_of .nil pass0 (pa_cons (pv 0) (pa_cons (pv 2) pa_nil))) (pa_cons (pv 3) pa_nil))))))), ?_⟩
    have hl : (es.map V.ref).length = ps.length := by rw [List.length_map, hp.1]
    have hlf : (fps ts ps).length = ps.length := by unfold fps; rw [List.length_map]
    refine ⟨_, rfl, b, rfl, ⟨_, st_of (hF _ _ hb)⟩, fun Dl hD => lc_tup (xs := es.map V.ref) (fun i H' => ∃ F', Stp S0 F H F' H' ∧ F' Dl = none ∧ ∃ ds : List Addr, H' Dl = some (.lst (ds.map V.ref)) ∧ TupL F' ds pntV ((fps ts ps).take i))
      ⟨F, (Stp.refl hF).mut (.inr hD) ((Stp.refl (S := S0) hF).freshF hD), (Stp.refl (S := S0) hF).freshF hD, [], upd_same, .nil⟩ (fun i H' _ ⟨F', s1, _⟩ => st_of (s1.ex' _ _ (s1.ex _ _ hb))) ?_ ?_⟩
    · rintro i v H' hv ⟨F', s1, hFD, ds, hD1, hds⟩
      obtain ⟨e, pn, rfl, hpn, he⟩ := (hp.mono (s1.ex.trans s1.ex')).get' hv
      have hi := List.getElem?_eq_some_iff.mp hpn
      have hlen := hc.len
      have hit := hi.1
      have dl : ds.length = i := by rw [hds.1, List.length_take, hlf]; omega
      refine ⟨e, pntV pn, rfl, st_of he, rfl, _, _, rfl, _, _, rfl, rfl, rfl, ?_⟩
      dsimp only [tYes]
      rw [if_pos rfl]
      have q := eu_tup (σ := [some (.ref a), some (.ref b), some (.int pn.1), some (.int pn.2)]) (ea_cons (ev_call0 (E := E0) (ea_cons (ta := tVar 0) (ev_var rfl) (ea_cons (ta := tVar 2) (ev_var rfl) ea_nil)) (v_frame T (hts.mono (s1.ex.trans s1.ex')) hd (hc.tick pn (mem_of_get hpn)))) (ea_cons (ta := tVar 3) (ev_var rfl) ea_nil)) (show 2 ≤ 100000 by decide)
      refine q H' (Ex.refl H') _ fun p H4 hp4 e4 h4 => ?_
      have s4 := (s1.pure e4).freeze (s1.fresh hp4) h4
      have npd : Dl ≠ p := ne_of_none hD1 hp4
      have hFD4 : (upd F' p (.tup [.int (frameN ts pn.1 : Nat), .int pn.2])) Dl = none := by rw [upd_ne npd]; exact hFD
      refine ⟨ds.map V.ref, e4 _ _ hD1, sz_lt (by rw [List.length_map]; omega), _, s4.mut (.inr hD) hFD4, hFD4, ds ++ [p], ?_, ?_⟩
      · rw [upd_same, List.map_append]; rfl
      · have hx : (fps ts ps)[i]? = some (frameN ts pn.1, pn.2) := by unfold fps; rw [List.getElem?_map, hpn]; rfl
        rw [take_snoc hx]
        exact (hds.mono (Ex.new (s1.freshF hp4))).snoc upd_same
    · rintro H' ⟨F', s1, hFD, ds, hD1, hds⟩
      rw [hl, ← hlf, List.take_length] at hds
      have s2 := s1.freeze hD hD1
      exact k _ _ _ s2 ⟨ds, upd_same, hds.mono (Ex.new hFD)⟩

/-! ### effect_of -/
theorem Past0.stp {F H H1 H2 : Hp} {x dx C : Addr} {n : Nat} {t : Addr} (hF : Ex F H) (e : Ex H H1) (hx : H1 x = none) (hdx : H1 dx = none) (h : Past0 (upd (upd H1 dx (.own x)) x (.ins C dx [])) H2 x n t) :
    Stp S0 F H (upd F t (.tup (zv n))) H2 ∧ H x = none ∧ (upd F t (.tup (zv n))) x = none := by
  obtain ⟨h1, h2, h3, h4⟩ := h
  have e2 : Ex H1 H2 := Same.made (C := C) hx hdx h1
  have ht : H1 t = none := by
    rw [upd_ne h3] at h2
    by_cases q : t = dx
    · rw [q]; exact hdx
    · rw [upd_ne q] at h2; exact h2
  have sx : Stp S0 F H F H1 := (Stp.refl hF).pure e
  refine ⟨((Stp.refl hF).pure (e.trans e2)).freeze (sx.fresh ht) h4, sx.fresh hx, ?_⟩
  rw [upd_ne h3.symm]
  exact sx.freshF hx
def sp_effect_of (T : Tx K mg) : Sp := fun vs H Q _ => ∃ (ts : List Ent) (a b : Addr) (F : Hp) (p : Pt), vs = [.ref a, .ref b] ∧ Ex F H ∧ IsSp F a p ∧ (∀ n, p ≠ .line n) ∧ PtOk p ∧ IsTs F b ts ∧ TsOk ts ∧
  ∀ m F' H', Stp S0 F H F' H' → H m = none → F' m = none → InstAt T ts F' H' m p (initP p) → Q (.ref m) H'
theorem ok_effect_of (T : Tx K mg) : FnOk P w K mg base CX0 5 T.a_effect_of T.d_effect_of P_effect_of (sp_effect_of T) := by
  refine T.F_effect_of.ok sc_effect_of (fun vs H Q E h => ?_) (fun cdv A outer s H vs Q E hr h => ?_)
  · obtain ⟨ts, a, b, F, p, rfl, _⟩ := h
    rfl
  · obtain ⟨ts, a, b, F, p, rfl, hF, hs, hnl, hp, hts, hd, k⟩ := h
    refine ⟨_, (pss_cons (ps_if (pt_cmpR op_eq (pe_ix ix_seq (pv 0) pe_int (fun _ _ => rfl)) pe_str (nomark _)) (pss_one (ps_ret (pe_make T.mk_Gain (ok_Gain_init T) (hr.mono (by decide)) (by rfl) T.g_Gain T.b_Gain_init .nil pass0 (pa_cons (pe_call (ok_in_frames T) (hr.mono (by decide)) (by rfl) T.g_in_frames T.F_in_frames.kp T.b_in_frames .nil pass0 (pa_cons (pv 1) (pa_cons (pe_ix ix_seq (pv 0) pe_int (fun _ _ => rfl)) pa_nil))) pa_nil)))) pss_nil) (pss_cons (ps_if (pt_cmpR op_eq (pe_ix ix_seq (pv 0) pe_int (fun _ _ => rfl)) pe_str (nomark _)) (pss_one (ps_ret (pe_make T.mk_Delay (ok_Delay_init T) (hr.mono (by decide)) (by rfl) T.g_Delay T.b_Delay_init .nil pass0 (pa_cons (pe_ix ix_seq (pv 0) pe_int (fun _ _ => rfl)) (pa_cons (pe_ix ix_seq (pv 0) pe_int (fun _ _ => rfl)) (pa_cons (pe_ix ix_seq (pv 0) pe_int (fun _ _ => rfl)) pa_nil)))))) pss_nil) (pss_cons (ps_if (pt_cmpR op_eq (pe_ix ix_seq (pv 0) pe_int (fun _ _ => rfl)) pe_str (nomark _)) (pss_one (ps_ret (pe_make T.mk_Smooth (ok_Smooth_init T) (hr.mono (by decide)) (by rfl) T.g_Smooth T.b_Smooth_init .nil pass0 (pa_cons (pe_ix ix_seq (pv 0) pe_int (fun _ _ => rfl)) pa_nil)))) pss_nil) (pss_cons (ps_if (pt_cmpR op_eq (pe_ix ix_seq (pv 0) pe_int (fun _ _ => rfl)) pe_str (nomark _)) (pss_one (ps_ret (pe_make T.mk_Ahead (ok_Ahead_init T) (hr.mono (by decide)) (by rfl) T.g_Ahead T.b_Ahead_init .nil pass0 (pa_cons (pe_ix ix_seq (pv 0) pe_int (fun _ _ => rfl)) (pa_cons (pe_ix ix_seq (pv 0) pe_int (fun _ _ => rfl)) pa_nil))))) pss_nil) (pss_one (ps_ret (pe_makeN T.mk_Pass (by rfl) T.g_Pass))))))), ?_⟩
    have hsH := hs.mono hF
    cases p with
    | line n => exact absurd rfl (hnl n)
    | gain ps =>
      refine q_when (et_kw (b := true) (ev_var rfl) hsH (show decide (("gain" : Str) = "gain") = true by decide +kernel)) (fun _ H1 e1 => ?_) (fun hb => absurd hb (by decide))
      obtain ⟨q, hq, hqp⟩ := hsH.mono e1
      have hc : CvOk ps := ⟨hp.1, hp.2.1, hp.2.2.1, hp.2.2.2.1, hp.2.2.2.2⟩
      obtain ⟨q', hq', hqp'⟩ := hs
      have hqq : q' = q := by
        have h1 := e1 _ _ (hF _ _ hq')
        rw [hq] at h1
        cases h1; rfl
      subst hqq
      refine s_retMC2 (ea_cons (ev_var rfl) (ea_cons (ev_op (ev_var rfl) ev_c (rv_iT (K := K) (st_of hq) rfl)) ea_nil)) fun H2 e2 => ?_
      refine ⟨b, q', F, ts, ps, rfl, hF.trans (e1.trans e2), hts, hd, hqp', hc, fun l F3 H3 s3 hl x dx hx hdx nd => ?_⟩
      have s30 : Stp S0 F H F3 H3 := ((Stp.refl hF).pure (e1.trans e2)).trans s3 fun b hb => hb.elim
      refine ⟨x, dx, l, rfl, upd_same, fun H4 h4 hm4 => ⟨rfl, ?_⟩⟩
      have e4 : Ex H3 H4 := Same.made (C := T.c_Gain) hx hdx h4
      exact k x F3 H4 (s30.pure e4) (s30.fresh hx) (s30.freshF hx) ⟨rfl, dx, l, hm4, hl⟩
    | delay n fb own =>
      refine q_when (et_kw (b := false) (ev_var rfl) hsH (show decide (("delay" : Str) = "gain") = false by decide +kernel)) (fun hb => absurd hb (by decide)) (fun _ H1 e1 => ?_)
      refine q_when (et_kw (b := true) (ev_var rfl) (hsH.mono e1) (show decide (("delay" : Str) = "delay") = true by decide +kernel)) (fun _ H2 e2 => ?_) (fun hb => absurd hb (by decide))
      have ht := st_of (K := K) (hsH.mono (e1.trans e2))
      refine s_retM (ea_cons (ev_op (ev_var rfl) ev_c (rv_iT ht rfl)) (ea_cons (ev_op (ev_var rfl) ev_c (rv_iT ht rfl)) (ea_cons (ev_op (ev_var rfl) ev_c (rv_iT ht rfl)) ea_nil))) fun H3 x dx e3 hx hdx nd => ?_
      have hn : n ≤ 1000 := Nat.le_trans hp.2.1 (by decide)
      refine ⟨x, dx, n, fb, own, rfl, upd_same, hn, fun t H4 h4 hm => ⟨rfl, ?_⟩⟩
      obtain ⟨s4, x0, xF⟩ := h4.stp hF ((e1.trans e2).trans e3) hx hdx
      exact k x _ H4 s4 x0 xF ⟨dx, t, hm, upd_same⟩
    | smooth n =>
      refine q_when (et_kw (b := false) (ev_var rfl) hsH (show decide (("smooth" : Str) = "gain") = false by decide +kernel)) (fun hb => absurd hb (by decide)) (fun _ H1 e1 => ?_)
      refine q_when (et_kw (b := false) (ev_var rfl) (hsH.mono e1) (show decide (("smooth" : Str) = "delay") = false by decide +kernel)) (fun hb => absurd hb (by decide)) (fun _ H2 e2 => ?_)
      refine q_when (et_kw (b := true) (ev_var rfl) (hsH.mono (e1.trans e2)) (show decide (("smooth" : Str) = "smooth") = true by decide +kernel)) (fun _ H3 e3 => ?_) (fun hb => absurd hb (by decide))
      have ht := st_of (K := K) (hsH.mono ((e1.trans e2).trans e3))
      refine s_retM (ea_cons (ev_op (ev_var rfl) ev_c (rv_iT ht rfl)) ea_nil) fun H4 x dx e4 hx hdx nd => ?_
      refine ⟨x, dx, n, rfl, upd_same, fun H5 h5 hm => ⟨rfl, ?_⟩⟩
      have e5 : Ex H4 H5 := Same.made (C := T.c_Smooth) hx hdx h5
      have s4 : Stp S0 F H F H4 := (Stp.refl hF).pure (((e1.trans e2).trans e3).trans e4)
      exact k x F H5 (s4.pure e5) (s4.fresh hx) (s4.freshF hx) ⟨dx, 0, rfl, hm⟩
    | ahead n c =>
      refine q_when (et_kw (b := false) (ev_var rfl) hsH (show decide (("ahead" : Str) = "gain") = false by decide +kernel)) (fun hb => absurd hb (by decide)) (fun _ H1 e1 => ?_)
      refine q_when (et_kw (b := false) (ev_var rfl) (hsH.mono e1) (show decide (("ahead" : Str) = "delay") = false by decide +kernel)) (fun hb => absurd hb (by decide)) (fun _ H2 e2 => ?_)
      refine q_when (et_kw (b := false) (ev_var rfl) (hsH.mono (e1.trans e2)) (show decide (("ahead" : Str) = "smooth") = false by decide +kernel)) (fun hb => absurd hb (by decide)) (fun _ H3 e3 => ?_)
      refine q_when (et_kw (b := true) (ev_var rfl) (hsH.mono ((e1.trans e2).trans e3)) (show decide (("ahead" : Str) = "ahead") = true by decide +kernel)) (fun _ H4 e4 => ?_) (fun hb => absurd hb (by decide))
      have ht := st_of (K := K) (hsH.mono (((e1.trans e2).trans e3).trans e4))
      refine s_retM (ea_cons (ev_op (ev_var rfl) ev_c (rv_iT ht rfl)) (ea_cons (ev_op (ev_var rfl) ev_c (rv_iT ht rfl)) ea_nil)) fun H5 x dx e5 hx hdx nd => ?_
      have hn : n ≤ 1000 := Nat.le_trans hp.2.1 (by decide)
      refine ⟨x, dx, n, c, rfl, upd_same, hn, fun t H6 h6 hm => ⟨rfl, ?_⟩⟩
      obtain ⟨s4, x0, xF⟩ := h6.stp hF ((((e1.trans e2).trans e3).trans e4).trans e5) hx hdx
      exact k x _ H6 s4 x0 xF ⟨dx, t, hm, upd_same⟩
    | pass =>
      refine q_when (et_kw (b := false) (ev_var rfl) hsH (show decide (("pass" : Str) = "gain") = false by decide +kernel)) (fun hb => absurd hb (by decide)) (fun _ H1 e1 => ?_)
      refine q_when (et_kw (b := false) (ev_var rfl) (hsH.mono e1) (show decide (("pass" : Str) = "delay") = false by decide +kernel)) (fun hb => absurd hb (by decide)) (fun _ H2 e2 => ?_)
      refine q_when (et_kw (b := false) (ev_var rfl) (hsH.mono (e1.trans e2)) (show decide (("pass" : Str) = "smooth") = false by decide +kernel)) (fun hb => absurd hb (by decide)) (fun _ H3 e3 => ?_)
      refine q_when (et_kw (b := false) (ev_var rfl) (hsH.mono ((e1.trans e2).trans e3)) (show decide (("pass" : Str) = "ahead") = false by decide +kernel)) (fun hb => absurd hb (by decide)) (fun _ H4 e4 => ?_)
      have s4 : Stp S0 F H F H4 := (Stp.refl hF).pure (((e1.trans e2).trans e3).trans e4)
      intro x dx hx hdx nd
      have e5 : Ex H4 (upd (upd H4 dx (.own x)) x (.ins T.c_Pass dx [])) := (Ex.new hdx).trans (Ex.new (by rw [upd_ne nd.symm]; exact hx))
      exact k x F _ (s4.pure e5) (s4.fresh hx) (s4.freshF hx) ⟨rfl, dx, upd_same⟩
end K37

/-! K37, part 9: the law's value, is_row, meant, late. -/
namespace K37
open PySem L2 Evl
variable {P : Program} {w : World} {K : PySem.W.Frag} {mg : Str → Option Value} {base : Heap}

/-! ### value -/
def sp_l_value (T : Tx K mg) : Sp := fun vs H Q _ => ∃ (a : Addr) (ps : List Pnt) (f : Int), vs = [.ref a, .int f] ∧ IsPl H a ps ∧ PvOk ps ∧ RetV (.int (valN ps f)) H Q
theorem v_l_value (T : Tx K mg) {H : Hp} {a : Addr} {ps : List Pnt} (f : Int) (h : IsPl H a ps) (hp : PvOk ps) : SpV (sp_l_value T) [.ref a, .int f] H (.int (valN ps f)) := fun _ e _ q _ => ⟨a, ps, f, rfl, h.mono e, hp, q⟩
theorem lawV_drop {f x : Int} {ps : List Pnt} {i : Nat} {p : Pnt} (h : ps[i]? = some p) : lawV f x (ps.drop i) = lawV f (if (p.1 : Int) ≤ f then (match ps[i + 1]? with | none => p.2 | some q => if (q.1 : Int) > f then lerp p.1 p.2 q.1 q.2 f else p.2) else x) (ps.drop (i + 1)) := by
  have hi := List.getElem?_eq_some_iff.mp h
  have e : ps[i + 1]? = (ps.drop (i + 1))[0]? := by rw [List.getElem?_drop]
  rw [e]
  conv => lhs; rw [← List.getElem_cons_drop hi.1, hi.2]
  unfold lawV
  cases ps.drop (i + 1) <;> rfl
theorem ok_l_value (T : Tx K mg) : FnOk P w K mg base CX0 1 T.a_l_value T.d_l_value P_l_value (sp_l_value T) := by
  refine T.F_l_value.ok sc_l_value (fun vs H Q E h => ?_) (fun cdv A outer s H vs Q E hr h => ?_)
  · obtain ⟨a, ps, f, rfl, _⟩ := h
    rfl
  · obtain ⟨a, ps, f, rfl, ⟨es, ha, ht⟩, hv, k⟩ := h
    refine ⟨_, (pss_cons (ps_set (i := 2) sc_l_value.nd rfl (.inl rfl) (pe_ix ix_seq (pe_ix ix_seq (pv 0) pe_int (fun _ _ => rfl)) pe_int (fun _ _ => rfl))) (pss_cons (ps_for PassesOwn.never rfl (pi_range1 (by rfl) T.z_range (pa_cons (pe_callB call_len_seq (by rfl) T.z_len (by decide +kernel) (pa_cons (pv 0) pa_nil)) pa_nil)) (pg_name (i := 3) sc_l_value.nd rfl (.inl rfl)) (pss_one (ps_if (pt_cmpR op_le (pe_ix ix_seq (pe_ix ix_seq (pv 0) (pv 3) (fun _ _ => rfl)) pe_int (fun _ _ => rfl)) (pv 1) (nomark _)) (pss_cons (ps_set (i := 2) sc_l_value.nd rfl (.inl rfl) (pe_ix ix_seq (pe_ix ix_seq (pv 0) (pv 3) (fun _ _ => rfl)) pe_int (fun _ _ => rfl))) (pss_one (ps_if (PW.pt (pw_and (pt_cmpR op_lt (pe_op op_add (pv 3) pe_int) (pe_callB call_len_seq (by rfl) T.z_len (by decide +kernel) (pa_cons (pv 0) pa_nil)) (nomark _)) (pw_and1 (pt_cmpR op_gt (pe_ix ix_seq (pe_ix ix_seq (pv 0) (pe_op op_add (pv 3) pe_int) (fun _ _ => rfl)) pe_int (fun _ _ => rfl)) (pv 1) (nomark _))))) (pss_cons (ps_set (i := 4) sc_l_value.nd rfl (.inl rfl) (pe_op op_sub (pe_ix ix_seq (pe_ix ix_seq (pv 0) (pe_op op_add (pv 3) pe_int) (fun _ _ => rfl)) pe_int (fun _ _ => rfl)) (pe_ix ix_seq (pe_ix ix_seq (pv 0) (pv 3) (fun _ _ => rfl)) pe_int (fun _ _ => rfl)))) (pss_one (ps_set (i := 2) sc_l_value.nd rfl (.inl rfl) (pe_op op_add (pe_ix ix_seq (pe_ix ix_seq (pv 0) (pv 3) (fun _ _ => rfl)) pe_int (fun _ _ => rfl)) (pe_op op_fdiv (pe_op op_mul (pe_op op_sub (pe_ix ix_seq (pe_ix ix_seq (pv 0) (pe_op op_add (pv 3) pe_int) (fun _ _ => rfl)) pe_int (fun _ _ => rfl)) (pe_ix ix_seq (pe_ix ix_seq (pv 0) (pv 3) (fun _ _ => rfl)) pe_int (fun _ _ => rfl))) (pe_op op_sub (pv 1) (pe_ix ix_seq (pe_ix ix_seq (pv 0) (pv 3) (fun _ _ => rfl)) pe_int (fun _ _ => rfl)))) (pv 4)))))) pss_nil))) pss_nil))) (pss_one (ps_ret (pv 2))))), ?_⟩
    have hl : (es.map V.ref).length = ps.length := by rw [List.length_map, ht.1]
    have hlen := hv.len
    obtain ⟨p0, hp0⟩ : ∃ p, ps[0]? = some p := get_of_lt hv.ne
    obtain ⟨a0, h0, h0t⟩ := ht.get hp0
    have hfin : lawV f p0.2 ps = valN ps f := lawV_val f ps p0.2 hv.mono (fun p hp => by rw [hp0] at hp; cases hp; exact .inl rfl) hv.ne
    refine q_asg (ev_op (ev_op (ev_var rfl) ev_c (rv_iL (sq_of ha) (at_mapz h0 rfl))) ev_c (rv_iT (st_of h0t) rfl)) fun H1 e1 => ?_
    refine q_forR1 (n := ((es.map V.ref).length : Nat)) (ea_cons (ev_len (ev_var rfl) (sq_of (e1 _ _ ha))) ea_nil) ⟨by omega, by omega⟩ (fun i σ' H' => Ex H H' ∧ ∃ (x : Int) (x3 x4 : Option V), σ' = [some (.ref a), some (.int f), some (.int x), x3, x4] ∧ lawV f x (ps.drop i) = valN ps f)
      (fun H2 e2 => ⟨e1.trans e2, p0.2, none, none, rfl, by rw [List.drop_zero]; exact hfin⟩) ?_ ?_
    · rintro i σ' H' hi ⟨e2, x, x3, x4, rfl, hx⟩
      have hit : i < ps.length := by omega
      obtain ⟨p, hp⟩ := get_of_lt hit
      obtain ⟨ea, hea, hea2⟩ := (ht.mono e2).get hp
      rw [lawV_drop hp] at hx
      refine s_when (et_test (ev_op (ev_op (ev_op (ev_var rfl) (ev_var rfl) (rv_iL (sq_of (e2 _ _ ha)) (at_map hea))) ev_c (rv_iT (st_of hea2) rfl)) (ev_var rfl) rv_I0)) (fun hb H3 e3 => ?_) (fun hb H3 e3 => ?_)
      · have hpf := of_decide_eq_true hb
        rw [if_pos hpf] at hx
        refine q_asg (ev_op (ev_op (ev_var rfl) (ev_var rfl) (rv_iL (sq_of (e3 _ _ (e2 _ _ ha))) (at_map hea))) ev_c (rv_iT (st_of (e3 _ _ hea2)) rfl)) fun H4 e4 => ?_
        have e24 := (e2.trans e3).trans e4
        have heA := (e3.trans e4) _ _ hea2
        cases hq : ps[i + 1]? with
        | none =>
          rw [hq] at hx
          have hnl : ps.length ≤ i + 1 := List.getElem?_eq_none_iff.mp hq
          refine s_when (et_and (a := decide ((i : Int) + 1 < ((es.map V.ref).length : Nat))) (b := false) (et_test (ev_op (ev_op (ev_var rfl) ev_c rv_I0) (ev_len (ev_var rfl) (sq_of (e24 _ _ ha))) rv_I0)) (fun h => ?_)) (fun hb2 H5 e5 => ?_) (fun hb2 H5 e5 => ?_)
          · exact absurd (of_decide_eq_true h) (by omega)
          · rw [Bool.and_false] at hb2; cases hb2
          · exact ⟨e24.trans e5, _, _, _, rfl, hx⟩
        | some q =>
          rw [hq] at hx
          have hnl := (List.getElem?_eq_some_iff.mp hq).1
          obtain ⟨eb, heb, heb2⟩ := (ht.mono e24).get hq
          have hi1 : (i : Int) + 1 = ((i + 1 : Nat) : Int) := by omega
          refine s_when (et_and (a := decide ((i : Int) + 1 < ((es.map V.ref).length : Nat))) (b := decide (f < (q.1 : Int))) (et_test (ev_op (ev_op (ev_var rfl) ev_c rv_I0) (ev_len (ev_var rfl) (sq_of (e24 _ _ ha))) rv_I0)) (fun h => et_test (ev_op (ev_op (ev_op (ev_var rfl) (ev_op (ev_var rfl) ev_c rv_I0) (rv_iL (sq_of (e24 _ _ ha)) (at_mapz heb hi1))) ev_c (rv_iT (st_of heb2) rfl)) (ev_var rfl) rv_I0))) (fun hb2 H5 e5 => ?_) (fun hb2 H5 e5 => ?_)
          · have hqf : f < (q.1 : Int) := by
              rw [Bool.and_eq_true] at hb2
              exact of_decide_eq_true hb2.2
            dsimp only at hx
            rw [if_pos hqf] at hx
            have e25 := e24.trans e5
            have A := sq_of (K := K) (e25 _ _ ha)
            have tp := st_of (K := K) (e5 _ _ heA)
            have tq := st_of (K := K) (e5 _ _ heb2)
            refine q_asg (ev_op (ev_op (ev_op (ev_var rfl) (ev_op (ev_var rfl) ev_c rv_I0) (rv_iL A (at_mapz heb hi1))) ev_c (rv_iT tq rfl)) (ev_op (ev_op (ev_var rfl) (ev_var rfl) (rv_iL A (at_map hea))) ev_c (rv_iT tp rfl)) rv_I0) fun H6 e6 => ?_
            have A := ex_l e6 A
            have tp := ex_t e6 tp
            have tq := ex_t e6 tq
            have hq2 := hv.frm q (mem_of_get hq)
            refine s_asg (ev_op (ev_op (ev_op (ev_var rfl) (ev_var rfl) (rv_iL A (at_map hea))) ev_c (rv_iT tp rfl)) (ev_op (ev_op (ev_op (ev_op (ev_op (ev_var rfl) (ev_op (ev_var rfl) ev_c rv_I0) (rv_iL A (at_mapz heb hi1))) ev_c (rv_iT tq rfl)) (ev_op (ev_op (ev_var rfl) (ev_var rfl) (rv_iL A (at_map hea))) ev_c (rv_iT tp rfl)) rv_I0)
              (ev_op (ev_var rfl) (ev_op (ev_op (ev_var rfl) (ev_var rfl) (rv_iL A (at_map hea))) ev_c (rv_iT tp rfl)) rv_I0) (rv_I (.inl (gain64 (hv.val q (mem_of_get hq)) (hv.val p (mem_of_get hp)))))) (ev_var rfl) (rv_I ⟨by omega, by omega⟩)) rv_I0) fun H7 e7 => ?_
            exact ⟨(e25.trans e6).trans e7, _, _, _, rfl, hx⟩
          · have hqf : ¬ f < (q.1 : Int) := by
              rw [Bool.and_eq_false_iff] at hb2
              rcases hb2 with h | h
              · exact absurd (of_decide_eq_false h) (by omega)
              · exact of_decide_eq_false h
            dsimp only at hx
            rw [if_neg hqf] at hx
            exact ⟨e24.trans e5, _, _, _, rfl, hx⟩
      · have hpf := of_decide_eq_false hb
        rw [if_neg hpf] at hx
        exact ⟨e2.trans e3, _, _, _, rfl, hx⟩
    · rintro σ' H' ⟨e2, x, x3, x4, rfl, hx⟩
      rw [show (((es.map V.ref).length : Nat) : Int).toNat = ps.length by omega, List.drop_length] at hx
      have hx : x = valN ps f := hx
      subst hx
      exact s_ret (ev_var rfl) fun H3 e3 => k H3 (e2.trans e3)

/-! ### is_row -/
def sp_l_is_row (T : Tx K mg) : Sp := fun vs H Q _ => ∃ (a b : Addr) (xs : List Int), vs = [.ref a, .ref b] ∧ H a = some (.lst (xs.map V.int)) ∧ H b = some (.lst (xs.map V.int)) ∧ xs.length ≤ 1000 ∧ RetV (.bl true) H Q
theorem v_l_is_row (T : Tx K mg) {H : Hp} {a b : Addr} {xs : List Int} (ha : H a = some (.lst (xs.map V.int))) (hb : H b = some (.lst (xs.map V.int))) (hl : xs.length ≤ 1000) : SpV (sp_l_is_row T) [.ref a, .ref b] H (.bl true) := fun _ e _ q _ => ⟨a, b, xs, rfl, e _ _ ha, e _ _ hb, hl, q⟩
theorem ok_l_is_row (T : Tx K mg) : FnOk P w K mg base CX0 1 T.a_l_is_row T.d_l_is_row P_l_is_row (sp_l_is_row T) := by
  refine T.F_l_is_row.ok sc_l_is_row (fun vs H Q E h => ?_) (fun cdv A outer s H vs Q E hr h => ?_)
  · obtain ⟨a, b, xs, rfl, _⟩ := h
    rfl
  · obtain ⟨a, b, xs, rfl, ha, hb, hlen, k⟩ := h
    refine ⟨_, (pss_cons (ps_if (PW.pt (pw_or (pt_not (pt_val (pe_callB call_isi (by rfl) T.z_isinstance (by decide +kernel) (pa_cons (pv 0) (pa_cons (pe_bltn (v := .ty "list") (by rfl) T.z_list (by decide +kernel) rfl) pa_nil))))) (pw_or1 (pt_cmpR op_ne (pe_callB call_len_seq (by rfl) T.z_len (by decide +kernel) (pa_cons (pv 0) pa_nil)) (pe_callB call_len_seq (by rfl) T.z_len (by decide +kernel) (pa_cons (pv 1) pa_nil)) (nomark _))))) (pss_one (ps_ret pe_bl)) pss_nil) (pss_cons (ps_for PassesOwn.never rfl (pi_range1 (by rfl) T.z_range (pa_cons (pe_callB call_len_seq (by rfl) T.z_len (by decide +kernel) (pa_cons (pv 1) pa_nil)) pa_nil)) (pg_name (i := 2) sc_l_is_row.nd rfl (.inl rfl)) (pss_one (ps_if (PW.pt (pw_or (pt_not (pt_val (pe_callB call_isi (by rfl) T.z_isinstance (by decide +kernel) (pa_cons (pe_ix ix_seq (pv 0) (pv 2) (fun _ _ => rfl)) (pa_cons (pe_bltn (v := .ty "int") (by rfl) T.z_int (by decide +kernel) rfl) pa_nil))))) (pw_or (pt_val (pe_callB call_isi (by rfl) T.z_isinstance (by decide +kernel) (pa_cons (pe_ix ix_seq (pv 0) (pv 2) (fun _ _ => rfl)) (pa_cons (pe_bltn (v := .ty "bool") (by rfl) T.z_bool (by decide +kernel) rfl) pa_nil)))) (pw_or1 (pt_cmpR op_ne (pe_ix ix_seq (pv 0) (pv 2) (fun _ _ => rfl)) (pe_ix ix_seq (pv 1) (pv 2) (fun _ _ => rfl)) (nomark _)))))) (pss_one (ps_ret pe_bl)) pss_nil))) (pss_one (ps_ret pe_bl)))), ?_⟩
    have hxl : (xs.map V.int).length = xs.length := List.length_map ..
    refine q_when (et_or (a := false) (b := false) (et_not (et_B (ev_isi_ll (ev_var rfl) ha))) (fun _ => et_is (et_test (ev_op (ev_len (ev_var rfl) (sq_of ha)) (ev_len (ev_var rfl) (sq_of hb)) (rv_ne rfl))) ?_)) (fun h => absurd h (by decide)) (fun _ H1 e1 => ?_)
    · rw [decide_eq_true rfl]; rfl
    refine q_forR1 (n := ((xs.map V.int).length : Nat)) (ea_cons (ev_len (ev_var rfl) (sq_of (e1 _ _ hb))) ea_nil) ⟨by omega, by omega⟩ (fun i σ' H' => Ex H H' ∧ ∃ x3 : Option V, σ' = [some (.ref a), some (.ref b), x3])
      (fun H2 e2 => ⟨e1.trans e2, none, rfl⟩) ?_ ?_
    · rintro i σ' H' hi ⟨e2, x3, rfl⟩
      obtain ⟨x, hx⟩ : ∃ x, xs[i]? = some x := get_of_lt (by omega)
      have A := ev_op (σ := [some (.ref a), some (.ref b), some (.int (i : Int))]) (ta := tVar 0) (tb := tVar 2) (ev_var rfl) (ev_var rfl) (rv_iL (K := K) (sq_of (e2 _ _ ha)) (at_map hx))
      have B := ev_op (σ := [some (.ref a), some (.ref b), some (.int (i : Int))]) (ta := tVar 1) (tb := tVar 2) (ev_var rfl) (ev_var rfl) (rv_iL (K := K) (sq_of (e2 _ _ hb)) (at_map hx))
      refine s_when (et_or (a := false) (b := false) (et_not (et_B (ev_isi_ii A))) (fun _ => et_or (a := false) (b := false) (et_B (ev_isi_ib A)) fun _ => et_is (et_test (ev_op A B (rv_ne rfl))) ?_)) (fun h => absurd h (by decide)) (fun _ H3 e3 => ⟨e2.trans e3, _, rfl⟩)
      rw [decide_eq_true rfl]; rfl
    · rintro σ' H' ⟨e2, x3, rfl⟩
      exact s_ret ev_c fun H3 e3 => k H3 (e2.trans e3)

/-! ### parts -/
def IsParts (H : Hp) (a : Addr) (ps : List Pt) : Prop := ∃ es : List Addr, H a = some (.lst (es.map V.ref)) ∧ es.length = ps.length ∧ ∀ (i : Nat) (e : Addr) (p : Pt), es[i]? = some e → ps[i]? = some p → IsSp H e p
theorem IsParts.mono {H H' : Hp} {a : Addr} {ps : List Pt} (e : Ex H H') : IsParts H a ps → IsParts H' a ps := fun ⟨es, h, l, t⟩ => ⟨es, e _ _ h, l, fun i x p h1 h2 => (t i x p h1 h2).mono e⟩
theorem ref_get {es : List Addr} {i : Nat} {v : V} (h : (es.map V.ref)[i]? = some v) : ∃ e, v = .ref e ∧ es[i]? = some e := by
  rw [List.getElem?_map] at h
  cases q : es[i]? with
  | none => rw [q] at h; cases h
  | some x => rw [q] at h; exact ⟨x, (Option.some.inj h).symm, rfl⟩

/-! ### late -/
def latesM : Nat → List Pt → List Int
  | l, [] => [(l : Int)]
  | l, p :: r => (l : Int) :: latesM (l + latP p) r
theorem latesM_len : ∀ (ps : List Pt) (l : Nat), (latesM l ps).length = ps.length + 1
  | [], _ => rfl
  | p :: r, l => by unfold latesM; rw [List.length_cons, List.length_cons, latesM_len r]
def sp_l_late (T : Tx K mg) : Sp := fun vs H Q _ => ∃ (a : Addr) (F : Hp) (ps : List Pt), vs = [.ref a] ∧ Ex F H ∧ IsParts F a ps ∧ ps.length ≤ 1000 ∧ ∀ q F' H', Stp S0 F H F' H' → F' q = some (.lst ((latesM 0 ps).map V.int)) → Q (.ref q) H'
theorem ok_l_late (T : Tx K mg) : FnOk P w K mg base CX0 2 T.a_l_late T.d_l_late P_l_late (sp_l_late T) := by
  refine T.F_l_late.ok sc_l_late (fun vs H Q E h => ?_) (fun cdv A outer s H vs Q E hr h => ?_)
  · obtain ⟨a, F, ps, rfl, _⟩ := h
    rfl
  · obtain ⟨a, F, ps, rfl, hF, ⟨es, ha, hel, hes⟩, hlen, k⟩ := h
    refine ⟨_, (pss_cons (ps_set (i := 1) sc_l_late.nd rfl (.inl rfl) (pe_lst (pa_cons pe_int pa_nil))) (pss_cons (ps_for PassesOwn.never rfl (pi_list (pv 0)) (pg_name (i := 2) sc_l_late.nd rfl (.inl rfl)) (pss_one (ps_if (pt_cmpR op_eq (pe_ix ix_seq (pv 2) pe_int (fun _ _ => rfl)) pe_str (nomark _)) (pss_one (ps_expr (pe_bm PySem.F.plainAttrs_list PySem.F.slot_list_append PySem.F.type_list_append mt_append (pv 1) (pa_cons (pe_op op_add (pe_ix ix_seq (pv 1) (pe_un un_neg pe_int) (fun _ _ => rfl)) (pe_ix ix_seq (pv 2) pe_int (fun _ _ => rfl))) pa_nil)))) (pss_one (ps_expr (pe_bm PySem.F.plainAttrs_list PySem.F.slot_list_append PySem.F.type_list_append mt_append (pv 1) (pa_cons (pe_op op_add (pe_ix ix_seq (pv 1) (pe_un un_neg pe_int) (fun _ _ => rfl)) (pe_call (ok_latency_of T) (hr.mono (by decide)) (by rfl) T.g_latency_of T.F_latency_of.kp T.b_latency_of .nil pass0 (pa_cons (pv 2) pa_nil))) pa_nil))))))) (pss_one (ps_ret (pv 1))))), ?_⟩
    have hl : (es.map V.ref).length = ps.length := by rw [List.length_map, hel]
    refine q_asgL (el_lst (ea_cons ev_c ea_nil) (show 1 ≤ 100000 by decide)) fun f H1 hf e1 h1 => ?_
    have hFf := (Stp.refl (S := S0) hF).freshF hf
    refine q_forL (ev_var rfl) (sq_of (e1 _ _ (hF _ _ ha))) (fun i σ' H' => Stp S0 F H F H' ∧ ∃ (L : List Int) (l : Nat) (x2 : Option V), σ' = [some (.ref a), some (.ref f), x2] ∧ L.length = i ∧ H' f = some (.lst ((L ++ [(l : Int)]).map V.int)) ∧ L ++ latesM l (ps.drop i) = latesM 0 ps)
      (fun H2 e2 => ⟨(Stp.refl hF).pure (e1.trans e2), [], 0, none, rfl, rfl, e2 _ _ h1, rfl⟩) (fun i σ' H' _ p => sq_of (p.1.ex' _ _ ha)) ?_ ?_
    · rintro i v σ' H' hv ⟨s1, L, l, x2, rfl, hL, hf1, hr⟩
      obtain ⟨e, rfl, he⟩ := ref_get hv
      have hi := (List.getElem?_eq_some_iff.mp he).1
      obtain ⟨p, hp⟩ : ∃ p, ps[i]? = some p := get_of_lt (by omega)
      have hsp := (hes i e p he hp).mono s1.ex'
      have hpi := List.getElem?_eq_some_iff.mp hp
      rw [← List.getElem_cons_drop hpi.1, hpi.2] at hr
      have fin : ∀ H2, Ex H' H2 → Stp S0 F H F (upd H2 f (.lst ((L ++ [(l : Int)]).map V.int ++ [.int ((l : Int) + latP p)]))) ∧ ∃ (L' : List Int) (l' : Nat) (x2 : Option V), [some (V.ref a), some (.ref f), some (.ref e)] = [some (V.ref a), some (.ref f), x2] ∧ L'.length = i + 1 ∧
          (upd H2 f (.lst ((L ++ [(l : Int)]).map V.int ++ [.int ((l : Int) + latP p)]))) f = some (.lst ((L' ++ [(l' : Int)]).map V.int)) ∧ L' ++ latesM l' (ps.drop (i + 1)) = latesM 0 ps := fun H2 e2 => by
        refine ⟨(s1.pure e2).mut (.inr hf) hFf, L ++ [(l : Int)], l + latP p, _, rfl, by rw [List.length_append, hL]; rfl, ?_, ?_⟩
        · rw [upd_same, List.map_append (l₁ := L ++ [(l : Int)]), Int.natCast_add]; rfl
        · rw [← hr, List.append_assoc]; rfl
      have lastA := at_mapl (f := V.int) (xs := L) (x := (l : Int))
      by_cases hpl : ∃ n, p = .line n
      · obtain ⟨n, rfl⟩ := hpl
        refine s_if (et_kw (b := true) (ev_var rfl) hsp (show decide (("line" : Str) = "line") = true by decide +kernel)) (fun _ H2 e2 => ?_) (fun hb => absurd hb (by decide))
        refine s_app (e2 _ _ hf1) (ev_var rfl) (ev_op (ev_op (ev_var rfl) (ev_neg ev_c) (rv_iL (sq_of (e2 _ _ hf1)) lastA)) (ev_op (ev_var rfl) ev_c (rv_iT (st_of (hsp.mono e2)) rfl)) rv_I0) (by rw [List.length_map, List.length_append, hL]; show i + 1 < 100000; omega) fun H3 e3 => ?_
        exact fin H3 (e2.trans e3)
      · have hb : decide (kw p = ("line" : Str)) = false := by
          cases p with
          | line n => exact absurd ⟨n, rfl⟩ hpl
          | pass => exact (by decide +kernel : decide (("pass" : Str) = "line") = false)
          | gain ps => exact (by decide +kernel : decide (("gain" : Str) = "line") = false)
          | delay n fb own => exact (by decide +kernel : decide (("delay" : Str) = "line") = false)
          | smooth n => exact (by decide +kernel : decide (("smooth" : Str) = "line") = false)
          | ahead n c => exact (by decide +kernel : decide (("ahead" : Str) = "line") = false)
        refine s_if (et_kw (b := false) (ev_var rfl) hsp hb) (fun hb => absurd hb (by decide)) (fun _ H2 e2 => ?_)
        refine s_app (e2 _ _ hf1) (ev_var rfl) (ev_op (ev_op (ev_var rfl) (ev_neg ev_c) (rv_iL (sq_of (e2 _ _ hf1)) lastA)) (ev_call0 (ea_cons (ev_var rfl) ea_nil) (v_latency T (hsp.mono e2) fun n h => hpl ⟨n, h⟩)) rv_I0) (by rw [List.length_map, List.length_append, hL]; show i + 1 < 100000; omega) fun H3 e3 => ?_
        exact fin H3 (e2.trans e3)
    · rintro σ' H' ⟨s1, L, l, x2, rfl, hL, hf1, hr⟩
      rw [hl, List.drop_length] at hr
      have hr : L ++ [(l : Int)] = latesM 0 ps := hr
      rw [hr] at hf1
      refine s_ret (ev_var rfl) fun H3 e3 => ?_
      exact k f _ H3 ((s1.pure e3).freeze hf (e3 _ _ hf1)) upd_same
end K37

/-! K37, part 10: the law's meaning of an effect over a whole row. -/
namespace K37
open PySem L2 Evl
variable {P : Program} {w : World} {K : PySem.W.Frag} {mg : Str → Option Value} {base : Heap}

/-- a comprehension that makes tuples: where it stands at turn i -/
def PvT {α : Type} (F H : Hp) (Dl : Addr) (f : α → List V) (ys : List α) (i : Nat) (H' : Hp) : Prop := ∃ F', Stp S0 F H F' H' ∧ F' Dl = none ∧ ∃ ds : List Addr, H' Dl = some (.lst (ds.map V.ref)) ∧ TupL F' ds f (ys.take i)
theorem tup_turn {α : Type} {F H H' : Hp} {Dl : Addr} {f : α → List V} {ys : List α} {i : Nat} {y : α} {te : TE} {σ2 : L2.St} (hD : H Dl = none) (p : PvT F H Dl f ys i H') (hy : ys[i]? = some y) (hz : ys.length ≤ 1000) (he : EvU te σ2 H' (f y)) :
    tYes σ2 H' fun b H3 => if b = true then te σ2 H3 fun y H4 => ∃ acc, H4 Dl = some (.lst acc) ∧ acc.length < sizeLine ∧ PvT F H Dl f ys (i + 1) (upd H4 Dl (.lst (acc ++ [y]))) else PvT F H Dl f ys (i + 1) H3 := by
  obtain ⟨F', s1, hFD, ds, hD1, hds⟩ := p
  dsimp only [tYes]
  rw [if_pos rfl]
  have hi := (List.getElem?_eq_some_iff.mp hy).1
  have dl : ds.length = i := by rw [hds.1, List.length_take]; omega
  refine he H' (Ex.refl H') _ fun p H4 hp4 e4 h4 => ?_
  have s4 := (s1.pure e4).freeze (s1.fresh hp4) h4
  have hFD4 : (upd F' p (.tup (f y))) Dl = none := by rw [upd_ne (ne_of_none hD1 hp4)]; exact hFD
  refine ⟨ds.map V.ref, e4 _ _ hD1, sz_lt (by rw [List.length_map]; omega), _, s4.mut (.inr hD) hFD4, hFD4, ds ++ [p], ?_, ?_⟩
  · rw [upd_same, List.map_append]; rfl
  · rw [take_snoc hy]
    exact (hds.mono (Ex.new (s1.freshF hp4))).snoc upd_same
theorem PvT.start {α : Type} {F H : Hp} {Dl : Addr} {f : α → List V} {ys : List α} (hF : Ex F H) (hD : H Dl = none) : PvT F H Dl f ys 0 (upd H Dl (.lst [])) :=
  ⟨F, (Stp.refl hF).mut (.inr hD) ((Stp.refl (S := S0) hF).freshF hD), (Stp.refl (S := S0) hF).freshF hD, [], upd_same, .nil⟩
theorem PvT.fin {α : Type} {F H H' : Hp} {Dl : Addr} {f : α → List V} {ys : List α} {n : Nat} (hD : H Dl = none) (p : PvT F H Dl f ys n H') (hn : ys.length ≤ n) : ∃ F' es, Stp S0 F H F' H' ∧ F' Dl = some (.lst (es.map V.ref)) ∧ TupL F' es f ys := by
  obtain ⟨F', s1, hFD, ds, hD1, hds⟩ := p
  rw [List.take_of_length_le hn] at hds
  exact ⟨_, ds, s1.freeze hD hD1, upd_same, hds.mono (Ex.new hFD)⟩

/-! ### the windows of an ahead -/
theorem win_get {n i j : Nat} {row : List Int} (hj : j ≤ n) (hi : i < row.length) : (((zer n ++ row).drop i).take (n + 1))[j]? = some (if (i : Int) - n + j < 0 then 0 else row.getD ((i : Int) - n + j).toNat 0) := by
  rw [List.getElem?_take, if_pos (by omega), List.getElem?_drop]
  unfold zer
  by_cases h : i + j < n
  · rw [List.getElem?_append_left (by simpa using h), List.getElem?_replicate, if_pos h, if_pos (by omega)]
  · rw [List.getElem?_append_right (by simp; omega), List.length_replicate, if_neg (by omega), List.getD_eq_getElem?_getD, show ((i : Int) - n + j).toNat = i + j - n by omega, List.getElem?_eq_getElem (by omega)]
    rfl
theorem win_len {n i : Nat} {row : List Int} (hi : i < row.length) : (((zer n ++ row).drop i).take (n + 1)).length = n + 1 := by
  unfold zer
  simp
  omega

def sp_l_meant (T : Tx K mg) : Sp := fun vs H Q _ => ∃ (a b c : Addr) (mo : Int) (F : Hp) (ts : List Ent) (p : Pt) (row : List Int), vs = [.ref a, .ref b, .ref c, .int mo] ∧ Ex F H ∧ IsSp F a p ∧ (∀ n, p ≠ .line n) ∧ PtOk p ∧ IsTs F b ts ∧ TsOk ts ∧ F c = some (.lst (row.map V.int)) ∧ (∀ x ∈ row, Smp x) ∧ row.length ≤ 1000 ∧
  ∀ q F' H', Stp S0 F H F' H' → F' q = some (.lst ((runP ts p (initP p) mo row).2.map V.int)) → Q (.ref q) H'
theorem ok_l_meant (T : Tx K mg) : FnOk P w K mg base CX0 3 T.a_l_meant T.d_l_meant P_l_meant (sp_l_meant T) := by
  refine T.F_l_meant.ok sc_l_meant (fun vs H Q E h => ?_) (fun cdv A outer s H vs Q E hr h => ?_)
  · obtain ⟨a, b, c, mo, F, ts, p, row, rfl, _⟩ := h
    rfl
  · obtain ⟨a, b, c, mo, F, ts, p, row, rfl, hF, hsp, hnl, hp, hts, hd, hc, hrow, hlen, k⟩ := h
    refine ⟨_, (pss_cons (ps_set (i := 4) sc_l_meant.nd rfl (.inl rfl) (pe_lst pa_nil)) (pss_cons (ps_set (i := 5) sc_l_meant.nd rfl (.inl rfl) (pe_lst pa_nil)) (pss_cons (ps_set (i := 6) sc_l_meant.nd rfl (.inl rfl) (pe_lst pa_nil)) (pss_cons (ps_if (pt_cmpR op_eq (pe_ix ix_seq (pv 0) pe_int (fun _ _ => rfl)) pe_str (nomark _)) (pss_one (ps_setLc (i := 6) (own := [("_law_point", 11)]) (g := (gName 11)) (tt := tYes) (te := (tTup (tCons (tCall (sp_l_frame T) [] E0 (tCons (tVar 1) (tCons (tOp (rIx K) (tVar 11) (tC (.int 0))) tNil))) (tCons (tOp (rIx K) (tVar 11) (tC (.int 1))) tNil)))) rfl sc_l_meant.nd rfl rfl (sw_true rfl rfl rfl (by decide +kernel)) (pi_tup (pe_ix ix_seq (pv 0) pe_int (fun _ _ => rfl))) (blkOk_by (N := N_l_meant) (sc := defScope s_l_meant) (by decide +kernel)) (fun _ _ _ _ _ => (pg_name (i := 11) sc_l_meant.nd rfl (.inl rfl))) (fun _ _ _ _ _ => pts_nil) (fun _ _ _ _ _ => (pe_tup (pa_cons (pe_call (ok_l_frame T) (hr.mono (by decide)) (by rfl) T.g_l_frame T.F_l_frame.kp T.b_l_frame .nil pass0 (pa_cons (pv 1) (pa_cons (pe_ix ix_seq (pv 11) pe_int (fun _ _ => rfl)) pa_nil))) (pa_cons (pe_ix ix_seq (pv 11) pe_int (fun _ _ => rfl)) pa_nil)))))) pss_nil) (pss_cons (ps_for PassesOwn.never rfl (pi_range1 (by rfl) T.z_range (pa_cons (pe_callB call_len_seq (by rfl) T.z_len (by decide +kernel) (pa_cons (pv 2) pa_nil)) pa_nil)) (pg_name (i := 7) sc_l_meant.nd rfl (.inl rfl)) (pss_one (ps_if (pt_cmpR op_eq (pe_ix ix_seq (pv 0) pe_int (fun _ _ => rfl)) pe_str (nomark _)) (pss_one (ps_expr (pe_bm PySem.F.plainAttrs_list PySem.F.slot_list_append PySem.F.type_list_append mt_append (pv 4) (pa_cons (pe_call (ok_l_through T) (hr.mono (by decide)) (by rfl) T.g_l_through T.F_l_through.kp T.b_l_through .nil pass0 (pa_cons (pe_ix ix_seq (pv 2) (pv 7) (fun _ _ => rfl)) (pa_cons (pe_call (ok_l_value T) (hr.mono (by decide)) (by rfl) T.g_l_value T.F_l_value.kp T.b_l_value .nil pass0 (pa_cons (pv 6) (pa_cons (pe_callB (call_max2 rfl) (by rfl) T.z_max (by decide +kernel) (pa_cons pe_int (pa_cons (pe_op op_add (pv 3) (pv 7)) pa_nil))) pa_nil))) pa_nil))) pa_nil)))) (pss_one (ps_if (pt_cmpR op_eq (pe_ix ix_seq (pv 0) pe_int (fun _ _ => rfl)) pe_str (nomark _)) (pss_cons (ps_set (i := 8) sc_l_meant.nd rfl (.inl rfl) (pe_call (ok_l_before T) (hr.mono (by decide)) (by rfl) T.g_l_before T.F_l_before.kp T.b_l_before .nil pass0 (pa_cons (pv 5) (pa_cons (pe_op op_sub (pv 7) (pe_ix ix_seq (pv 0) pe_int (fun _ _ => rfl))) pa_nil)))) (pss_cons (ps_expr (pe_bm PySem.F.plainAttrs_list PySem.F.slot_list_append PySem.F.type_list_append mt_append (pv 5) (pa_cons (pe_call (ok_l_cut T) (hr.mono (by decide)) (by rfl) T.g_l_cut T.F_l_cut.kp T.b_l_cut .nil pass0 (pa_cons (pe_op op_add (pe_ix ix_seq (pv 2) (pv 7) (fun _ _ => rfl)) (pe_call (ok_l_through T) (hr.mono (by decide)) (by rfl) T.g_l_through T.F_l_through.kp T.b_l_through .nil pass0 (pa_cons (pv 8) (pa_cons (pe_ix ix_seq (pv 0) pe_int (fun _ _ => rfl)) pa_nil)))) pa_nil)) pa_nil))) (pss_one (ps_expr (pe_bm PySem.F.plainAttrs_list PySem.F.slot_list_append PySem.F.type_list_append mt_append (pv 4) (pa_cons (pe_call (ok_l_cut T) (hr.mono (by decide)) (by rfl) T.g_l_cut T.F_l_cut.kp T.b_l_cut .nil pass0 (pa_cons (pe_op op_add (pe_ix ix_seq (pv 2) (pv 7) (fun _ _ => rfl)) (pe_call (ok_l_through T) (hr.mono (by decide)) (by rfl) T.g_l_through T.F_l_through.kp T.b_l_through .nil pass0 (pa_cons (pv 8) (pa_cons (pe_ix ix_seq (pv 0) pe_int (fun _ _ => rfl)) pa_nil)))) pa_nil)) pa_nil)))))) (pss_one (ps_if (pt_cmpR op_eq (pe_ix ix_seq (pv 0) pe_int (fun _ _ => rfl)) pe_str (nomark _)) (pss_one (ps_expr (pe_bm PySem.F.plainAttrs_list PySem.F.slot_list_append PySem.F.type_list_append mt_append (pv 4) (pa_cons (pe_call (ok_l_smoothed T) (hr.mono (by decide)) (by rfl) T.g_l_smoothed T.F_l_smoothed.kp T.b_l_smoothed .nil pass0 (pa_cons (pe_call (ok_l_before T) (hr.mono (by decide)) (by rfl) T.g_l_before T.F_l_before.kp T.b_l_before .nil pass0 (pa_cons (pv 4) (pa_cons (pe_op op_sub (pv 7) pe_int) pa_nil))) (pa_cons (pe_ix ix_seq (pv 2) (pv 7) (fun _ _ => rfl)) (pa_cons (pe_ix ix_seq (pv 0) pe_int (fun _ _ => rfl)) pa_nil)))) pa_nil)))) (pss_one (ps_if (pt_cmpR op_eq (pe_ix ix_seq (pv 0) pe_int (fun _ _ => rfl)) pe_str (nomark _)) (pss_cons (ps_set (i := 9) sc_l_meant.nd rfl (.inl rfl) (pe_callB (cr_max rfl) (by rfl) T.z_max (by decide +kernel) (pa_cons (pe_lc (own := [("_law_at", 12)]) (g := (gName 12)) (tt := tYes) (te := (tCB rAbs (tCons (tCall (sp_l_before T) [] E0 (tCons (tVar 2) (tCons (tVar 12) tNil))) tNil))) rfl sc_l_meant.nd (pi_range2 (by rfl) T.z_range (pa_cons (pe_op op_sub (pv 7) (pe_ix ix_seq (pv 0) pe_int (fun _ _ => rfl))) (pa_cons (pe_op op_add (pv 7) pe_int) pa_nil))) (blkOk_by (N := N_l_meant) (sc := defScope s_l_meant) (by decide +kernel)) (fun _ _ _ _ _ => (pg_name (i := 12) sc_l_meant.nd rfl (.inl rfl))) (fun _ _ _ _ _ => pts_nil) (fun _ _ _ _ _ => (pe_callB call_abs (by rfl) T.z_abs (by decide +kernel) (pa_cons (pe_call (ok_l_before T) (hr.mono (by decide)) (by rfl) T.g_l_before T.F_l_before.kp T.b_l_before .nil pass0 (pa_cons (pv 2) (pa_cons (pv 12) pa_nil))) pa_nil)))) pa_nil))) (pss_cons (ps_set (i := 10) sc_l_meant.nd rfl (.inl rfl) pe_int) (pss_cons (ps_if (pt_cmpR op_gt (pv 9) (pe_ix ix_seq (pv 0) pe_int (fun _ _ => rfl)) (nomark _)) (pss_one (ps_set (i := 10) sc_l_meant.nd rfl (.inl rfl) (pe_op op_fdiv (pe_op op_mul (pe_ix ix_seq (pv 0) pe_int (fun _ _ => rfl)) pe_int) (pv 9)))) pss_nil) (pss_one (ps_expr (pe_bm PySem.F.plainAttrs_list PySem.F.slot_list_append PySem.F.type_list_append mt_append (pv 4) (pa_cons (pe_call (ok_l_through T) (hr.mono (by decide)) (by rfl) T.g_l_through T.F_l_through.kp T.b_l_through .nil pass0 (pa_cons (pe_call (ok_l_before T) (hr.mono (by decide)) (by rfl) T.g_l_before T.F_l_before.kp T.b_l_before .nil pass0 (pa_cons (pv 2) (pa_cons (pe_op op_sub (pv 7) (pe_ix ix_seq (pv 0) pe_int (fun _ _ => rfl))) pa_nil))) (pa_cons (pv 10) pa_nil))) pa_nil))))))) (pss_one (ps_expr (pe_bm PySem.F.plainAttrs_list PySem.F.slot_list_append PySem.F.type_list_append mt_append (pv 4) (pa_cons (pe_ix ix_seq (pv 2) (pv 7) (fun _ _ => rfl)) pa_nil))))))))))))) (pss_one (ps_ret (pv 4)))))))), ?_⟩
    have hrl : (row.map V.int).length = row.length := List.length_map ..
    refine q_asgL (el_lst ea_nil (show 0 ≤ 100000 by decide)) fun f H1 hf e1 h1 => ?_
    have s1 : Stp S0 F H F H1 := (Stp.refl hF).pure e1
    have hFf := (Stp.refl (S := S0) hF).freshF hf
    refine q_asgL (el_lst ea_nil (show 0 ≤ 100000 by decide)) fun g H2 hg1 e2 hg2 => ?_
    have s2 := s1.pure e2
    have hg := s1.fresh hg1
    have hFg := s1.freshF hg1
    have nfg : f ≠ g := ne_of_none h1 hg1
    refine q_asgL (el_lst ea_nil (show 0 ≤ 100000 by decide)) fun l H3 hl1 e3 hl2 => ?_
    have s3 := s2.pure e3
    have hf3 := (e2.trans e3) _ _ h1
    have hg3 := e3 _ _ hg2
    cases p with
    | line n => exact absurd rfl (hnl n)
    | gain ps =>
      have hcv : CvOk ps := ⟨hp.1, hp.2.1, hp.2.2.1, hp.2.2.2.1, hp.2.2.2.2⟩
      have hpv : PvOk (fps ts ps) := CvOk.fps hd hcv
      refine q_when (et_kw (b := true) (ev_var rfl) (hsp.mono s3.ex') (show decide (("gain" : Str) = "gain") = true by decide +kernel)) (fun _ H4 e4 => ?_) (fun hb => absurd hb (by decide))
      have s4 := s3.pure e4
      obtain ⟨q, hq, es, hq2, hqt⟩ := hsp
      have hel : (es.map V.ref).length = ps.length := by rw [List.length_map, hqt.1]
      have hpl := hcv.len
      have hfl : (fps ts ps).length = ps.length := by unfold fps; rw [List.length_map]
      have z := ev_op (σ := [some (.ref a), some (.ref b), some (.ref c), some (.int mo), some (.ref f), some (.ref g), some (.ref l), none, none, none, none, none, none]) (ta := tVar 0) (tb := tC (.int 1)) (H := H4) (ev_var rfl) ev_c (rv_iT (K := K) (st_of (s4.ex' _ _ hq)) rfl)
      refine z H4 (Ex.refl H4) _ fun H5 e5 => ?_
      have s5 := s4.pure e5
      refine ⟨q, rfl, ⟨_, st_of (s5.ex' _ _ hq2)⟩, fun Dl hD => lc_tup (xs := es.map V.ref) (fun i H' => PvT F H5 Dl pntV (fps ts ps) i H') (PvT.start s5.ex' hD) (fun i H' _ ⟨F', t1, _⟩ => st_of (t1.ex' _ _ (t1.ex _ _ hq2))) ?_ ?_⟩
      · rintro i v H' hv pv
        obtain ⟨F', t1, _⟩ := id pv
        have t1e := t1.ex.trans t1.ex'
        obtain ⟨e, pn, rfl, hpn, he⟩ := (hqt.mono t1e).get' hv
        refine ⟨rfl, tup_turn (y := (frameN ts pn.1, pn.2)) hD pv (by unfold fps; rw [List.getElem?_map, hpn]; rfl) (by omega) ?_⟩
        exact eu_tup (ea_cons (ev_call0 (ea_cons (ev_var rfl) (ea_cons (ev_op (ev_var rfl) ev_c (rv_iT (st_of he) rfl)) ea_nil)) (v_l_frame T (hts.mono t1e) hd (hcv.tick pn (mem_of_get hpn)))) (ea_cons (ev_op (ev_var rfl) ev_c (rv_iT (st_of he) rfl)) ea_nil)) (show 2 ≤ 100000 by decide)
      · intro H' pv
        obtain ⟨F6, es6, t6, hl6, ht6⟩ := pv.fin hD (by rw [hel, hfl]; exact Nat.le_refl _)
        have s6 := s5.trans t6 fun b hb => hb.elim
        have hf6 : H' f = some (.lst []) := t6.kp _ _ (fun h => h) (e5 _ _ (e4 _ _ hf3))
        have hF6f : F6 f = none := t6.fr f hFf (by rw [e5 _ _ (e4 _ _ hf3)]; simp)
        have hIl : IsPl F6 Dl (fps ts ps) := ⟨es6, hl6, ht6⟩
        show tSeq _ _ _ _ _
        refine q_forR1 (n := ((row.map V.int).length : Nat)) (ea_cons (ev_len (ev_var rfl) (sq_of (s6.ex' _ _ (s6.ex _ _ hc)))) ea_nil) ⟨by omega, by omega⟩ (fun i σ' H' => Stp S0 F H F6 H' ∧ ∃ (O : List Int) (x7 x8 x9 x10 : Option V), σ' = [some (.ref a), some (.ref b), some (.ref c), some (.int mo), some (.ref f), some (.ref g), some (.ref Dl), x7, x8, x9, x10, none, none] ∧ O.length = i ∧ H' f = some (.lst (O.map V.int)) ∧
            (O ++ (runP ts (.gain ps) [] (mo + i) (row.drop i)).2 = (runP ts (.gain ps) [] mo row).2 ∧ (runP ts (.gain ps) [] (mo + i) (row.drop i)).1 = (runP ts (.gain ps) [] mo row).1))
          (fun H7 e7 => ⟨s6.pure e7, [], none, none, none, none, rfl, rfl, e7 _ _ hf6, by simp, by simp⟩) ?_ ?_
        · rintro i σ' H7 hi ⟨s7, O, x7, x8, x9, x10, rfl, hO, hf7, hrun⟩
          obtain ⟨x, hx⟩ : ∃ x, row[i]? = some x := get_of_lt (by omega)
          have hspg : IsSp F a (.gain ps) := ⟨q, hq, es, hq2, hqt⟩
          refine s_if (et_kw (b := true) (ev_var rfl) ((hspg.mono s7.ex).mono s7.ex') (show decide (("gain" : Str) = "gain") = true by decide +kernel)) (fun _ H8 e8 => ?_) (fun hb => absurd hb (by decide))
          have s8 := s7.pure e8
          refine s_app (xs := O.map V.int) (v := .int (thrI x (valN (fps ts ps) (max0 (mo + i))))) (e8 _ _ hf7) (ev_var rfl) (ev_call0 (ea_cons (ev_op (ev_var rfl) (ev_var rfl) (rv_iL (sq_of (s8.ex' _ _ (s8.ex _ _ hc))) (at_map hx))) (ea_cons (ev_call0 (ea_cons (ev_var rfl) (ea_cons (ev_max2 ev_c (ev_op (ev_var rfl) (ev_var rfl) rv_I0)) ea_nil)) (v_l_value T _ (hIl.mono s8.ex') hpv)) ea_nil)) (v_l_through T (hrow x (mem_of_get hx)))) (by rw [List.length_map]; omega) fun H9 e9 => ?_
          refine ⟨(s8.pure e9).mut (.inr hf) hF6f, O ++ [thrI x (valN (fps ts ps) (max0 (mo + i)))], _, _, _, _, rfl, by rw [List.length_append, hO]; rfl, ?_, run_step hx hrun⟩
          rw [upd_same, List.map_append]; rfl
        · rintro σ' H7 ⟨s7, O, x7, x8, x9, x10, rfl, hO, hf7, hrun⟩
          rw [show (((row.map V.int).length : Nat) : Int).toNat = row.length by omega] at hrun
          obtain ⟨r1, r2⟩ := run_end hrun
          refine s_ret (ev_var rfl) fun H8 e8 => ?_
          exact k f _ H8 ((s7.pure e8).freeze hf (e8 _ _ hf7)) (by rw [upd_same, r1]; rfl)
    | pass =>
      refine q_when (et_kw (b := false) (ev_var rfl) (hsp.mono s3.ex') (show decide (("pass" : Str) = "gain") = false by decide +kernel)) (fun hb => absurd hb (by decide)) (fun _ H4 e4 => ?_)
      have s4 := s3.pure e4
      refine q_forR1 (n := ((row.map V.int).length : Nat)) (ea_cons (ev_len (ev_var rfl) (sq_of (s4.ex' _ _ hc))) ea_nil) ⟨by omega, by omega⟩ (fun i σ' H' => Stp S0 F H F H' ∧ ∃ (O : List Int) (x7 x8 x9 x10 : Option V), σ' = [some (.ref a), some (.ref b), some (.ref c), some (.int mo), some (.ref f), some (.ref g), some (.ref l), x7, x8, x9, x10, none, none] ∧ O.length = i ∧ H' f = some (.lst (O.map V.int)) ∧
          (O ++ (runP ts .pass [] (mo + i) (row.drop i)).2 = (runP ts .pass [] mo row).2 ∧ (runP ts .pass [] (mo + i) (row.drop i)).1 = (runP ts .pass [] mo row).1))
        (fun H7 e7 => ⟨s4.pure e7, [], none, none, none, none, rfl, rfl, e7 _ _ (e4 _ _ hf3), by simp, by simp⟩) ?_ ?_
      · rintro i σ' H7 hi ⟨s7, O, x7, x8, x9, x10, rfl, hO, hf7, hrun⟩
        obtain ⟨x, hx⟩ : ∃ x, row[i]? = some x := get_of_lt (by omega)
        have hs7 := hsp.mono s7.ex'
        refine s_if (et_kw (b := false) (ev_var rfl) hs7 (show decide (("pass" : Str) = "gain") = false by decide +kernel)) (fun hb => absurd hb (by decide)) (fun _ H8 e8 => ?_)
        refine s_if (et_kw (b := false) (ev_var rfl) (hs7.mono e8) (show decide (("pass" : Str) = "delay") = false by decide +kernel)) (fun hb => absurd hb (by decide)) (fun _ H9 e9 => ?_)
        refine s_if (et_kw (b := false) (ev_var rfl) (hs7.mono (e8.trans e9)) (show decide (("pass" : Str) = "smooth") = false by decide +kernel)) (fun hb => absurd hb (by decide)) (fun _ H10 e10 => ?_)
        refine s_if (et_kw (b := false) (ev_var rfl) (hs7.mono ((e8.trans e9).trans e10)) (show decide (("pass" : Str) = "ahead") = false by decide +kernel)) (fun hb => absurd hb (by decide)) (fun _ H11 e11 => ?_)
        have s8 := s7.pure (((e8.trans e9).trans e10).trans e11)
        refine s_app (xs := O.map V.int) (v := .int x) ((((e8.trans e9).trans e10).trans e11) _ _ hf7) (ev_var rfl) (ev_op (ev_var rfl) (ev_var rfl) (rv_iL (sq_of (s8.ex' _ _ hc)) (at_map hx))) (by rw [List.length_map]; omega) fun H12 e12 => ?_
        refine ⟨(s8.pure e12).mut (.inr hf) hFf, O ++ [x], _, _, _, _, rfl, by rw [List.length_append, hO]; rfl, ?_, run_step hx hrun⟩
        rw [upd_same, List.map_append]; rfl
      · rintro σ' H7 ⟨s7, O, x7, x8, x9, x10, rfl, hO, hf7, hrun⟩
        rw [show (((row.map V.int).length : Nat) : Int).toNat = row.length by omega] at hrun
        obtain ⟨r1, r2⟩ := run_end hrun
        refine s_ret (ev_var rfl) fun H8 e8 => ?_
        exact k f _ H8 ((s7.pure e8).freeze hf (e8 _ _ hf7)) (by rw [upd_same, r1]; rfl)
    | delay n fb own =>
      obtain ⟨hn1, hn2, _⟩ := hp
      refine q_when (et_kw (b := false) (ev_var rfl) (hsp.mono s3.ex') (show decide (("delay" : Str) = "gain") = false by decide +kernel)) (fun hb => absurd hb (by decide)) (fun _ H4 e4 => ?_)
      have s4 := s3.pure e4
      refine q_forR1 (n := ((row.map V.int).length : Nat)) (ea_cons (ev_len (ev_var rfl) (sq_of (s4.ex' _ _ hc))) ea_nil) ⟨by omega, by omega⟩ (fun i σ' H' => Stp S0 F H F H' ∧ ∃ (O I : List Int) (x7 x8 x9 x10 : Option V), σ' = [some (.ref a), some (.ref b), some (.ref c), some (.int mo), some (.ref f), some (.ref g), some (.ref l), x7, x8, x9, x10, none, none] ∧ O.length = i ∧ I.length = i ∧ (∀ z ∈ I, Smp z) ∧ H' f = some (.lst (O.map V.int)) ∧ H' g = some (.lst (I.map V.int)) ∧
          (O ++ (runP ts (.delay n fb own) ((zer n ++ I).drop i) (mo + i) (row.drop i)).2 = (runP ts (.delay n fb own) (zer n) mo row).2 ∧ (runP ts (.delay n fb own) ((zer n ++ I).drop i) (mo + i) (row.drop i)).1 = (runP ts (.delay n fb own) (zer n) mo row).1))
        (fun H7 e7 => ⟨s4.pure e7, [], [], none, none, none, none, rfl, rfl, rfl, (fun z hz => nomatch hz), e7 _ _ (e4 _ _ hf3), e7 _ _ (e4 _ _ hg3), by simp, by simp⟩) ?_ ?_
      · rintro i σ' H7 hi ⟨s7, O, I, x7, x8, x9, x10, rfl, hO, hI, hIs, hf7, hg7, hrun⟩
        obtain ⟨x, hx⟩ : ∃ x, row[i]? = some x := get_of_lt (by omega)
        have hs7 := hsp.mono s7.ex'
        refine s_if (et_kw (b := false) (ev_var rfl) hs7 (show decide (("delay" : Str) = "gain") = false by decide +kernel)) (fun hb => absurd hb (by decide)) (fun _ H8 e8 => ?_)
        refine s_if (et_kw (b := true) (ev_var rfl) (hs7.mono e8) (show decide (("delay" : Str) = "delay") = true by decide +kernel)) (fun _ H9 e9 => ?_) (fun hb => absurd hb (by decide))
        have e89 := e8.trans e9
        have hec : (if (i : Int) - n < 0 then 0 else I.getD ((i : Int) - n).toNat 0) = ((zer n ++ I).drop i).headD 0 := by
          rw [echo_is n i I hI hn1]
          by_cases h : i < n
          · rw [if_pos h, if_pos (by omega)]
          · rw [if_neg h, if_neg (by omega), show ((i : Int) - n).toNat = i - n by omega]
        generalize hE : ((zer n ++ I).drop i).headD 0 = ec at *
        have hecs : Smp ec := by
          rw [← hE]
          refine head_smp fun z hz => ?_
          rcases List.mem_append.mp (List.mem_of_mem_drop hz) with q | q
          · rw [(List.mem_replicate.mp q).2]; exact smp0
          · exact hIs z q
        refine q_asg (v := .int ec) (ev_is (ev_call0 (ea_cons (ev_var rfl) (ea_cons (ev_op (ev_var rfl) (ev_op (ev_var rfl) ev_c (rv_iT (st_of (hs7.mono e89)) rfl)) rv_I0) ea_nil)) (v_l_before T (i := (i : Int) - n) (e89 _ _ hg7) (by omega))) (by rw [hec])) fun H10 e10 => ?_
        have e10' := e89.trans e10
        have hs10 := hs7.mono e10'
        have s10 := s7.pure e10'
        refine q_app (xs := I.map V.int) (v := .int (cutI (x + thrI ec fb))) (e10' _ _ hg7) (ev_var rfl) (ev_call0 (ea_cons (ev_op (ev_op (ev_var rfl) (ev_var rfl) (rv_iL (sq_of (s10.ex' _ _ hc)) (at_map hx))) (ev_call0 (ea_cons (ev_var rfl) (ea_cons (ev_op (ev_var rfl) ev_c (rv_iT (st_of hs10) rfl)) ea_nil)) (v_l_through T hecs)) rv_I0) ea_nil) (v_l_cut T _)) (by rw [List.length_map]; omega) fun H11 e11 => ?_
        have s11 : Stp S0 F H F (upd H11 g (.lst (I.map V.int ++ [.int (cutI (x + thrI ec fb))]))) := (s10.pure e11).mut (.inr hg) hFg
        have hf11 : (upd H11 g (.lst (I.map V.int ++ [.int (cutI (x + thrI ec fb))]))) f = some (.lst (O.map V.int)) := by rw [upd_ne nfg]; exact e11 _ _ (e10' _ _ hf7)
        refine s_app (xs := O.map V.int) (v := .int (cutI (x + thrI ec own))) hf11 (ev_var rfl) (ev_call0 (ea_cons (ev_op (ev_op (ev_var rfl) (ev_var rfl) (rv_iL (sq_of (s11.ex' _ _ hc)) (at_map hx))) (ev_call0 (ea_cons (ev_var rfl) (ea_cons (ev_op (ev_var rfl) ev_c (rv_iT (st_of (hsp.mono s11.ex')) rfl)) ea_nil)) (v_l_through T hecs)) rv_I0) ea_nil) (v_l_cut T _)) (by rw [List.length_map]; omega) fun H12 e12 => ?_
        have hst' := run_step hx hrun
        simp only [stepP, hE] at hst'
        rw [delay_next n i I _ hI hn1] at hst'
        refine ⟨(s11.pure e12).mut (.inr hf) hFf, O ++ [cutI (x + thrI ec own)], I ++ [cutI (x + thrI ec fb)], _, _, _, _, rfl, by rw [List.length_append, hO]; rfl, by rw [List.length_append, hI]; rfl, app_smp hIs (cutI_smp _), ?_, ?_, hst'⟩
        · rw [upd_same, List.map_append]; rfl
        · rw [upd_ne nfg.symm, e12 _ _ upd_same, List.map_append]; rfl
      · rintro σ' H7 ⟨s7, O, I, x7, x8, x9, x10, rfl, hO, hI, hIs, hf7, hg7, hrun⟩
        rw [show (((row.map V.int).length : Nat) : Int).toNat = row.length by omega] at hrun
        obtain ⟨r1, r2⟩ := run_end hrun
        refine s_ret (ev_var rfl) fun H8 e8 => ?_
        exact k f _ H8 ((s7.pure e8).freeze hf (e8 _ _ hf7)) (by rw [upd_same, r1]; rfl)
    | smooth n =>
      refine q_when (et_kw (b := false) (ev_var rfl) (hsp.mono s3.ex') (show decide (("smooth" : Str) = "gain") = false by decide +kernel)) (fun hb => absurd hb (by decide)) (fun _ H4 e4 => ?_)
      have s4 := s3.pure e4
      refine q_forR1 (n := ((row.map V.int).length : Nat)) (ea_cons (ev_len (ev_var rfl) (sq_of (s4.ex' _ _ hc))) ea_nil) ⟨by omega, by omega⟩ (fun i σ' H' => Stp S0 F H F H' ∧ ∃ (O : List Int) (y : Int) (x7 x8 x9 x10 : Option V), σ' = [some (.ref a), some (.ref b), some (.ref c), some (.int mo), some (.ref f), some (.ref g), some (.ref l), x7, x8, x9, x10, none, none] ∧ O.length = i ∧ (y = if (i : Int) - 1 < 0 then 0 else O.getD ((i : Int) - 1).toNat 0) ∧ H' f = some (.lst (O.map V.int)) ∧
          (O ++ (runP ts (.smooth n) [y] (mo + i) (row.drop i)).2 = (runP ts (.smooth n) [0] mo row).2 ∧ (runP ts (.smooth n) [y] (mo + i) (row.drop i)).1 = (runP ts (.smooth n) [0] mo row).1))
        (fun H7 e7 => ⟨s4.pure e7, [], 0, none, none, none, none, rfl, rfl, rfl, e7 _ _ (e4 _ _ hf3), by simp, by simp⟩) ?_ ?_
      · rintro i σ' H7 hi ⟨s7, O, y, x7, x8, x9, x10, rfl, hO, hy, hf7, hrun⟩
        obtain ⟨x, hx⟩ : ∃ x, row[i]? = some x := get_of_lt (by omega)
        have hs7 := hsp.mono s7.ex'
        refine s_if (et_kw (b := false) (ev_var rfl) hs7 (show decide (("smooth" : Str) = "gain") = false by decide +kernel)) (fun hb => absurd hb (by decide)) (fun _ H8 e8 => ?_)
        refine s_if (et_kw (b := false) (ev_var rfl) (hs7.mono e8) (show decide (("smooth" : Str) = "delay") = false by decide +kernel)) (fun hb => absurd hb (by decide)) (fun _ H9 e9 => ?_)
        refine s_if (et_kw (b := true) (ev_var rfl) (hs7.mono (e8.trans e9)) (show decide (("smooth" : Str) = "smooth") = true by decide +kernel)) (fun _ H10 e10 => ?_) (fun hb => absurd hb (by decide))
        have e10' := (e8.trans e9).trans e10
        have s10 := s7.pure e10'
        refine s_app (xs := O.map V.int) (v := .int (y + towI y x n)) (e10' _ _ hf7) (ev_var rfl) (ev_is (ev_call0 (ea_cons (ev_is (ev_call0 (ea_cons (ev_var rfl) (ea_cons (ev_op (ev_var rfl) ev_c rv_I0) ea_nil)) (v_l_before T (i := (i : Int) - 1) (e10' _ _ hf7) (by omega))) (w := .int y) (by rw [hy])) (ea_cons (ev_op (ev_var rfl) (ev_var rfl) (rv_iL (sq_of (s10.ex' _ _ hc)) (at_map hx))) (ea_cons (ev_op (ev_var rfl) ev_c (rv_iT (st_of (hs7.mono e10')) rfl)) ea_nil))) (v_l_smoothed T hp.2)) (by rw [tow_law y x hp.1 hp.2])) (by rw [List.length_map]; omega) fun H11 e11 => ?_
        refine ⟨(s10.pure e11).mut (.inr hf) hFf, O ++ [y + towI y x n], y + towI y x n, _, _, _, _, rfl, by rw [List.length_append, hO]; rfl, ?_, ?_, run_step hx hrun⟩
        · rw [if_neg (by omega), show (((i + 1 : Nat) : Int) - 1).toNat = i by omega, List.getD_eq_getElem?_getD, List.getElem?_append_right (by omega), hO, Nat.sub_self]
          rfl
        · rw [upd_same, List.map_append]; rfl
      · rintro σ' H7 ⟨s7, O, y, x7, x8, x9, x10, rfl, hO, hy, hf7, hrun⟩
        rw [show (((row.map V.int).length : Nat) : Int).toNat = row.length by omega] at hrun
        obtain ⟨r1, r2⟩ := run_end hrun
        refine s_ret (ev_var rfl) fun H8 e8 => ?_
        exact k f _ H8 ((s7.pure e8).freeze hf (e8 _ _ hf7)) (by rw [upd_same, r1]; rfl)
    | ahead n cc =>
      obtain ⟨hn1, hn2, hc1, hc2⟩ := hp
      refine q_when (et_kw (b := false) (ev_var rfl) (hsp.mono s3.ex') (show decide (("ahead" : Str) = "gain") = false by decide +kernel)) (fun hb => absurd hb (by decide)) (fun _ H4 e4 => ?_)
      have s4 := s3.pure e4
      have hRs : ∀ z ∈ zer n ++ row, Smp z := fun z hz => (List.mem_append.mp hz).elim (fun q => by rw [(List.mem_replicate.mp q).2]; exact smp0) (hrow z)
      refine q_forR1 (n := ((row.map V.int).length : Nat)) (ea_cons (ev_len (ev_var rfl) (sq_of (s4.ex' _ _ hc))) ea_nil) ⟨by omega, by omega⟩ (fun i σ' H' => Stp S0 F H F H' ∧ ∃ (O : List Int) (x7 x8 x9 x10 : Option V), σ' = [some (.ref a), some (.ref b), some (.ref c), some (.int mo), some (.ref f), some (.ref g), some (.ref l), x7, x8, x9, x10, none, none] ∧ O.length = i ∧ H' f = some (.lst (O.map V.int)) ∧
          (O ++ (runP ts (.ahead n cc) (((zer n ++ row).drop i).take n) (mo + i) (row.drop i)).2 = (runP ts (.ahead n cc) (zer n) mo row).2 ∧ (runP ts (.ahead n cc) (((zer n ++ row).drop i).take n) (mo + i) (row.drop i)).1 = (runP ts (.ahead n cc) (zer n) mo row).1))
        (fun H7 e7 => by
          have ez : ((zer n ++ row).drop 0).take n = zer n := by rw [List.drop_zero, List.take_left' (by unfold zer; simp)]
          exact ⟨s4.pure e7, [], none, none, none, none, rfl, rfl, e7 _ _ (e4 _ _ hf3), by rw [ez]; simp, by rw [ez]; simp⟩) ?_ ?_
      · rintro i σ' H7 hi ⟨s7, O, x7, x8, x9, x10, rfl, hO, hf7, hrun⟩
        have hil : i < row.length := by omega
        obtain ⟨x, hx⟩ : ∃ x, row[i]? = some x := get_of_lt hil
        have hs7 := hsp.mono s7.ex'
        refine s_if (et_kw (b := false) (ev_var rfl) hs7 (show decide (("ahead" : Str) = "gain") = false by decide +kernel)) (fun hb => absurd hb (by decide)) (fun _ H8 e8 => ?_)
        refine s_if (et_kw (b := false) (ev_var rfl) (hs7.mono e8) (show decide (("ahead" : Str) = "delay") = false by decide +kernel)) (fun hb => absurd hb (by decide)) (fun _ H9 e9 => ?_)
        refine s_if (et_kw (b := false) (ev_var rfl) (hs7.mono (e8.trans e9)) (show decide (("ahead" : Str) = "smooth") = false by decide +kernel)) (fun hb => absurd hb (by decide)) (fun _ H10 e10 => ?_)
        refine s_if (et_kw (b := true) (ev_var rfl) (hs7.mono ((e8.trans e9).trans e10)) (show decide (("ahead" : Str) = "ahead") = true by decide +kernel)) (fun _ H11 e11 => ?_) (fun hb => absurd hb (by decide))
        have e11' := ((e8.trans e9).trans e10).trans e11
        have s11 := s7.pure e11'
        have hs11 := hs7.mono e11'
        have hwin := seen_is n i row x hx
        have hwl := win_len (n := n) hil
        generalize hW : ((zer n ++ row).drop i).take (n + 1) = W at *
        have hWs : ∀ z ∈ W, Smp z := fun z hz => by
          rw [← hW] at hz
          exact hRs z (List.mem_of_mem_drop (List.mem_of_mem_take hz))
        have hWne : W ≠ [] := fun h => by rw [h] at hwl; simp at hwl
        have hWg : ∀ j, j ≤ n → W[j]? = some (if (i : Int) - n + j < 0 then 0 else row.getD ((i : Int) - n + j).toNat 0) := fun j hj => by rw [← hW]; exact win_get hj hil
        have hpk := peak_smp hWs
        refine q_asg (v := .int (peakI W)) (ev_maxN (el_mapR2 (lo := (i : Int) - n) (hi := (i : Int) + 1) ((W.map absI).map V.int) (by rw [List.length_map, List.length_map, hwl]; omega)
          (ea_cons (ev_op (ev_var rfl) (ev_op (ev_var rfl) ev_c (rv_iT (st_of hs11) rfl)) rv_I0) (ea_cons (ev_op (ev_var rfl) ev_c rv_I0) ea_nil)) ⟨by omega, by omega, by omega, by omega, by omega⟩ (fun _ => rfl) (fun j y H12 e12 hy => by
            have hj : j ≤ n := by
              have := (List.getElem?_eq_some_iff.mp hy).1
              rw [List.length_map, List.length_map, hwl] at this
              omega
            rw [List.getElem?_map, List.getElem?_map, hWg j hj] at hy
            cases hy
            exact ev_abs (ev_call0 (ea_cons (ev_var rfl) (ea_cons (ev_var rfl) ea_nil)) (v_l_before T ((s11.pure e12).ex' _ _ hc) (by omega))))) hWne) fun H12 e12 => ?_
        refine q_asg ev_c fun H13 e13 => ?_
        have e13' := e12.trans e13
        refine q_ifAsg (b := decide (cc < peakI W)) (v := .int (turnI (peakI W) cc)) (et_test (ev_op (ev_var rfl) (ev_op (ev_var rfl) ev_c (rv_iT (st_of (hs11.mono e13')) rfl)) rv_I0)) (fun hb => ?_) (fun hb => ?_) fun H14 e14 => ?_
        · have hb' := of_decide_eq_true hb
          refine ev_is (ev_op (ev_op (ev_op (ev_var rfl) ev_c (rv_iT (st_of (hs11.mono e13')) rfl)) ev_c (rv_I (.inr ⟨by decide, by decide⟩))) (ev_var rfl) (rv_I ⟨by omega, by omega⟩)) ?_
          unfold turnI
          rw [if_neg (by omega)]
        · have hb' := of_decide_eq_false hb
          unfold turnI
          rw [if_pos (by omega)]
          rfl
        · have e14' := e13'.trans e14
          have s14 := s11.pure e14'
          have hh : W.headD 0 = (if (i : Int) - n < 0 then 0 else row.getD ((i : Int) - n).toNat 0) := by
            have := hWg 0 (Nat.zero_le _)
            rw [show (i : Int) - n + ((0 : Nat) : Int) = (i : Int) - n by omega] at this
            rw [List.headD_eq_head?_getD, List.head?_eq_getElem?, this]
            rfl
          refine s_app (xs := O.map V.int) (v := .int (thrI (W.headD 0) (turnI (peakI W) cc))) ((e11'.trans e14') _ _ hf7) (ev_var rfl) (ev_call0 (ea_cons (ev_is (ev_call0 (ea_cons (ev_var rfl) (ea_cons (ev_op (ev_var rfl) (ev_op (ev_var rfl) ev_c (rv_iT (st_of (hs11.mono e14')) rfl)) rv_I0) ea_nil)) (v_l_before T (i := (i : Int) - n) (s14.ex' _ _ hc) (by omega))) (by rw [hh])) (ea_cons (ev_var rfl) ea_nil)) (v_l_through T (head_smp hWs))) (by rw [List.length_map]; omega) fun H15 e15 => ?_
          have hst' := run_step hx hrun
          simp only [stepP] at hst'
          rw [ahead_next n i row x hx, hwin] at hst'
          refine ⟨(s14.pure e15).mut (.inr hf) hFf, O ++ [thrI (W.headD 0) (turnI (peakI W) cc)], _, _, _, _, rfl, by rw [List.length_append, hO]; rfl, ?_, hst'⟩
          rw [upd_same, List.map_append]; rfl
      · rintro σ' H7 ⟨s7, O, x7, x8, x9, x10, rfl, hO, hf7, hrun⟩
        rw [show (((row.map V.int).length : Nat) : Int).toNat = row.length by omega] at hrun
        obtain ⟨r1, r2⟩ := run_end hrun
        refine s_ret (ev_var rfl) fun H8 e8 => ?_
        exact k f _ H8 ((s7.pure e8).freeze hf (e8 _ _ hf7)) (by rw [upd_same, r1]; rfl)
end K37

/-! K37, part 11: the law's deck and its draws. -/
namespace K37
open PySem L2 Evl
variable {P : Program} {w : World} {K : PySem.W.Frag} {mg : Str → Option Value} {base : Heap}

/-- the deck at p: five places; the third holds the script's copy -/
structure Dk (p : Addr) (F H : Hp) : Prop where
  ex : Ex F H
  no : F p = none
  dk : ∃ (d0 d1 d2 d4 : Int) (sa : Addr) (ns : List Int), H p = some (.lst [.int d0, .int d1, .int d2, .ref sa, .int d4]) ∧ 0 ≤ d1 ∧ F sa = some (.lst (ns.map V.int)) ∧ ns.length ≤ 1000
/-- all but p is kept -/
structure But (p : Addr) (H H' : Hp) : Prop where
  kp : ∀ b o, b ≠ p → H b = some o → H' b = some o
  dm : ∀ b, H b ≠ none → H' b ≠ none
theorem But.refl (p : Addr) (H : Hp) : But p H H := ⟨fun _ _ _ h => h, fun _ h => h⟩
theorem But.trans {p : Addr} {H H1 H2 : Hp} (a : But p H H1) (b : But p H1 H2) : But p H H2 := ⟨fun c o n h => b.kp c o n (a.kp c o n h), fun c h => b.dm c (a.dm c h)⟩
theorem But.pure {p : Addr} {H H1 H2 : Hp} (a : But p H H1) (e : Ex H1 H2) : But p H H2 := ⟨fun c o n h => e _ _ (a.kp c o n h), fun c h => ex_dm e c (a.dm c h)⟩
theorem But.of_ex {p : Addr} {H H1 : Hp} (e : Ex H H1) : But p H H1 := (But.refl p H).pure e
theorem But.upd {p : Addr} {H H1 : Hp} {o : HO} (a : But p H H1) : But p H (upd H1 p o) := ⟨fun c u n h => by rw [upd_ne n]; exact a.kp c u n h, fun c h => by
  by_cases q : c = p
  · rw [q, upd_same]; simp
  · rw [upd_ne q]; exact a.dm c h⟩
theorem Dk.ex_ {p : Addr} {F H H1 : Hp} (d : Dk p F H) (e : Ex H H1) : Dk p F H1 := ⟨d.ex.trans e, d.no, let ⟨d0, d1, d2, d4, sa, ns, h, r⟩ := d.dk; ⟨d0, d1, d2, d4, sa, ns, e _ _ h, r⟩⟩
theorem Dk.lst {p : Addr} {F H : Hp} (d : Dk p F H) : ∃ xs, H p = some (.lst xs) := let ⟨_, _, _, _, _, _, h, _⟩ := d.dk; ⟨_, h⟩
theorem Dk.some {p : Addr} {F H : Hp} (d : Dk p F H) : H p ≠ none := let ⟨_, h⟩ := d.lst; by rw [h]; simp
theorem Dk.stp {p : Addr} {F H H' : Hp} (d : Dk p F H') (b : But p H H') : Stp (· = p) F H F H' := ⟨Ex.refl F, d.ex, fun _ h _ => h, b.kp, b.dm⟩
theorem Dk.grow {p : Addr} {F F' H : Hp} (d : Dk p F H) (e : Ex F F') (e' : Ex F' H) (n : F' p = none) : Dk p F' H := ⟨e', n, let ⟨d0, d1, d2, d4, sa, ns, h, a, b, c⟩ := d.dk; ⟨d0, d1, d2, d4, sa, ns, h, a, e _ _ b, c⟩⟩

/-! ### deck -/
def sp_l_deck (T : Tx K mg) : Sp := fun vs H Q _ => ∃ (a : Addr) (ns : List Int), vs = [.ref a] ∧ SqL K H a (ns.map V.int) ∧ ns.length ≤ 1000 ∧ ∀ p F' H', Ex H F' → H p = none → Dk p F' H' → Q (.ref p) H'
theorem ok_l_deck (T : Tx K mg) : FnOk P w K mg base CX0 1 T.a_l_deck T.d_l_deck P_l_deck (sp_l_deck T) := by
  refine T.F_l_deck.ok sc_l_deck (fun vs H Q E h => ?_) (fun cdv A outer s H vs Q E hr h => ?_)
  · obtain ⟨a, ns, rfl, _⟩ := h
    rfl
  · obtain ⟨a, ns, rfl, ha, hlen, k⟩ := h
    refine ⟨_, (pss_cons (ps_set (i := 1) sc_l_deck.nd rfl (.inl rfl) pe_int) (pss_cons (ps_for PassesOwn.never rfl (pi_list (pv 0)) (pg_name (i := 2) sc_l_deck.nd rfl (.inl rfl)) (pss_one (ps_set (i := 1) sc_l_deck.nd rfl (.inl rfl) (pe_op op_mod (pe_callTy call_int1 (by rfl) T.z_int (by decide +kernel) (pa_cons (pe_op op_add (pe_op op_mul (pv 1) pe_int) (pv 2)) pa_nil)) pe_int)))) (pss_one (ps_ret (pe_lst (pa_cons pe_int (pa_cons pe_int (pa_cons (pv 1) (pa_cons (pe_callTy call_list_of (by rfl) T.z_list (by decide +kernel) (pa_cons (pv 0) pa_nil)) (pa_cons pe_int pa_nil)))))))))), ?_⟩
    refine q_asg ev_c fun H1 e1 => ?_
    refine q_forL (ev_var rfl) (ex_l e1 ha) (fun i σ' H' => Ex H H' ∧ ∃ (z : Int) (x : Option V), σ' = [some (.ref a), some (.int z), x]) (fun H2 e2 => ⟨e1.trans e2, 7, none, rfl⟩) (fun i σ' H' _ p => ex_l p.1 ha) ?_ ?_
    · rintro i v σ' H' hv ⟨e2, z, x, rfl⟩
      obtain ⟨y, rfl, hy⟩ := map_get hv
      refine s_asg (ev_op (ev_int1 (ev_op (ev_op (ev_var rfl) ev_c (rv_I (.inr ⟨by decide, by decide⟩))) (ev_var rfl) rv_I0)) ev_c (rv_I (by show (0 : Int) < 2147483647; decide))) fun H3 e3 => ⟨e2.trans e3, _, _, rfl⟩
    · rintro σ' H' ⟨e2, z, x, rfl⟩
      -- return [0, 0, seed, list(script), 0]
      refine ⟨_, rfl, _, rfl, a, _, rfl, .inl (ex_l e2 ha), fun sa hsa => ⟨by show 5 ≤ sizeLine; decide, fun p hp => ?_⟩⟩
      have eS := Ex.new (o := HO.lst (ns.map V.int)) hsa
      have hp' : H' p = none := fresh_back eS hp
      have hpn : H p = none := fresh_back e2 hp'
      have nps : p ≠ sa := fun q => by rw [q, upd_same] at hp; cases hp
      refine k p (upd H' sa (.lst (ns.map V.int))) _ (e2.trans eS) hpn ⟨Ex.new hp, hp, 0, 0, z, 0, sa, ns, upd_same, by decide, upd_same, hlen⟩

/-! ### draw -/
def sp_l_draw (T : Tx K mg) : Sp := fun vs H Q _ => ∃ (p : Addr) (F : Hp) (b : Int), vs = [.ref p, .int b] ∧ Dk p F H ∧ (0 < b ∧ b < 1073741824) ∧ ∀ (z : Int) H', Dk p F H' → But p H H' → 0 ≤ z → z < b → Q (.int z) H'
theorem at0 {α : Type} {a : α} {r : List α} : atI (a :: r) 0 = some a := by
  rw [show (0 : Int) = ((0 : Nat) : Int) from rfl]; exact atI_nat rfl
theorem at1 {α : Type} {a b : α} {r : List α} : atI (a :: b :: r) 1 = some b := by
  rw [show (1 : Int) = ((1 : Nat) : Int) from rfl]; exact atI_nat rfl
theorem at2 {α : Type} {a b c : α} {r : List α} : atI (a :: b :: c :: r) 2 = some c := by
  rw [show (2 : Int) = ((2 : Nat) : Int) from rfl]; exact atI_nat rfl
theorem at3 {α : Type} {a b c d : α} {r : List α} : atI (a :: b :: c :: d :: r) 3 = some d := by
  rw [show (3 : Int) = ((3 : Nat) : Int) from rfl]; exact atI_nat rfl
theorem at4 {α : Type} {a b c d e : α} {r : List α} : atI (a :: b :: c :: d :: e :: r) 4 = some e := by
  rw [show (4 : Int) = ((4 : Nat) : Int) from rfl]; exact atI_nat rfl
theorem mod31 {i m : Int} (h : 0 < m) (hm : m < 2 ^ 64) : -(2 ^ 64) < i % m ∧ i % m < 2 ^ 64 := by
  have h1 := Int.emod_nonneg i (show m ≠ 0 by omega)
  have h2 := Int.emod_lt_of_pos i h
  have : (2 : Int) ^ 64 = 18446744073709551616 := by decide
  omega
/-- F stands, all but p is kept -/
structure Cu (p : Addr) (F H H' : Hp) : Prop where
  ex : Ex F H'
  bt : But p H H'
theorem Cu.pure {p : Addr} {F H H1 H2 : Hp} (c : Cu p F H H1) (e : Ex H1 H2) : Cu p F H H2 := ⟨c.ex.trans e, c.bt.pure e⟩
theorem Cu.upd {p : Addr} {F H H1 : Hp} {o : HO} (c : Cu p F H H1) (n : F p = none) : Cu p F H (upd H1 p o) := ⟨Ex.mut c.ex n, c.bt.upd⟩
theorem ok_l_draw (T : Tx K mg) : FnOk P w K mg base CX0 1 T.a_l_draw T.d_l_draw P_l_draw (sp_l_draw T) := by
  refine T.F_l_draw.ok sc_l_draw (fun vs H Q E h => ?_) (fun cdv A outer s H vs Q E hr h => ?_)
  · obtain ⟨p, F, b, rfl, _⟩ := h
    rfl
  · obtain ⟨p, F, b, rfl, dk, hb, k⟩ := h
    refine ⟨_, (pss_cut (ps_if (PW.pt (pw_and (pt_cmpR op_eq (pe_ix ix_seq (pv 0) pe_int (fun _ _ => rfl)) pe_int (nomark _)) (pw_and1 (pt_cmpR op_lt (pe_ix ix_seq (pv 0) pe_int (fun _ _ => rfl)) (pe_callB call_len_seq (by rfl) T.z_len (by decide +kernel) (pa_cons (pe_ix ix_seq (pv 0) pe_int (fun _ _ => rfl)) pa_nil)) (nomark _))))) (pss_cons (ps_asg (pe_callB call_abs (by rfl) T.z_abs (by decide +kernel) (pa_cons (pe_ix ix_seq (pe_ix ix_seq (pv 0) pe_int (fun _ _ => rfl)) (pe_ix ix_seq (pv 0) pe_int (fun _ _ => rfl)) (fun _ _ => rfl)) pa_nil)) (pg_sub (pv 0) pe_int set_list)) (pss_one (ps_asg (pe_op op_add (pe_ix ix_seq (pv 0) pe_int (fun _ _ => rfl)) pe_int) (pg_sub (pv 0) pe_int set_list)))) (pss_one (ps_if (pt_cmpR op_eq (pe_ix ix_seq (pv 0) pe_int (fun _ _ => rfl)) pe_int (nomark _)) (pss_cons (ps_asg (pe_op op_add (pe_ix ix_seq (pv 0) pe_int (fun _ _ => rfl)) pe_int) (pg_sub (pv 0) pe_int set_list)) (pss_cons (ps_set (i := 2) sc_l_draw.nd rfl (.inl rfl) (pe_op op_mod (pe_callTy call_int1 (by rfl) T.z_int (by decide +kernel) (pa_cons (pe_op op_add (pe_op op_add (pe_op op_mul (pe_ix ix_seq (pv 0) pe_int (fun _ _ => rfl)) pe_int) (pe_op op_mul (pe_ix ix_seq (pv 0) pe_int (fun _ _ => rfl)) pe_int)) pe_int) pa_nil)) pe_int)) (pss_cons (ps_set (i := 2) sc_l_draw.nd rfl (.inl rfl) (pe_op op_mod (pe_callTy call_int1 (by rfl) T.z_int (by decide +kernel) (pa_cons (pe_op op_add (pe_op op_add (pe_op op_mul (pv 2) (pv 2)) (pe_op op_mul pe_int (pe_ix ix_seq (pv 0) pe_int (fun _ _ => rfl)))) pe_int) pa_nil)) pe_int)) (pss_cons (ps_set (i := 2) sc_l_draw.nd rfl (.inl rfl) (pe_op op_mod (pe_callTy call_int1 (by rfl) T.z_int (by decide +kernel) (pa_cons (pe_op op_add (pe_op op_add (pe_op op_mul (pv 2) (pv 2)) (pe_op op_mul pe_int (pe_ix ix_seq (pv 0) pe_int (fun _ _ => rfl)))) (pe_ix ix_seq (pv 0) pe_int (fun _ _ => rfl))) pa_nil)) pe_int)) (pss_one (ps_asg (pe_op op_fdiv (pv 2) pe_int) (pg_sub (pv 0) pe_int set_list))))))) pss_nil))) (pss_cons (ps_set (i := 3) sc_l_draw.nd rfl (.inl rfl) (pe_op op_mod (pe_callTy call_int1 (by rfl) T.z_int (by decide +kernel) (pa_cons (pe_ix ix_seq (pv 0) pe_int (fun _ _ => rfl)) pa_nil)) (pv 1))) (pss_cons (ps_asg (pe_op op_fdiv (pe_ix ix_seq (pv 0) pe_int (fun _ _ => rfl)) (pv 1)) (pg_sub (pv 0) pe_int set_list)) (pss_one (ps_ret (pv 3)))))), ?_⟩
    refine q_cut (M := fun σ' H' => ∃ x2 x3 : Option V, σ' = [some (.ref p), some (.int b), x2, x3] ∧ Dk p F H' ∧ But p H H') ?_ ?_
    · obtain ⟨d0, d1, d2, d4, sa, ns, hp, h1, hs, hn⟩ := dk.dk
      have c0 : Cu p F H H := ⟨dk.ex, But.refl p H⟩
      have done : ∀ (H1 : Hp) (c0 c1 c2 c4 : Int), Cu p F H H1 → 0 ≤ c1 → H1 p = some (.lst [.int c0, .int c1, .int c2, .ref sa, .int c4]) → Dk p F H1 ∧ But p H H1 := fun H1 c0 c1 c2 c4 c hc h => ⟨⟨c.ex, dk.no, c0, c1, c2, c4, sa, ns, h, hc, hs, hn⟩, c.bt⟩
      refine s_if (b := decide (V.int d0 = V.int 0) && decide (d1 < ((ns.map V.int).length : Nat))) (et_and (et_test (ev_op (ev_op (ev_var rfl) ev_c (rv_iL (sq_of hp) at0)) ev_c (rv_eq rfl))) (fun _ => et_test (ev_op (ev_op (ev_var rfl) ev_c (rv_iL (sq_of hp) at1)) (ev_len (ev_op (ev_var rfl) ev_c (rv_iL (sq_of hp) at3)) (sq_of (dk.ex _ _ hs))) rv_I0))) (fun hb1 H1 e1 => ?_) (fun hb1 H1 e1 => ?_)
      · rw [Bool.and_eq_true] at hb1
        have hd1 := of_decide_eq_true hb1.2
        rw [List.length_map] at hd1
        obtain ⟨y, hy⟩ : ∃ y, ns[d1.toNat]? = some y := get_of_lt (by omega)
        have hp1 := e1 _ _ hp
        have c1 := c0.pure e1
        refine q_setL (j := 0) hp1 (ev_abs (ev_op (ev_op (ev_var rfl) ev_c (rv_iL (sq_of hp1) at3)) (ev_op (ev_var rfl) ev_c (rv_iL (sq_of hp1) at1)) (rv_iL (sq_of (c1.ex _ _ hs)) (at_mapz hy (by omega))))) (ev_var rfl) ev_c (show 0 < 5 by decide) fun H2 e2 => ?_
        have c2 := (c1.pure e2).upd (o := .lst [.int (absI y), .int d1, .int d2, .ref sa, .int d4]) dk.no
        have hp2 : (upd H2 p (.lst [.int (absI y), .int d1, .int d2, .ref sa, .int d4])) p = some (.lst [.int (absI y), .int d1, .int d2, .ref sa, .int d4]) := upd_same
        refine s_setL (j := 1) hp2 (ev_op (ev_op (ev_var rfl) ev_c (rv_iL (sq_of hp2) at1)) ev_c rv_I0) (ev_var rfl) ev_c (show 1 < 5 by decide) fun H3 e3 => ?_
        exact ⟨_, _, rfl, done _ (absI y) (d1 + 1) d2 d4 ((c2.pure e3).upd dk.no) (by omega) upd_same⟩
      · refine s_if (b := decide (V.int d0 = V.int 0)) (et_test (ev_op (ev_op (ev_var rfl) ev_c (rv_iL (sq_of (e1 _ _ hp)) at0)) ev_c (rv_eq rfl))) (fun hb2 H2 e2 => ?_) (fun hb2 H2 e2 => ?_)
        · have hp2 := (e1.trans e2) _ _ hp
          have c2 := c0.pure (e1.trans e2)
          refine q_setL (j := 4) hp2 (ev_op (ev_op (ev_var rfl) ev_c (rv_iL (sq_of hp2) at4)) ev_c rv_I0) (ev_var rfl) ev_c (show 4 < 5 by decide) fun H3 e3 => ?_
          have c3 := (c2.pure e3).upd (o := .lst [.int d0, .int d1, .int d2, .ref sa, .int (d4 + 1)]) dk.no
          have hp3 : (upd H3 p (.lst [.int d0, .int d1, .int d2, .ref sa, .int (d4 + 1)])) p = some (.lst [.int d0, .int d1, .int d2, .ref sa, .int (d4 + 1)]) := upd_same
          refine q_asg (ev_op (ev_int1 (ev_op (ev_op (ev_op (ev_op (ev_var rfl) ev_c (rv_iL (sq_of hp3) at2)) ev_c (rv_I (.inr ⟨by decide, by decide⟩))) (ev_op (ev_op (ev_var rfl) ev_c (rv_iL (sq_of hp3) at4)) ev_c (rv_I (.inr ⟨by decide, by decide⟩))) rv_I0) ev_c rv_I0)) ev_c (rv_I (by show (0 : Int) < 2147483647; decide))) fun H4 e4 => ?_
          have hp4 := e4 _ _ hp3
          refine q_asg (ev_op (ev_int1 (ev_op (ev_op (ev_op (ev_var rfl) (ev_var rfl) (rv_I (.inl (mod31 (by decide) (by decide))))) (ev_op ev_c (ev_op (ev_var rfl) ev_c (rv_iL (sq_of hp4) at4)) (rv_I (.inl ⟨by decide, by decide⟩))) rv_I0) ev_c rv_I0)) ev_c (rv_I (by show (0 : Int) < 998244353; decide))) fun H5 e5 => ?_
          have hp5 := e5 _ _ hp4
          refine q_asg (ev_op (ev_int1 (ev_op (ev_op (ev_op (ev_var rfl) (ev_var rfl) (rv_I (.inl (mod31 (by decide) (by decide))))) (ev_op ev_c (ev_op (ev_var rfl) ev_c (rv_iL (sq_of hp5) at4)) (rv_I (.inl ⟨by decide, by decide⟩))) rv_I0) (ev_op (ev_var rfl) ev_c (rv_iL (sq_of hp5) at2)) rv_I0)) ev_c (rv_I (by show (0 : Int) < 2147483629; decide))) fun H6 e6 => ?_
          have hp6 := e6 _ _ hp5
          refine s_setL (j := 0) hp6 (ev_op (ev_var rfl) ev_c (rv_I ⟨by decide, by decide⟩)) (ev_var rfl) ev_c (show 0 < 5 by decide) fun H7 e7 => ?_
          exact ⟨_, _, rfl, done _ _ d1 d2 (d4 + 1) ((c3.pure (((e4.trans e5).trans e6).trans e7)).upd dk.no) h1 upd_same⟩
        · exact ⟨_, _, rfl, done _ d0 d1 d2 d4 (c0.pure (e1.trans e2)) h1 ((e1.trans e2) _ _ hp)⟩
    · rintro σ' H1 ⟨x2, x3, rfl, dk1, b1⟩
      obtain ⟨d0, d1, d2, d4, sa, ns, hp, h1, hs, hn⟩ := dk1.dk
      refine q_asg (ev_op (ev_int1 (ev_op (ev_var rfl) ev_c (rv_iL (sq_of hp) at0))) (ev_var rfl) (rv_I hb.1)) fun H2 e2 => ?_
      have hp2 := e2 _ _ hp
      refine q_setL (j := 0) hp2 (ev_op (ev_op (ev_var rfl) ev_c (rv_iL (sq_of hp2) at0)) (ev_var rfl) (rv_I hb)) (ev_var rfl) ev_c (show 0 < 5 by decide) fun H3 e3 => ?_
      have c3 := ((Cu.mk dk1.ex b1).pure (e2.trans e3)).upd (o := .lst [.int (d0 / b), .int d1, .int d2, .ref sa, .int d4]) dk1.no
      have n1 := Int.emod_nonneg d0 (show b ≠ 0 by omega)
      have n2 := Int.emod_lt_of_pos d0 hb.1
      refine s_ret (ev_var rfl) fun H4 e4 => ?_
      have c4 := c3.pure e4
      exact k _ H4 ⟨c4.ex, dk1.no, d0 / b, d1, d2, d4, sa, ns, e4 _ _ upd_same, h1, hs, hn⟩ c4.bt n1 n2

/-! ### expressions that draw -/
/-- te, wherever the deck stands and what H0 knew (but the deck) stands, gives a v of P; the deck stands behind it -/
def Dv (p : Addr) (F H0 : Hp) (te : TE) (σ : L2.St) (R : V → Prop) : Prop := ∀ H, Dk p F H → But p H0 H → ∀ Q : VK, (∀ v H', Dk p F H' → But p H0 H' → R v → Q v H') → te σ H Q
def Da (p : Addr) (F H0 : Hp) (ta : TA) (σ : L2.St) (R : List V → Prop) : Prop := ∀ H, Dk p F H → But p H0 H → ∀ Q : List V → Hp → Prop, (∀ v H', Dk p F H' → But p H0 H' → R v → Q v H') → ta σ H Q
section
variable {p : Addr} {F H0 : Hp} {σ : L2.St} {te ta tb : TE} {ta' : TA} {R R' : V → Prop}
theorem dv_ev {v : V} (h : ∀ H, But p H0 H → Ev te σ H v) : Dv p F H0 te σ (· = v) := fun H d b Q q => h H b H (Ex.refl H) _ fun H2 e => q v H2 (d.ex_ e) (b.pure e) rfl
theorem dv_c {v : V} : Dv p F H0 (tC v) σ (· = v) := dv_ev fun _ _ => ev_c
theorem dv_var {i : Nat} {v : V} (h : σ[i]? = some (some v)) : Dv p F H0 (tVar i) σ (· = v) := dv_ev fun _ _ => ev_var h
theorem dv_is (h : Dv p F H0 te σ R) (hr : ∀ v, R v → R' v) : Dv p F H0 te σ R' := fun H d b Q q => h H d b Q fun v H' d' b' r => q v H' d' b' (hr v r)
/-- the ints between two bounds -/
def Rg (lo hi : Int) (v : V) : Prop := ∃ z : Int, v = .int z ∧ lo ≤ z ∧ z < hi
theorem rg_one {z : Int} : Rg z (z + 1) (.int z) := ⟨z, rfl, Int.le_refl z, Int.lt_succ z⟩
theorem dv_i {z : Int} (h : Dv p F H0 te σ (· = .int z)) : Dv p F H0 te σ (Rg z (z + 1)) := dv_is h fun _ e => e ▸ rg_one
theorem dv_add {a b c d : Int} (ha : Dv p F H0 ta σ (Rg a b)) (hb : Dv p F H0 tb σ (Rg c d)) : Dv p F H0 (tOp (rI0 fun i j => .int (i + j)) ta tb) σ (Rg (a + c) (b + d - 1)) := fun H dk bt Q q =>
  ha H dk bt _ fun x H1 d1 b1 ⟨i, ei, i1, i2⟩ => hb H1 d1 b1 _ fun y H2 d2 b2 ⟨j, ej, j1, j2⟩ => ⟨i, j, ei, ej, q _ H2 d2 b2 ⟨i + j, rfl, by omega, by omega⟩⟩
theorem dv_sub {a b c d : Int} (ha : Dv p F H0 ta σ (Rg a b)) (hb : Dv p F H0 tb σ (Rg c d)) : Dv p F H0 (tOp (rI0 fun i j => .int (i - j)) ta tb) σ (Rg (a - d + 1) (b - c)) := fun H dk bt Q q =>
  ha H dk bt _ fun x H1 d1 b1 ⟨i, ei, i1, i2⟩ => hb H1 d1 b1 _ fun y H2 d2 b2 ⟨j, ej, j1, j2⟩ => ⟨i, j, ei, ej, q _ H2 d2 b2 ⟨i - j, rfl, by omega, by omega⟩⟩
theorem da_is {S S' : List V → Prop} (h : Da p F H0 ta' σ S) (hr : ∀ v, S v → S' v) : Da p F H0 ta' σ S' := fun H d b Q q => h H d b Q fun v H' d' b' r => q v H' d' b' (hr v r)
theorem dv_neg {z : Int} (h : Dv p F H0 te σ (· = .int z)) : Dv p F H0 (tUn (rU fun i => .int (-i)) te) σ (· = .int (-z)) := fun H d b Q q => h H d b _ fun v H1 d1 b1 e => ⟨z, e, q _ H1 d1 b1 rfl⟩
theorem da_nil : Da p F H0 tNil σ (· = []) := fun H d b Q q => q [] H d b rfl
theorem da_cons {tr : TA} {S : List V → Prop} (ha : Dv p F H0 ta σ R) (hr : Da p F H0 tr σ S) : Da p F H0 (tCons ta tr) σ (fun l => ∃ v r, l = v :: r ∧ R v ∧ S r) := fun H d b Q q =>
  ha H d b _ fun v H1 d1 b1 r1 => hr H1 d1 b1 _ fun vs H2 d2 b2 r2 => q (v :: vs) H2 d2 b2 ⟨v, vs, rfl, r1, r2⟩
/-- a call with the deck -/
theorem dv_call {sp : Sp} {E : XK} {t : TA} {S : List V → Prop} (ha : Da p F H0 t σ S) (hs : ∀ vs H, S vs → Dk p F H → But p H0 H → ∀ Q : VK, (∀ v H', Dk p F H' → But p H H' → R v → Q v H') → sp vs H Q E) : Dv p F H0 (tCall sp [] E t) σ R := fun H d b Q q =>
  ha H d b _ fun vs H1 d1 b1 r1 => by
    show sp (vs ++ []) H1 Q E
    rw [List.append_nil]
    exact hs vs H1 r1 d1 b1 Q fun v H2 d2 b2 r2 => q v H2 d2 (b1.trans b2) r2
theorem dv_draw (T : Tx K mg) {E : XK} {b : Int} (hp : Dv p F H0 ta σ (· = .ref p)) (hb : Dv p F H0 tb σ (Rg b (b + 1))) (h : 0 < b ∧ b < 1073741824) : Dv p F H0 (tCall (sp_l_draw T) [] E (tCons ta (tCons tb tNil))) σ (Rg 0 b) :=
  dv_call (da_cons hp (da_cons hb da_nil)) fun vs H ⟨v, r, e1, e2, v', r', e3, e4, e5⟩ d _ Q q => by
    subst e1 e2 e3 e5
    obtain ⟨z, rfl, z1, z2⟩ := e4
    have : z = b := by omega
    subst this
    exact ⟨p, F, z, rfl, d, h, fun z H' d' b' z1 z2 => q _ H' d' b' ⟨z, rfl, z1, z2⟩⟩
/-- [a, b, ..][draw(n)] -/
theorem dv_pick {t : TA} {xs : List V} (ht : Da p F H0 t σ (· = xs)) (hx : xs.length ≤ 1000) (hb : ∀ H1, But p H0 H1 → Dv p F H1 tb σ (Rg 0 xs.length)) (hR : ∀ v ∈ xs, R v) : Dv p F H0 (tOp (rIx K) (tLst t) tb) σ R := fun H d b Q q =>
  ht H d b _ fun vs H1 d1 b1 e1 => by
    subst e1
    refine ⟨Nat.le_trans hx (by decide), fun l hl => ?_⟩
    have hlp : l ≠ p := fun z => d1.some (by rw [← z]; exact hl)
    have eL := Ex.new (o := HO.lst vs) hl
    refine hb _ (b1.pure eL) (upd H1 l (.lst vs)) (d1.ex_ eL) (But.refl p _) _ fun y H2 d2 b2 ⟨j, ej, j1, j2⟩ => ?_
    obtain ⟨v, hv⟩ : ∃ v, vs[j.toNat]? = some v := get_of_lt (by omega)
    exact .inl ⟨l, vs, j, v, rfl, ej, sq_of (b2.kp _ _ hlp upd_same), by rw [show j = (j.toNat : Int) by omega]; exact atI_nat hv, q v H2 d2 ((b1.pure eL).trans b2) (hR v (mem_of_get hv))⟩
/-- a statement's value -/
theorem dv_ret {D : Ends} {H : Hp} (h : Dv p F H te σ R) (d : Dk p F H) (k : ∀ v H', Dk p F H' → But p H H' → R v → D.rt v H') : tRet te D σ H := h H d (But.refl p H) _ k
theorem dv_asg {D : Ends} {tz : TS} {H : Hp} {i : Nat} (h : Dv p F H te σ R) (d : Dk p F H) (k : ∀ v H', Dk p F H' → But p H H' → R v → tz D (σ.set i (some v)) H') : tSeq (tAsg te (gName i)) tz D σ H := h H d (But.refl p H) _ k
end

/-! ### sample, gain -/
def SmpV (v : V) : Prop := ∃ z : Int, v = .int z ∧ Smp z
def GainV (v : V) : Prop := ∃ z : Int, v = .int z ∧ GainR z
def sp_l_sample (T : Tx K mg) : Sp := fun vs H Q _ => ∃ (p : Addr) (F : Hp), vs = [.ref p] ∧ Dk p F H ∧ ∀ v H', Dk p F H' → But p H H' → SmpV v → Q v H'
theorem ok_l_sample (T : Tx K mg) : FnOk P w K mg base CX0 2 T.a_l_sample T.d_l_sample P_l_sample (sp_l_sample T) := by
  refine T.F_l_sample.ok sc_l_sample (fun vs H Q E h => ?_) (fun cdv A outer s H vs Q E hr h => ?_)
  · obtain ⟨p, F, rfl, _⟩ := h
    rfl
  · obtain ⟨p, F, rfl, dk, k⟩ := h
    refine ⟨_, (pss_cons (ps_set (i := 1) sc_l_sample.nd rfl (.inl rfl) (pe_call (ok_l_draw T) (hr.mono (by decide)) (by rfl) T.g_l_draw T.F_l_draw.kp T.b_l_draw .nil pass0 (pa_cons (pv 0) (pa_cons pe_int pa_nil)))) (pss_cons (ps_if (pt_cmpR op_eq (pv 1) pe_int (nomark _)) (pss_one (ps_ret pe_int)) pss_nil) (pss_cons (ps_if (pt_cmpR op_eq (pv 1) pe_int (nomark _)) (pss_one (ps_ret (pe_op op_sub (pe_call (ok_l_draw T) (hr.mono (by decide)) (by rfl) T.g_l_draw T.F_l_draw.kp T.b_l_draw .nil pass0 (pa_cons (pv 0) (pa_cons pe_int pa_nil))) pe_int))) pss_nil) (pss_cons (ps_if (pt_cmpR op_eq (pv 1) pe_int (nomark _)) (pss_one (ps_ret (pe_ix ix_seq (pe_lst (pa_cons pe_int (pa_cons (pe_un un_neg pe_int) (pa_cons pe_int (pa_cons (pe_un un_neg pe_int) pa_nil))))) (pe_call (ok_l_draw T) (hr.mono (by decide)) (by rfl) T.g_l_draw T.F_l_draw.kp T.b_l_draw .nil pass0 (pa_cons (pv 0) (pa_cons pe_int pa_nil))) (fun _ _ => rfl)))) pss_nil) (pss_cons (ps_if (pt_cmpR op_eq (pv 1) pe_int (nomark _)) (pss_one (ps_ret (pe_op op_sub (pe_call (ok_l_draw T) (hr.mono (by decide)) (by rfl) T.g_l_draw T.F_l_draw.kp T.b_l_draw .nil pass0 (pa_cons (pv 0) (pa_cons pe_int pa_nil))) pe_int))) pss_nil) (pss_one (ps_ret (pe_op op_sub (pe_call (ok_l_draw T) (hr.mono (by decide)) (by rfl) T.g_l_draw T.F_l_draw.kp T.b_l_draw .nil pass0 (pa_cons (pv 0) (pa_cons pe_int pa_nil))) pe_int)))))))), ?_⟩
    refine dv_asg (dv_draw T (dv_var rfl) (dv_i dv_c) ⟨by decide, by decide⟩) dk fun v H1 d1 b1 ⟨z, ez, z1, z2⟩ => ?_
    subst ez
    have stp : ∀ {H2 : Hp}, Ex H1 H2 → Dk p F H2 ∧ But p H H2 := fun e => ⟨d1.ex_ e, b1.pure e⟩
    refine q_when (et_test (ev_op (ev_var rfl) ev_c (rv_eq rfl))) (fun _ H2 e2 => ?_) (fun _ H2 e2 => ?_)
    · exact s_ret ev_c fun H3 e3 => k _ H3 (stp (e2.trans e3)).1 (stp (e2.trans e3)).2 ⟨0, rfl, smp0⟩
    refine q_when (et_test (ev_op (ev_var rfl) ev_c (rv_eq rfl))) (fun _ H3 e3 => ?_) (fun _ H3 e3 => ?_)
    · refine dv_ret (dv_sub (dv_draw T (dv_var rfl) (dv_i dv_c) ⟨by decide, by decide⟩) (dv_i dv_c)) (stp (e2.trans e3)).1 fun v H4 d4 b4 ⟨y, ey, y1, y2⟩ => k v H4 d4 ((stp (e2.trans e3)).2.trans b4) ⟨y, ey, by unfold Smp; omega⟩
    refine q_when (et_test (ev_op (ev_var rfl) ev_c (rv_eq rfl))) (fun _ H4 e4 => ?_) (fun _ H4 e4 => ?_)
    · have e24 := (e2.trans e3).trans e4
      refine dv_ret (dv_pick (R := SmpV) (xs := [.int 8388607, .int (-8388608), .int 8388606, .int (-8388607)]) (da_is (da_cons dv_c (da_cons (dv_neg dv_c) (da_cons dv_c (da_cons (dv_neg dv_c) da_nil)))) fun l h => by obtain ⟨v1, r1, rfl, rfl, v2, r2, rfl, rfl, v3, r3, rfl, rfl, v4, r4, rfl, rfl, rfl⟩ := h; rfl) (show 4 ≤ 1000 by decide) (fun _ _ => dv_draw T (dv_var rfl) (dv_i dv_c) ⟨by decide, by decide⟩) ?_) (stp e24).1 fun v H5 d5 b5 hv => k v H5 d5 ((stp e24).2.trans b5) hv
      intro v hv
      simp at hv
      rcases hv with rfl | rfl | rfl | rfl <;> exact ⟨_, rfl, by unfold Smp; omega⟩
    refine q_when (et_test (ev_op (ev_var rfl) ev_c (rv_eq rfl))) (fun _ H5 e5 => ?_) (fun _ H5 e5 => ?_)
    · have e25 := ((e2.trans e3).trans e4).trans e5
      refine dv_ret (dv_sub (dv_draw T (dv_var rfl) (dv_i dv_c) ⟨by decide, by decide⟩) (dv_i dv_c)) (stp e25).1 fun v H6 d6 b6 ⟨y, ey, y1, y2⟩ => k v H6 d6 ((stp e25).2.trans b6) ⟨y, ey, by unfold Smp; omega⟩
    · have e25 := ((e2.trans e3).trans e4).trans e5
      refine dv_ret (dv_sub (dv_draw T (dv_var rfl) (dv_i dv_c) ⟨by decide, by decide⟩) (dv_i dv_c)) (stp e25).1 fun v H6 d6 b6 ⟨y, ey, y1, y2⟩ => k v H6 d6 ((stp e25).2.trans b6) ⟨y, ey, by unfold Smp; omega⟩
end K37

/-! K37, part 12: what the law draws: gains, samples, tempo maps, points, specs, parts, blocks. -/
namespace K37
open PySem L2 Evl
variable {P : Program} {w : World} {K : PySem.W.Frag} {mg : Str → Option Value} {base : Heap}

theorem Dk.updl {p l : Addr} {F H : Hp} {o : HO} (d : Dk p F H) (hF : F l = none) (n : l ≠ p) : Dk p F (L2.upd H l o) := ⟨Ex.mut d.ex hF, d.no, let ⟨d0, d1, d2, d4, sa, ns, h, r⟩ := d.dk; ⟨d0, d1, d2, d4, sa, ns, by rw [upd_ne n.symm]; exact h, r⟩⟩
theorem But.updl {p l : Addr} {H H' : Hp} {o : HO} (b : But p H H') (hl : H l = none) : But p H (L2.upd H' l o) := ⟨fun c u n h => by rw [upd_ne (ne_of_none h hl)]; exact b.kp c u n h, fun c h => by
  by_cases q : c = l
  · rw [q, upd_same]; simp
  · rw [upd_ne q]; exact b.dm c h⟩
theorem But.fresh {p l : Addr} {H H' : Hp} (b : But p H H') (h : H' l = none) : H l = none := by
  cases q : H l with
  | none => rfl
  | some o => exact absurd h (b.dm l (by rw [q]; simp))
theorem Dk.ne {p l : Addr} {F H : Hp} (d : Dk p F H) (h : H l = none) : l ≠ p := fun z => d.some (by rw [← z]; exact h)
theorem Dk.freshF {p l : Addr} {F H : Hp} (d : Dk p F H) (h : H l = none) : F l = none := by
  cases q : F l with
  | none => rfl
  | some o => rw [d.ex l o q] at h; cases h
section
variable {p : Addr} {F H0 : Hp} {σ : L2.St} {te ta tb : TE} {ta' : TA} {R R' : V → Prop}
theorem dv_sample (T : Tx K mg) {E : XK} (hp : Dv p F H0 ta σ (· = .ref p)) : Dv p F H0 (tCall (sp_l_sample T) [] E (tCons ta tNil)) σ SmpV :=
  dv_call (da_cons hp da_nil) fun vs H ⟨v, r, e1, e2, e3⟩ d _ Q q => by
    subst e1 e2 e3
    exact ⟨p, F, rfl, d, q⟩
/-- a bound that is drawn itself -/
theorem dv_draw2 (T : Tx K mg) {E : XK} {lo hi : Int} (hp : Dv p F H0 ta σ (· = .ref p)) (hb : Dv p F H0 tb σ (Rg lo hi)) (h : 0 < lo ∧ hi ≤ 1073741824) : Dv p F H0 (tCall (sp_l_draw T) [] E (tCons ta (tCons tb tNil))) σ (Rg 0 (hi - 1)) :=
  dv_call (da_cons hp (da_cons hb da_nil)) fun vs H ⟨v, r, e1, e2, v', r', e3, e4, e5⟩ d _ Q q => by
    subst e1 e2 e3 e5
    obtain ⟨z, rfl, z1, z2⟩ := e4
    exact ⟨p, F, z, rfl, d, ⟨by omega, by omega⟩, fun y H' d' b' y1 y2 => q _ H' d' b' ⟨y, rfl, y1, by omega⟩⟩
theorem rg_mem2 {a b lo hi : Int} (h1 : lo ≤ a ∧ a < hi) (h2 : lo ≤ b ∧ b < hi) : ∀ v ∈ [V.int a, V.int b], Rg lo hi v := fun v hv => by
  simp at hv
  rcases hv with rfl | rfl
  · exact ⟨a, rfl, h1⟩
  · exact ⟨b, rfl, h2⟩
theorem dv_pick2 (T : Tx K mg) {E : XK} {a b lo hi : Int} {t0 t1 : TE} (hp : ∀ H1, Dv p F H1 ta σ (· = .ref p)) (h0 : Dv p F H0 t0 σ (· = .int a)) (h1 : Dv p F H0 t1 σ (· = .int b)) (ha : lo ≤ a ∧ a < hi) (hb : lo ≤ b ∧ b < hi) :
    Dv p F H0 (tOp (rIx K) (tLst (tCons t0 (tCons t1 tNil))) (tCall (sp_l_draw T) [] E (tCons ta (tCons (tC (.int 2)) tNil)))) σ (Rg lo hi) :=
  dv_pick (xs := [.int a, .int b]) (da_is (da_cons h0 (da_cons h1 da_nil)) fun l h => by obtain ⟨v1, r1, rfl, rfl, v2, r2, rfl, rfl, rfl⟩ := h; rfl) (show 2 ≤ 1000 by decide) (fun H1 _ => dv_draw T (b := 2) (hp H1) (dv_i dv_c) ⟨by decide, by decide⟩) (rg_mem2 ha hb)
/-- for .. in range(a drawn number) -/
theorem dq_for {D : Ends} {tu tz : TS} {H : Hp} {j : Nat} {lo hi : Int} (h : Dv p F H te σ (Rg lo hi)) (d : Dk p F H) (hb : 0 ≤ lo ∧ hi ≤ 100000)
    (k : ∀ (n : Nat) H1, (n : Int) < hi → Dk p F H1 → But p H H1 → ∃ Pv : Nat → L2.St → Hp → Prop, Pv 0 σ H1 ∧ (∀ (i : Nat) σ' H', i < n → Pv i σ' H' → tu { D with nx := Pv (i + 1), ct := Pv (i + 1), bk := tz D } (σ'.set j (some (.int (i : Int)))) H') ∧ ∀ σ' H', Pv n σ' H' → tz D σ' H') :
    tSeq (tFor (iRng1 (tCons te tNil)) (gName j) tu) tz D σ H := h H d (But.refl p H) _ fun v H1 d1 b1 ⟨z, ez, z1, z2⟩ => by
  subst ez
  obtain ⟨Pv, h0, hs, hd⟩ := k z.toNat H1 (by omega) d1 b1
  refine ⟨z, rfl, by omega, by omega, for_range (lo := 0) (n := z.toNat) Pv h0 (fun i σ' H' hi q => ?_) hd⟩
  show tu _ (σ'.set j (some (.int ((0 : Int) + (i : Int))))) H'
  rw [Int.zero_add]
  exact hs i σ' H' hi q
end

section
variable {p : Addr} {F : Hp} {σ : L2.St} {ta : TA} {S : List V → Prop} {D : Ends} {tz : TS} {H : Hp} {tl : TE}
/-- name = [a tuple] -/
theorem d_asgLT {i : Nat} (h : Da p F H ta σ S) (d : Dk p F H) (hl : ∀ vs, S vs → vs.length ≤ 1000)
    (k : ∀ vs H1 e l, Dk p F H1 → But p H H1 → S vs → H1 e = none → (upd H1 e (.tup vs)) l = none → tz D (σ.set i (some (.ref l))) (upd (upd H1 e (.tup vs)) l (.lst [.ref e]))) : tSeq (tAsg (tLst (tCons (tTup ta) tNil)) (gName i)) tz D σ H :=
  h H d (But.refl p H) _ fun vs H1 d1 b1 r1 => ⟨Nat.le_trans (hl vs r1) (by decide), fun e he => ⟨by show 1 ≤ sizeLine; decide, fun l hl => k vs H1 e l d1 b1 r1 he hl⟩⟩
/-- l.append(a tuple) -/
theorem d_appT {l : Addr} {xs : List V} (ht : Ev tl σ H (.ref l)) (hx : H l = some (.lst xs)) (nl : l ≠ p) (h : ∀ H1, Ex H H1 → Da p F H1 ta σ S) (d : Dk p F H) (hl : ∀ vs, S vs → vs.length ≤ 1000) (hz : xs.length < 100000)
    (k : ∀ vs H1 q, Dk p F H1 → But p H H1 → S vs → H1 q = none → D.nx σ (upd (upd H1 q (.tup vs)) l (.lst (xs ++ [.ref q])))) : tDrop (tBM K "list" rAppend tl (tCons (tTup ta) tNil)) D σ H :=
  ht H (Ex.refl H) _ fun H0 e0 => ⟨Or.inl ⟨rfl, _, sq_of (e0 _ _ hx)⟩, h H0 e0 H0 (d.ex_ e0) (But.refl p H0) _ fun vs H1 d1 b1 r1 => ⟨Nat.le_trans (hl vs r1) (by decide), fun q hq =>
    ⟨l, xs, .ref q, rfl, rfl, (Ex.new hq) _ _ (b1.kp _ _ nl (e0 _ _ hx)), sz_lt hz, k vs H1 q d1 ((But.of_ex e0).trans b1) r1 hq⟩⟩⟩
end

/-! ### gain -/
def sp_l_gain (T : Tx K mg) : Sp := fun vs H Q _ => ∃ (p : Addr) (F : Hp), vs = [.ref p] ∧ Dk p F H ∧ ∀ v H', Dk p F H' → But p H H' → GainV v → Q v H'
theorem ok_l_gain (T : Tx K mg) : FnOk P w K mg base CX0 2 T.a_l_gain T.d_l_gain P_l_gain (sp_l_gain T) := by
  refine T.F_l_gain.ok sc_l_gain (fun vs H Q E h => ?_) (fun cdv A outer s H vs Q E hr h => ?_)
  · obtain ⟨p, F, rfl, _⟩ := h
    rfl
  · obtain ⟨p, F, rfl, dk, k⟩ := h
    refine ⟨_, (pss_cons (ps_set (i := 1) sc_l_gain.nd rfl (.inl rfl) (pe_call (ok_l_draw T) (hr.mono (by decide)) (by rfl) T.g_l_draw T.F_l_draw.kp T.b_l_draw .nil pass0 (pa_cons (pv 0) (pa_cons pe_int pa_nil)))) (pss_cons (ps_if (pt_cmpR op_eq (pv 1) pe_int (nomark _)) (pss_one (ps_ret (pe_ix ix_seq (pe_lst (pa_cons pe_int (pa_cons pe_int (pa_cons pe_int (pa_cons pe_int (pa_cons pe_int (pa_cons pe_int (pa_cons pe_int (pa_cons pe_int pa_nil))))))))) (pe_call (ok_l_draw T) (hr.mono (by decide)) (by rfl) T.g_l_draw T.F_l_draw.kp T.b_l_draw .nil pass0 (pa_cons (pv 0) (pa_cons pe_int pa_nil))) (fun _ _ => rfl)))) pss_nil) (pss_one (ps_ret (pe_call (ok_l_draw T) (hr.mono (by decide)) (by rfl) T.g_l_draw T.F_l_draw.kp T.b_l_draw .nil pass0 (pa_cons (pv 0) (pa_cons pe_int pa_nil))))))), ?_⟩
    refine dv_asg (dv_draw T (dv_var rfl) (dv_i dv_c) ⟨by decide, by decide⟩) dk fun v H1 d1 b1 ⟨z, ez, z1, z2⟩ => ?_
    subst ez
    refine q_when (et_test (ev_op (ev_var rfl) ev_c (rv_eq rfl))) (fun _ H2 e2 => ?_) (fun _ H2 e2 => ?_)
    · refine dv_ret (dv_pick (R := GainV) (xs := [.int 0, .int 1, .int 32768, .int 65535, .int 65536, .int 65537, .int 131072, .int 262144])
        (da_is (da_cons dv_c (da_cons dv_c (da_cons dv_c (da_cons dv_c (da_cons dv_c (da_cons dv_c (da_cons dv_c (da_cons dv_c da_nil)))))))) fun l h => by obtain ⟨v1, r1, rfl, rfl, v2, r2, rfl, rfl, v3, r3, rfl, rfl, v4, r4, rfl, rfl, v5, r5, rfl, rfl, v6, r6, rfl, rfl, v7, r7, rfl, rfl, v8, r8, rfl, rfl, rfl⟩ := h; rfl)
        (show 8 ≤ 1000 by decide) (fun _ _ => dv_draw T (b := 8) (dv_var rfl) (dv_i dv_c) ⟨by decide, by decide⟩) ?_) (d1.ex_ e2) fun v H3 d3 b3 hv => k v H3 d3 ((b1.pure e2).trans b3) hv
      intro v hv
      simp at hv
      rcases hv with rfl | rfl | rfl | rfl | rfl | rfl | rfl | rfl <;> exact ⟨_, rfl, by unfold GainR; omega⟩
    · exact dv_ret (dv_draw T (dv_var rfl) (dv_i dv_c) ⟨by decide, by decide⟩) (d1.ex_ e2) fun v H3 d3 b3 ⟨y, ey, y1, y2⟩ => k v H3 d3 ((b1.pure e2).trans b3) ⟨y, ey, by unfold GainR; omega⟩
section
variable {p : Addr} {F H0 : Hp} {σ : L2.St} {te ta tb : TE} {ta' : TA} {R R' : V → Prop}
theorem dv_gain (T : Tx K mg) {E : XK} (hp : Dv p F H0 ta σ (· = .ref p)) : Dv p F H0 (tCall (sp_l_gain T) [] E (tCons ta tNil)) σ GainV :=
  dv_call (da_cons hp da_nil) fun vs H ⟨v, r, e1, e2, e3⟩ d _ Q q => by
    subst e1 e2 e3
    exact ⟨p, F, rfl, d, q⟩
end

/-! ### samples -/
def sp_l_samples (T : Tx K mg) : Sp := fun vs H Q _ => ∃ (p : Addr) (F : Hp) (m : Nat), vs = [.ref p, .int m] ∧ Dk p F H ∧ m ≤ 1000 ∧ ∀ (a : Addr) (xs : List Int) H', Dk p F H' → But p H H' → H a = none → H' a = some (.lst (xs.map V.int)) → xs.length ≤ m → (∀ x ∈ xs, Smp x) → Q (.ref a) H'
theorem ok_l_samples (T : Tx K mg) : FnOk P w K mg base CX0 3 T.a_l_samples T.d_l_samples P_l_samples (sp_l_samples T) := by
  refine T.F_l_samples.ok sc_l_samples (fun vs H Q E h => ?_) (fun cdv A outer s H vs Q E hr h => ?_)
  · obtain ⟨p, F, m, rfl, _⟩ := h
    rfl
  · obtain ⟨p, F, m, rfl, dk, hm, k⟩ := h
    refine ⟨_, (pss_one (ps_ret (pe_lc (own := [("_law_k", 2)]) (g := (gName 2)) (tt := tYes) (te := (tCall (sp_l_sample T) [] E0 (tCons (tVar 0) tNil))) rfl sc_l_samples.nd (pi_range1 (by rfl) T.z_range (pa_cons (pe_call (ok_l_draw T) (hr.mono (by decide)) (by rfl) T.g_l_draw T.F_l_draw.kp T.b_l_draw .nil pass0 (pa_cons (pv 0) (pa_cons (pe_op op_add (pv 1) pe_int) pa_nil))) pa_nil)) (blkOk_by (N := N_l_samples) (sc := defScope s_l_samples) (by decide +kernel)) (fun _ _ _ _ _ => (pg_name (i := 2) sc_l_samples.nd rfl (.inl rfl))) (fun _ _ _ _ _ => pts_nil) (fun _ _ _ _ _ => (pe_call (ok_l_sample T) (hr.mono (by decide)) (by rfl) T.g_l_sample T.F_l_sample.kp T.b_l_sample .nil pass0 (pa_cons (pv 0) pa_nil)))))), ?_⟩
    have hdr : Dv p F H (tCall (sp_l_draw T) [] E0 (tCons (tVar 0) (tCons (tOp (rI0 fun i j => .int (i + j)) (tVar 1) (tC (.int 1))) tNil))) (start N_l_samples [.ref p, .int m]) (Rg 0 ((m : Int) + 1)) :=
      dv_draw T (dv_var rfl) (dv_is (dv_add (dv_i (dv_var rfl)) (dv_i dv_c)) fun v ⟨z, ez, z1, z2⟩ => ⟨z, ez, by omega, by omega⟩) ⟨by omega, by omega⟩
    refine hdr H dk (But.refl p H) _ fun v H1 d1 b1 ⟨n, en, n1, n2⟩ => ?_
    subst en
    refine ⟨n, rfl, by omega, by omega, fun Dl hD => ?_⟩
    have hD0 := b1.fresh hD
    have hFD := d1.freshF hD
    have nD := d1.ne hD
    refine lc_range (lo := 0) (n := n.toNat) (fun i H' => Dk p F H' ∧ But p H H' ∧ ∃ xs : List Int, xs.length = i ∧ H' Dl = some (.lst (xs.map V.int)) ∧ ∀ x ∈ xs, Smp x) ⟨d1.updl hFD nD, b1.updl hD0, [], rfl, upd_same, fun x hx => nomatch hx⟩ ?_ ?_
    · rintro i H' hi ⟨d2, b2, xs, hl, hD2, hxs⟩
      refine ⟨rfl, ?_⟩
      dsimp only [tYes]
      rw [if_pos rfl]
      refine dv_sample T (dv_var rfl) H' d2 (But.refl p H') _ fun v H3 d3 b3 ⟨z, ez, hz⟩ => ?_
      subst ez
      refine ⟨xs.map V.int, b3.kp _ _ nD hD2, sz_lt (by rw [List.length_map]; omega), d3.updl hFD nD, (b2.trans b3).updl hD0, xs ++ [z], by rw [List.length_append, hl]; rfl, ?_, app_smp hxs hz⟩
      rw [upd_same, List.map_append]; rfl
    · rintro H' ⟨d2, b2, xs, hl, hD2, hxs⟩
      exact k Dl xs H' d2 b2 hD0 hD2 (by omega) hxs

/-! ### tempo -/
structure TsUp (ts : List Ent) (n : Nat) : Prop where
  len : ts.length = n + 1
  first : ∀ e, ts[0]? = some e → e.1 = 0
  asc : ts.Pairwise fun a b => a.1 < b.1
  tick : ∀ e ∈ ts, e.1 ≤ 20 * n
  last : ∀ e, ts[n]? = some e → ∀ x ∈ ts, x.1 ≤ e.1
  num : ∀ e ∈ ts, 1 ≤ e.2.1 ∧ e.2.1 ≤ 12
  den : ∀ e ∈ ts, 1 ≤ e.2.2 ∧ e.2.2 ≤ 7
theorem TsUp.ok {ts : List Ent} {n : Nat} (h : TsUp ts n) (hn : n ≤ 15) : TsOk ts := ⟨by rw [h.len]; omega, by rw [h.len]; omega, h.first, h.asc, fun e he => Nat.le_trans (h.tick e he) (by omega), h.num, h.den⟩
theorem TsUp.one {e : Ent} (h0 : e.1 = 0) (h1 : 1 ≤ e.2.1 ∧ e.2.1 ≤ 12) (h2 : 1 ≤ e.2.2 ∧ e.2.2 ≤ 7) : TsUp [e] 0 :=
  ⟨rfl, fun x hx => by cases hx; exact h0, List.pairwise_singleton _ _, fun x hx => by rw [List.mem_singleton.mp hx, h0]; exact Nat.zero_le _, fun x hx y hy => by cases hx; rw [List.mem_singleton.mp hy]; exact Nat.le_refl _, fun x hx => by rw [List.mem_singleton.mp hx]; exact h1, fun x hx => by rw [List.mem_singleton.mp hx]; exact h2⟩
theorem TsUp.snoc {ts : List Ent} {n : Nat} {l e : Ent} (h : TsUp ts n) (hl : ts[n]? = some l) (h0 : l.1 < e.1 ∧ e.1 ≤ l.1 + 20) (h1 : 1 ≤ e.2.1 ∧ e.2.1 ≤ 12) (h2 : 1 ≤ e.2.2 ∧ e.2.2 ≤ 7) : TsUp (ts ++ [e]) (n + 1) := by
  have hlm := h.tick l (mem_of_get hl)
  refine ⟨by rw [List.length_append, h.len]; rfl, fun x hx => ?_, ?_, fun x hx => ?_, fun x hx y hy => ?_, fun x hx => ?_, fun x hx => ?_⟩
  · rw [List.getElem?_append_left (by rw [h.len]; omega)] at hx
    exact h.first x hx
  · refine List.pairwise_append.mpr ⟨h.asc, List.pairwise_singleton _ _, fun a ha b hb => ?_⟩
    rw [List.mem_singleton.mp hb]
    exact Nat.lt_of_le_of_lt (h.last l hl a ha) h0.1
  · rcases List.mem_append.mp hx with q | q
    · have := h.tick x q; omega
    · rw [List.mem_singleton.mp q]; omega
  · rw [List.getElem?_append_right (by rw [h.len]; omega), h.len, show n + 1 - (n + 1) = 0 by omega] at hx
    cases hx
    rcases List.mem_append.mp hy with q | q
    · have := h.last l hl y q; omega
    · rw [List.mem_singleton.mp q]; exact Nat.le_refl _
  · rcases List.mem_append.mp hx with q | q
    · exact h.num x q
    · rw [List.mem_singleton.mp q]; exact h1
  · rcases List.mem_append.mp hx with q | q
    · exact h.den x q
    · rw [List.mem_singleton.mp q]; exact h2
theorem ent_of {t n d : Int} (ht : 0 ≤ t) (hn : 0 ≤ n) (hd : 0 ≤ d) : ([.int t, .int n, .int d] : List V) = entV (t.toNat, n.toNat, d.toNat) := by
  unfold entV
  rw [Int.toNat_of_nonneg ht, Int.toNat_of_nonneg hn, Int.toNat_of_nonneg hd]
def sp_l_tempo (T : Tx K mg) : Sp := fun vs H Q _ => ∃ (p : Addr) (F : Hp), vs = [.ref p] ∧ Dk p F H ∧ ∀ (a : Addr) (ts : List Ent) F' H', Stp (· = p) F H F' H' → Dk p F' H' → IsTs F' a ts → TsOk ts → Q (.ref a) H'
theorem ok_l_tempo (T : Tx K mg) : FnOk P w K mg base CX0 2 T.a_l_tempo T.d_l_tempo P_l_tempo (sp_l_tempo T) := by
  refine T.F_l_tempo.ok sc_l_tempo (fun vs H Q E h => ?_) (fun cdv A outer s H vs Q E hr h => ?_)
  · obtain ⟨p, F, rfl, _⟩ := h
    rfl
  · obtain ⟨p, F, rfl, dk, k⟩ := h
    refine ⟨_, (pss_cons (ps_set (i := 1) sc_l_tempo.nd rfl (.inl rfl) (pe_lst (pa_cons (pe_tup (pa_cons pe_int (pa_cons (pe_op op_add pe_int (pe_call (ok_l_draw T) (hr.mono (by decide)) (by rfl) T.g_l_draw T.F_l_draw.kp T.b_l_draw .nil pass0 (pa_cons (pv 0) (pa_cons pe_int pa_nil)))) (pa_cons (pe_op op_add pe_int (pe_call (ok_l_draw T) (hr.mono (by decide)) (by rfl) T.g_l_draw T.F_l_draw.kp T.b_l_draw .nil pass0 (pa_cons (pv 0) (pa_cons pe_int pa_nil)))) pa_nil)))) pa_nil))) (pss_cons (ps_for PassesOwn.never rfl (pi_range1 (by rfl) T.z_range (pa_cons (pe_call (ok_l_draw T) (hr.mono (by decide)) (by rfl) T.g_l_draw T.F_l_draw.kp T.b_l_draw .nil pass0 (pa_cons (pv 0) (pa_cons (pe_ix ix_seq (pe_lst (pa_cons pe_int (pa_cons pe_int pa_nil))) (pe_call (ok_l_draw T) (hr.mono (by decide)) (by rfl) T.g_l_draw T.F_l_draw.kp T.b_l_draw .nil pass0 (pa_cons (pv 0) (pa_cons pe_int pa_nil))) (fun _ _ => rfl)) pa_nil))) pa_nil)) (pg_name (i := 2) sc_l_tempo.nd rfl (.inl rfl)) (pss_one (ps_expr (pe_bm PySem.F.plainAttrs_list PySem.F.slot_list_append PySem.F.type_list_append mt_append (pv 1) (pa_cons (pe_tup (pa_cons (pe_op op_add (pe_op op_add (pe_ix ix_seq (pe_ix ix_seq (pv 1) (pe_un un_neg pe_int) (fun _ _ => rfl)) pe_int (fun _ _ => rfl)) pe_int) (pe_call (ok_l_draw T) (hr.mono (by decide)) (by rfl) T.g_l_draw T.F_l_draw.kp T.b_l_draw .nil pass0 (pa_cons (pv 0) (pa_cons pe_int pa_nil)))) (pa_cons (pe_op op_add pe_int (pe_call (ok_l_draw T) (hr.mono (by decide)) (by rfl) T.g_l_draw T.F_l_draw.kp T.b_l_draw .nil pass0 (pa_cons (pv 0) (pa_cons pe_int pa_nil)))) (pa_cons (pe_op op_add pe_int (pe_call (ok_l_draw T) (hr.mono (by decide)) (by rfl) T.g_l_draw T.F_l_draw.kp T.b_l_draw .nil pass0 (pa_cons (pv 0) (pa_cons pe_int pa_nil)))) pa_nil)))) pa_nil))))) (pss_one (ps_ret (pv 1))))), ?_⟩
    have h12 : ∀ {F1 H1 : Hp} {σ : L2.St}, σ[0]? = some (some (.ref p)) → Dv p F1 H1 (tOp (rI0 fun i j => .int (i + j)) (tC (.int 1)) (tCall (sp_l_draw T) [] E0 (tCons (tVar 0) (tCons (tC (.int 12)) tNil)))) σ (Rg (1 + 0) (1 + 1 + 12 - 1)) := fun h => dv_add (dv_i dv_c) (dv_draw T (dv_var h) (dv_i dv_c) ⟨by decide, by decide⟩)
    have h7 : ∀ {F1 H1 : Hp} {σ : L2.St}, σ[0]? = some (some (.ref p)) → Dv p F1 H1 (tOp (rI0 fun i j => .int (i + j)) (tC (.int 1)) (tCall (sp_l_draw T) [] E0 (tCons (tVar 0) (tCons (tC (.int 7)) tNil)))) σ (Rg (1 + 0) (1 + 1 + 7 - 1)) := fun h => dv_add (dv_i dv_c) (dv_draw T (dv_var h) (dv_i dv_c) ⟨by decide, by decide⟩)
    refine d_asgLT (da_cons (dv_i dv_c) (da_cons (h12 rfl) (da_cons (h7 rfl) da_nil))) dk (fun vs ⟨v1, r1, e1, _, v2, r2, e2, _, v3, r3, e3, _, e4⟩ => by subst e1 e2 e3 e4; show 3 ≤ 1000; decide) fun vs H1 e l d1 b1 ⟨v1, r1, e1, ⟨z1, ez1, z1a, z1b⟩, v2, r2, e2, ⟨z2, ez2, z2a, z2b⟩, v3, r3, e3, ⟨z3, ez3, z3a, z3b⟩, e4⟩ he hl => ?_
    subst e1 e2 e3 e4 ez1 ez2 ez3
    rw [ent_of z1a (by omega) (by omega)] at hl ⊢
    have eE := Ex.new (o := .tup (entV (z1.toNat, z2.toNat, z3.toNat))) he
    have s1 := (d1.stp b1).pure eE
    have s2 := s1.freeze (s1.keepF.fresh (p := e) |> fun _ => b1.fresh he) upd_same
    have l1 : H1 l = none := fresh_back eE hl
    have hl0 := b1.fresh l1
    have nlp := d1.ne l1
    have nel : e ≠ l := ne_of_none (o := .tup (entV (z1.toNat, z2.toNat, z3.toNat))) upd_same hl
    have hFl : (upd F e (.tup (entV (z1.toNat, z2.toNat, z3.toNat)))) l = none := by rw [upd_ne nel.symm]; exact d1.freshF l1
    have nep := d1.ne he
    have d2 : Dk p (upd F e (.tup (entV (z1.toNat, z2.toNat, z3.toNat)))) (upd H1 e (.tup (entV (z1.toNat, z2.toNat, z3.toNat)))) := (d1.ex_ eE).grow s2.ex s2.ex' (by rw [upd_ne nep.symm]; exact d1.no)
    refine dq_for (lo := 0) (hi := 15 + 1) ?_ (d2.updl hFl nlp) ⟨by decide, by decide⟩ fun n H3 hn d3 b3 => ⟨fun i σ' H' => ∃ (F' : Hp) (ts : List Ent) (es : List Addr) (x2 : Option V), σ' = [some (.ref p), some (.ref l), x2] ∧ Stp (· = p) F H F' H' ∧ Dk p F' H' ∧ F' l = none ∧ H' l = some (.lst (es.map V.ref)) ∧ TupL F' es entV ts ∧ TsUp ts i, ?_, ?_, ?_⟩
    · exact dv_is (dv_draw2 T (dv_var rfl) (dv_pick2 T (fun _ => dv_var rfl) dv_c dv_c (lo := 3) (hi := 17) ⟨by decide, by decide⟩ ⟨by decide, by decide⟩) ⟨by decide, by decide⟩) fun v h => h
    · refine ⟨_, [(z1.toNat, z2.toNat, z3.toNat)], [e], none, rfl, ?_, d3, hFl, b3.kp _ _ nlp upd_same, TupL.nil.snoc upd_same, TsUp.one (by show z1.toNat = 0; omega) ⟨by show 1 ≤ z2.toNat; omega, by show z2.toNat ≤ 12; omega⟩ ⟨by show 1 ≤ z3.toNat; omega, by show z3.toNat ≤ 7; omega⟩⟩
      exact (s2.mut (o := .lst [.ref e]) (.inr hl0) hFl).trans (d3.stp b3) fun b hb => .inl hb
    · rintro i σ' H' hi ⟨F', ts, es, x2, rfl, s3, d4, hFl', hl', ht, hu⟩
      obtain ⟨la, hla⟩ : ∃ la, ts[i]? = some la := get_of_lt (by rw [hu.len]; omega)
      obtain ⟨ea, hea, hea2⟩ := ht.get hla
      have nep' : ea ≠ p := fun q => by rw [q, d4.no] at hea2; cases hea2
      have hlt := hu.tick la (mem_of_get hla)
      have hel : es.length = i + 1 := by rw [ht.1, hu.len]
      have hix : ∀ {H4 : Hp}, Ex H' H4 → Dv p F' H4 (tOp (rIx K) (tOp (rIx K) (tVar 1) (tUn (rU fun i => .int (-i)) (tC (.int 1)))) (tC (.int 0))) [some (.ref p), some (.ref l), some (.int (i : Int))] (· = .int (la.1 : Int)) := fun e4 => dv_ev fun H1 b1 => ev_op (ev_op (ev_var rfl) (ev_neg ev_c) (rv_iL (sq_of (b1.kp _ _ nlp (e4 _ _ hl'))) (at_mapl' hea hel))) ev_c (rv_iT (st_of (b1.kp _ _ nep' (e4 _ _ (d4.ex _ _ hea2)))) at0)
      refine d_appT (ev_var rfl) hl' nlp (fun H4 e4 => da_cons (dv_add (dv_add (dv_i (hix e4)) (dv_i dv_c)) (dv_draw T (dv_var rfl) (dv_i dv_c) ⟨by decide, by decide⟩)) (da_cons (h12 rfl) (da_cons (h7 rfl) da_nil))) d4 (fun vs ⟨v1, r1, e1, _, v2, r2, e2, _, v3, r3, e3, _, e4⟩ => by subst e1 e2 e3 e4; show 3 ≤ 1000; decide) (by rw [List.length_map, hel]; omega) fun vs H5 q d5 b5 ⟨v1, r1, e1, ⟨y1, ey1, y1a, y1b⟩, v2, r2, e2, ⟨y2, ey2, y2a, y2b⟩, v3, r3, e3, ⟨y3, ey3, y3a, y3b⟩, e4⟩ hq => ?_
      subst e1 e2 e3 e4 ey1 ey2 ey3
      rw [ent_of (by omega) (by omega) (by omega)]
      have eQ := Ex.new (o := .tup (entV (y1.toNat, y2.toNat, y3.toNat))) hq
      have s5 := (s3.trans (d5.stp b5) fun b hb => .inl hb)
      have s6 := (s5.pure eQ).freeze (s5.fresh hq) upd_same
      have hl5 := b5.kp _ _ nlp hl'
      have nql : l ≠ q := ne_of_none hl5 hq
      have nqp := d5.ne hq
      have hFl6 : (upd F' q (.tup (entV (y1.toNat, y2.toNat, y3.toNat)))) l = none := by rw [upd_ne nql]; exact hFl'
      have d6 := (d5.ex_ eQ).grow (F' := upd F' q (.tup (entV (y1.toNat, y2.toNat, y3.toNat)))) (Ex.new (d5.freshF hq)) s6.ex' (by rw [upd_ne nqp.symm]; exact d5.no)
      refine ⟨_, ts ++ [(y1.toNat, y2.toNat, y3.toNat)], es ++ [q], _, rfl, s6.mut (.inr hl0) hFl6, d6.updl hFl6 nlp, hFl6, ?_, (ht.mono (Ex.new (d5.freshF hq))).snoc upd_same, hu.snoc hla ?_ ⟨by show 1 ≤ y2.toNat; omega, by show y2.toNat ≤ 12; omega⟩ ⟨by show 1 ≤ y3.toNat; omega, by show y3.toNat ≤ 7; omega⟩⟩
      · rw [upd_same, List.map_append]; rfl
      · exact ⟨by show la.1 < y1.toNat; omega, by show y1.toNat ≤ la.1 + 20; omega⟩
    · rintro σ' H' ⟨F', ts, es, x2, rfl, s3, d4, hFl', hl', ht, hu⟩
      refine s_ret (ev_var rfl) fun H5 e5 => ?_
      have s5 := (s3.pure e5).freeze hl0 (e5 _ _ hl')
      exact k l ts _ H5 s5 ((d4.ex_ e5).grow (Ex.new hFl') s5.ex' (by rw [upd_ne nlp.symm]; exact d4.no)) ⟨es, upd_same, ht.mono (Ex.new hFl')⟩ (hu.ok (by omega))
end K37

/-! K37, part 13: points, specs, parts, blocks. -/
namespace K37
open PySem L2 Evl
variable {P : Program} {w : World} {K : PySem.W.Frag} {mg : Str → Option Value} {base : Heap}

/-! ### points -/
structure CvUp (ps : List Pnt) (n : Nat) : Prop where
  len : ps.length = n + 1
  asc : ps.Pairwise fun a b => a.1 < b.1
  tick : ∀ e ∈ ps, e.1 ≤ 12 + 15 * n
  last : ∀ e, ps[n]? = some e → ∀ x ∈ ps, x.1 ≤ e.1
  val : ∀ e ∈ ps, GainR e.2
theorem CvUp.ok {ps : List Pnt} {n : Nat} (h : CvUp ps n) (hn : n ≤ 31) : CvOk ps := ⟨by rw [h.len]; omega, by rw [h.len]; omega, h.asc, fun e he => Nat.le_trans (h.tick e he) (by omega), h.val⟩
theorem CvUp.one {e : Pnt} (h0 : e.1 ≤ 12) (h1 : GainR e.2) : CvUp [e] 0 :=
  ⟨rfl, List.pairwise_singleton _ _, fun x hx => by rw [List.mem_singleton.mp hx]; omega, fun x hx y hy => by cases hx; rw [List.mem_singleton.mp hy]; exact Nat.le_refl _, fun x hx => by rw [List.mem_singleton.mp hx]; exact h1⟩
theorem CvUp.snoc {ps : List Pnt} {n : Nat} {l e : Pnt} (h : CvUp ps n) (hl : ps[n]? = some l) (h0 : l.1 < e.1 ∧ e.1 ≤ l.1 + 15) (h1 : GainR e.2) : CvUp (ps ++ [e]) (n + 1) := by
  have hlm := h.tick l (mem_of_get hl)
  refine ⟨by rw [List.length_append, h.len]; rfl, ?_, fun x hx => ?_, fun x hx y hy => ?_, fun x hx => ?_⟩
  · refine List.pairwise_append.mpr ⟨h.asc, List.pairwise_singleton _ _, fun a ha b hb => ?_⟩
    rw [List.mem_singleton.mp hb]
    exact Nat.lt_of_le_of_lt (h.last l hl a ha) h0.1
  · rcases List.mem_append.mp hx with q | q
    · have := h.tick x q; omega
    · rw [List.mem_singleton.mp q]; omega
  · rw [List.getElem?_append_right (by rw [h.len]; omega), h.len, show n + 1 - (n + 1) = 0 by omega] at hx
    cases hx
    rcases List.mem_append.mp hy with q | q
    · have := h.last l hl y q; omega
    · rw [List.mem_singleton.mp q]; exact Nat.le_refl _
  · rcases List.mem_append.mp hx with q | q
    · exact h.val x q
    · rw [List.mem_singleton.mp q]; exact h1
theorem pnt_of {t v : Int} (ht : 0 ≤ t) : ([.int t, .int v] : List V) = pntV (t.toNat, v) := by
  unfold pntV
  rw [Int.toNat_of_nonneg ht]
def sp_l_points (T : Tx K mg) : Sp := fun vs H Q _ => ∃ (p : Addr) (F : Hp), vs = [.ref p] ∧ Dk p F H ∧ ∀ (a : Addr) (ps : List Pnt) F' H', Stp (· = p) F H F' H' → Dk p F' H' → IsPt F' a ps → CvOk ps → Q (.ref a) H'
theorem ok_l_points (T : Tx K mg) : FnOk P w K mg base CX0 3 T.a_l_points T.d_l_points P_l_points (sp_l_points T) := by
  refine T.F_l_points.ok sc_l_points (fun vs H Q E h => ?_) (fun cdv A outer s H vs Q E hr h => ?_)
  · obtain ⟨p, F, rfl, _⟩ := h
    rfl
  · obtain ⟨p, F, rfl, dk, k⟩ := h
    refine ⟨_, (pss_cons (ps_set (i := 1) sc_l_points.nd rfl (.inl rfl) (pe_lst (pa_cons (pe_tup (pa_cons (pe_call (ok_l_draw T) (hr.mono (by decide)) (by rfl) T.g_l_draw T.F_l_draw.kp T.b_l_draw .nil pass0 (pa_cons (pv 0) (pa_cons pe_int pa_nil))) (pa_cons (pe_call (ok_l_gain T) (hr.mono (by decide)) (by rfl) T.g_l_gain T.F_l_gain.kp T.b_l_gain .nil pass0 (pa_cons (pv 0) pa_nil)) pa_nil))) pa_nil))) (pss_cons (ps_for PassesOwn.never rfl (pi_range1 (by rfl) T.z_range (pa_cons (pe_call (ok_l_draw T) (hr.mono (by decide)) (by rfl) T.g_l_draw T.F_l_draw.kp T.b_l_draw .nil pass0 (pa_cons (pv 0) (pa_cons (pe_ix ix_seq (pe_lst (pa_cons pe_int (pa_cons pe_int pa_nil))) (pe_call (ok_l_draw T) (hr.mono (by decide)) (by rfl) T.g_l_draw T.F_l_draw.kp T.b_l_draw .nil pass0 (pa_cons (pv 0) (pa_cons pe_int pa_nil))) (fun _ _ => rfl)) pa_nil))) pa_nil)) (pg_name (i := 2) sc_l_points.nd rfl (.inl rfl)) (pss_one (ps_expr (pe_bm PySem.F.plainAttrs_list PySem.F.slot_list_append PySem.F.type_list_append mt_append (pv 1) (pa_cons (pe_tup (pa_cons (pe_op op_add (pe_op op_add (pe_ix ix_seq (pe_ix ix_seq (pv 1) (pe_un un_neg pe_int) (fun _ _ => rfl)) pe_int (fun _ _ => rfl)) pe_int) (pe_call (ok_l_draw T) (hr.mono (by decide)) (by rfl) T.g_l_draw T.F_l_draw.kp T.b_l_draw .nil pass0 (pa_cons (pv 0) (pa_cons pe_int pa_nil)))) (pa_cons (pe_call (ok_l_gain T) (hr.mono (by decide)) (by rfl) T.g_l_gain T.F_l_gain.kp T.b_l_gain .nil pass0 (pa_cons (pv 0) pa_nil)) pa_nil))) pa_nil))))) (pss_one (ps_ret (pe_callTy call_tuple_of (by rfl) T.z_tuple (by decide +kernel) (pa_cons (pv 1) pa_nil)))))), ?_⟩
    refine d_asgLT (da_cons (dv_draw T (dv_var rfl) (dv_i dv_c) ⟨by decide, by decide⟩) (da_cons (dv_gain T (dv_var rfl)) da_nil)) dk (fun vs ⟨v1, r1, e1, _, v2, r2, e2, _, e4⟩ => by subst e1 e2 e4; show 2 ≤ 1000; decide) fun vs H1 e l d1 b1 ⟨v1, r1, e1, ⟨z1, ez1, z1a, z1b⟩, v2, r2, e2, ⟨z2, ez2, z2a⟩, e4⟩ he hl => ?_
    subst e1 e2 e4 ez1 ez2
    rw [pnt_of z1a] at hl ⊢
    have eE := Ex.new (o := .tup (pntV (z1.toNat, z2))) he
    have s1 := (d1.stp b1).pure eE
    have s2 := s1.freeze (b1.fresh he) upd_same
    have l1 : H1 l = none := fresh_back eE hl
    have hl0 := b1.fresh l1
    have nlp := d1.ne l1
    have nel : e ≠ l := ne_of_none (o := .tup (pntV (z1.toNat, z2))) upd_same hl
    have hFl : (upd F e (.tup (pntV (z1.toNat, z2)))) l = none := by rw [upd_ne nel.symm]; exact d1.freshF l1
    have nep := d1.ne he
    have d2 : Dk p (upd F e (.tup (pntV (z1.toNat, z2)))) (upd H1 e (.tup (pntV (z1.toNat, z2)))) := (d1.ex_ eE).grow s2.ex s2.ex' (by rw [upd_ne nep.symm]; exact d1.no)
    refine dq_for (lo := 0) (hi := 31 + 1) ?_ (d2.updl hFl nlp) ⟨by decide, by decide⟩ fun n H3 hn d3 b3 => ⟨fun i σ' H' => ∃ (F' : Hp) (ps : List Pnt) (es : List Addr) (x2 : Option V), σ' = [some (.ref p), some (.ref l), x2] ∧ Stp (· = p) F H F' H' ∧ Dk p F' H' ∧ F' l = none ∧ H' l = some (.lst (es.map V.ref)) ∧ TupL F' es pntV ps ∧ CvUp ps i, ?_, ?_, ?_⟩
    · exact dv_is (dv_draw2 T (dv_var rfl) (dv_pick2 T (fun _ => dv_var rfl) dv_c dv_c (lo := 5) (hi := 33) ⟨by decide, by decide⟩ ⟨by decide, by decide⟩) ⟨by decide, by decide⟩) fun v h => h
    · refine ⟨_, [(z1.toNat, z2)], [e], none, rfl, ?_, d3, hFl, b3.kp _ _ nlp upd_same, TupL.nil.snoc upd_same, CvUp.one (by show z1.toNat ≤ 12; omega) z2a⟩
      exact (s2.mut (o := .lst [.ref e]) (.inr hl0) hFl).trans (d3.stp b3) fun b hb => .inl hb
    · rintro i σ' H' hi ⟨F', ps, es, x2, rfl, s3, d4, hFl', hl', ht, hu⟩
      obtain ⟨la, hla⟩ : ∃ la, ps[i]? = some la := get_of_lt (by rw [hu.len]; omega)
      obtain ⟨ea, hea, hea2⟩ := ht.get hla
      have nep' : ea ≠ p := fun q => by rw [q, d4.no] at hea2; cases hea2
      have hlt := hu.tick la (mem_of_get hla)
      have hel : es.length = i + 1 := by rw [ht.1, hu.len]
      have hix : ∀ {H4 : Hp}, Ex H' H4 → Dv p F' H4 (tOp (rIx K) (tOp (rIx K) (tVar 1) (tUn (rU fun i => .int (-i)) (tC (.int 1)))) (tC (.int 0))) [some (.ref p), some (.ref l), some (.int (i : Int))] (· = .int (la.1 : Int)) := fun e4 => dv_ev fun H1 b1 => ev_op (ev_op (ev_var rfl) (ev_neg ev_c) (rv_iL (sq_of (b1.kp _ _ nlp (e4 _ _ hl'))) (at_mapl' hea hel))) ev_c (rv_iT (st_of (b1.kp _ _ nep' (e4 _ _ (d4.ex _ _ hea2)))) at0)
      refine d_appT (ev_var rfl) hl' nlp (fun H4 e4 => da_cons (dv_add (dv_add (dv_i (hix e4)) (dv_i dv_c)) (dv_draw T (dv_var rfl) (dv_i dv_c) ⟨by decide, by decide⟩)) (da_cons (dv_gain T (dv_var rfl)) da_nil)) d4 (fun vs ⟨v1, r1, e1, _, v2, r2, e2, _, e4⟩ => by subst e1 e2 e4; show 2 ≤ 1000; decide) (by rw [List.length_map, hel]; omega) fun vs H5 q d5 b5 ⟨v1, r1, e1, ⟨y1, ey1, y1a, y1b⟩, v2, r2, e2, ⟨y2, ey2, y2a⟩, e4⟩ hq => ?_
      subst e1 e2 e4 ey1 ey2
      rw [pnt_of (by omega)]
      have eQ := Ex.new (o := .tup (pntV (y1.toNat, y2))) hq
      have s5 := (s3.trans (d5.stp b5) fun b hb => .inl hb)
      have s6 := (s5.pure eQ).freeze (s5.fresh hq) upd_same
      have hl5 := b5.kp _ _ nlp hl'
      have nql : l ≠ q := ne_of_none hl5 hq
      have nqp := d5.ne hq
      have hFl6 : (upd F' q (.tup (pntV (y1.toNat, y2)))) l = none := by rw [upd_ne nql]; exact hFl'
      have d6 := (d5.ex_ eQ).grow (F' := upd F' q (.tup (pntV (y1.toNat, y2)))) (Ex.new (d5.freshF hq)) s6.ex' (by rw [upd_ne nqp.symm]; exact d5.no)
      refine ⟨_, ps ++ [(y1.toNat, y2)], es ++ [q], _, rfl, s6.mut (.inr hl0) hFl6, d6.updl hFl6 nlp, hFl6, ?_, (ht.mono (Ex.new (d5.freshF hq))).snoc upd_same, hu.snoc hla ⟨by show la.1 < y1.toNat; omega, by show y1.toNat ≤ la.1 + 15; omega⟩ y2a⟩
      rw [upd_same, List.map_append]; rfl
    · rintro σ' H' ⟨F', ps, es, x2, rfl, s3, d4, hFl', hl', ht, hu⟩
      -- return tuple(points)
      refine s_retU (xs := es.map V.ref) (fun H1 e1 Q q => ⟨_, rfl, l, es.map V.ref, rfl, .inl ⟨sq_of (e1 _ _ hl'), fun r hr => q r _ hr (Ex.new hr) upd_same⟩⟩) fun r H5 hr5 e5 h5 => ?_
      have s5 := (s3.pure e5).freeze (s3.fresh hr5) h5
      have hFr := d4.freshF hr5
      exact k r ps _ H5 s5 ((d4.ex_ e5).grow (Ex.new hFr) s5.ex' (by rw [upd_ne (d4.ne hr5).symm]; exact d4.no)) ⟨es, upd_same, ht.mono (Ex.new hFr)⟩ (hu.ok (by omega))

/-! ### spec, part -/
def spSpec : Sp := fun vs H Q _ => ∃ (p : Addr) (F : Hp), vs = [.ref p] ∧ Dk p F H ∧ ∀ (a : Addr) (pt : Pt) F' H', Stp (· = p) F H F' H' → Dk p F' H' → IsSp F' a pt → PtOk pt → Q (.ref a) H'
abbrev sp_l_spec (T : Tx K mg) : Sp := spSpec
abbrev sp_l_part (T : Tx K mg) : Sp := spSpec
section
variable {p : Addr} {F : Hp} {σ : L2.St} {ta : TA} {S : List V → Prop} {D : Ends} {tz : TS} {H : Hp} {tl : TE}
/-- return (a tuple) -/
theorem d_retT (h : Da p F H ta σ S) (d : Dk p F H) (hl : ∀ vs, S vs → vs.length ≤ 1000)
    (k : ∀ vs q H', S vs → Stp (· = p) F H (upd F q (.tup vs)) H' → Dk p (upd F q (.tup vs)) H' → D.rt (.ref q) H') : tRet (tTup ta) D σ H :=
  h H d (But.refl p H) _ fun vs H1 d1 b1 r1 => ⟨Nat.le_trans (hl vs r1) (by decide), fun q hq => by
    have eQ := Ex.new (o := .tup vs) hq
    have s2 := ((d1.stp b1).pure eQ).freeze (b1.fresh hq) upd_same
    exact k vs q _ r1 s2 ((d1.ex_ eQ).grow (Ex.new (d1.freshF hq)) s2.ex' (by rw [upd_ne (d1.ne hq).symm]; exact d1.no))⟩
end
theorem ok_l_spec (T : Tx K mg) : FnOk P w K mg base CX0 4 T.a_l_spec T.d_l_spec P_l_spec (sp_l_spec T) := by
  refine T.F_l_spec.ok sc_l_spec (fun vs H Q E h => ?_) (fun cdv A outer s H vs Q E hr h => ?_)
  · obtain ⟨p, F, rfl, _⟩ := h
    rfl
  · obtain ⟨p, F, rfl, dk, k⟩ := h
    refine ⟨_, (pss_cons (ps_set (i := 1) sc_l_spec.nd rfl (.inl rfl) (pe_call (ok_l_draw T) (hr.mono (by decide)) (by rfl) T.g_l_draw T.F_l_draw.kp T.b_l_draw .nil pass0 (pa_cons (pv 0) (pa_cons pe_int pa_nil)))) (pss_cons (ps_if (pt_cmpR op_eq (pv 1) pe_int (nomark _)) (pss_one (ps_ret (pe_tup (pa_cons pe_str pa_nil)))) pss_nil) (pss_cons (ps_if (pt_cmpR op_lt (pv 1) pe_int (nomark _)) (pss_one (ps_ret (pe_tup (pa_cons pe_str (pa_cons (pe_call (ok_l_points T) (hr.mono (by decide)) (by rfl) T.g_l_points T.F_l_points.kp T.b_l_points .nil pass0 (pa_cons (pv 0) pa_nil)) pa_nil))))) pss_nil) (pss_cons (ps_if (pt_cmpR op_lt (pv 1) pe_int (nomark _)) (pss_one (ps_ret (pe_tup (pa_cons pe_str (pa_cons (pe_op op_add pe_int (pe_call (ok_l_draw T) (hr.mono (by decide)) (by rfl) T.g_l_draw T.F_l_draw.kp T.b_l_draw .nil pass0 (pa_cons (pv 0) (pa_cons (pe_ix ix_seq (pe_lst (pa_cons pe_int (pa_cons pe_int pa_nil))) (pe_call (ok_l_draw T) (hr.mono (by decide)) (by rfl) T.g_l_draw T.F_l_draw.kp T.b_l_draw .nil pass0 (pa_cons (pv 0) (pa_cons pe_int pa_nil))) (fun _ _ => rfl)) pa_nil)))) (pa_cons (pe_call (ok_l_gain T) (hr.mono (by decide)) (by rfl) T.g_l_gain T.F_l_gain.kp T.b_l_gain .nil pass0 (pa_cons (pv 0) pa_nil)) (pa_cons (pe_call (ok_l_gain T) (hr.mono (by decide)) (by rfl) T.g_l_gain T.F_l_gain.kp T.b_l_gain .nil pass0 (pa_cons (pv 0) pa_nil)) pa_nil))))))) pss_nil) (pss_cons (ps_if (pt_cmpR op_lt (pv 1) pe_int (nomark _)) (pss_one (ps_ret (pe_tup (pa_cons pe_str (pa_cons (pe_op op_add pe_int (pe_call (ok_l_draw T) (hr.mono (by decide)) (by rfl) T.g_l_draw T.F_l_draw.kp T.b_l_draw .nil pass0 (pa_cons (pv 0) (pa_cons pe_int pa_nil)))) pa_nil))))) pss_nil) (pss_cons (ps_set (i := 2) sc_l_spec.nd rfl (.inl rfl) (pe_op op_add pe_int (pe_call (ok_l_draw T) (hr.mono (by decide)) (by rfl) T.g_l_draw T.F_l_draw.kp T.b_l_draw .nil pass0 (pa_cons (pv 0) (pa_cons (pe_ix ix_seq (pe_lst (pa_cons pe_int (pa_cons pe_int pa_nil))) (pe_call (ok_l_draw T) (hr.mono (by decide)) (by rfl) T.g_l_draw T.F_l_draw.kp T.b_l_draw .nil pass0 (pa_cons (pv 0) (pa_cons pe_int pa_nil))) (fun _ _ => rfl)) pa_nil))))) (pss_one (ps_ret (pe_tup (pa_cons pe_str (pa_cons (pe_op op_add pe_int (pe_call (ok_l_draw T) (hr.mono (by decide)) (by rfl) T.g_l_draw T.F_l_draw.kp T.b_l_draw .nil pass0 (pa_cons (pv 0) (pa_cons (pe_ix ix_seq (pe_lst (pa_cons pe_int (pa_cons pe_int pa_nil))) (pe_call (ok_l_draw T) (hr.mono (by decide)) (by rfl) T.g_l_draw T.F_l_draw.kp T.b_l_draw .nil pass0 (pa_cons (pv 0) (pa_cons pe_int pa_nil))) (fun _ _ => rfl)) pa_nil)))) (pa_cons (pv 2) pa_nil)))))))))))), ?_⟩
    refine dv_asg (dv_draw T (dv_var rfl) (dv_i dv_c) ⟨by decide, by decide⟩) dk fun v H1 d1 b1 ⟨z, ez, z1, z2⟩ => ?_
    subst ez
    have s1 := d1.stp b1
    refine q_when (et_test (ev_op (ev_var rfl) ev_c (rv_eq rfl))) (fun _ H2 e2 => ?_) (fun _ H2 e2 => ?_)
    · refine d_retT (da_cons dv_c da_nil) (d1.ex_ e2) (fun vs ⟨v1, r1, e1, _, e4⟩ => by subst e1 e4; show 1 ≤ 1000; decide) fun vs q H3 ⟨v1, r1, e1, e2', e4⟩ s3 d3 => ?_
      subst e1 e2' e4
      exact k q .pass _ H3 ((s1.pure e2).trans s3 fun b hb => .inl hb) d3 upd_same trivial
    refine q_when (et_test (ev_op (ev_var rfl) ev_c rv_I0)) (fun _ H3 e3 => ?_) (fun _ H3 e3 => ?_)
    · have d3 := d1.ex_ (e2.trans e3)
      have s3 := s1.pure (e2.trans e3)
      -- return ("gain", points(deck))
      refine ⟨_, rfl, p, F, rfl, d3, fun a ps F' H4 s4 d4 ha hc => ⟨by show 2 ≤ sizeLine; decide, fun q hq => ?_⟩⟩
      have eQ := Ex.new (o := .tup [.str "gain", .ref a]) hq
      have s34 := s3.trans s4 fun b hb => .inl hb
      have s5 := (s34.pure eQ).freeze (s34.fresh hq) upd_same
      have hFq := d4.freshF hq
      exact k q (.gain ps) _ _ s5 ((d4.ex_ eQ).grow (Ex.new hFq) s5.ex' (by rw [upd_ne (d4.ne hq).symm]; exact d4.no)) ⟨a, upd_same, ha.mono (Ex.new hFq)⟩ ⟨hc.ne, hc.len, hc.asc, hc.tick, hc.val⟩
    refine q_when (et_test (ev_op (ev_var rfl) ev_c rv_I0)) (fun _ H4 e4 => ?_) (fun _ H4 e4 => ?_)
    · have d4 := d1.ex_ ((e2.trans e3).trans e4)
      have s4 := s1.pure ((e2.trans e3).trans e4)
      refine d_retT (da_cons dv_c (da_cons (dv_add (dv_i dv_c) (dv_draw2 T (dv_var rfl) (dv_pick2 T (fun _ => dv_var rfl) dv_c dv_c (lo := 4) (hi := 65) ⟨by decide, by decide⟩ ⟨by decide, by decide⟩) ⟨by decide, by decide⟩)) (da_cons (dv_gain T (dv_var rfl)) (da_cons (dv_gain T (dv_var rfl)) da_nil)))) d4 (fun vs ⟨v1, r1, e1, _, v2, r2, e2, _, v3, r3, e3, _, v4, r4, e4, _, e5⟩ => by subst e1 e2 e3 e4 e5; show 4 ≤ 1000; decide)
        fun vs q H5 ⟨v1, r1, e1, e1', v2, r2, e2, ⟨y2, ey2, y2a, y2b⟩, v3, r3, e3, ⟨y3, ey3, y3a⟩, v4, r4, e4, ⟨y4, ey4, y4a⟩, e5⟩ s5 d5 => ?_
      subst e1 e1' e2 e3 e4 e5 ey2 ey3 ey4
      refine k q (.delay y2.toNat y3 y4) _ H5 (s4.trans s5 fun b hb => .inl hb) d5 ?_ ⟨by omega, by omega, y3a, y4a⟩
      show (upd F q _) q = some (.tup [.str "delay", .int (y2.toNat : Int), .int y3, .int y4])
      rw [upd_same, Int.toNat_of_nonneg (by omega)]
    refine q_when (et_test (ev_op (ev_var rfl) ev_c rv_I0)) (fun _ H5 e5 => ?_) (fun _ H5 e5 => ?_)
    · have d5 := d1.ex_ (((e2.trans e3).trans e4).trans e5)
      have s5 := s1.pure (((e2.trans e3).trans e4).trans e5)
      refine d_retT (da_cons dv_c (da_cons (dv_add (dv_i dv_c) (dv_draw T (dv_var rfl) (dv_i dv_c) ⟨by decide, by decide⟩)) da_nil)) d5 (fun vs ⟨v1, r1, e1, _, v2, r2, e2, _, e3⟩ => by subst e1 e2 e3; show 2 ≤ 1000; decide)
        fun vs q H6 ⟨v1, r1, e1, e1', v2, r2, e2, ⟨y2, ey2, y2a, y2b⟩, e3⟩ s6 d6 => ?_
      subst e1 e1' e2 e3 ey2
      refine k q (.smooth y2.toNat) _ H6 (s5.trans s6 fun b hb => .inl hb) d6 ?_ ⟨by omega, by omega⟩
      show (upd F q _) q = some (.tup [.str "smooth", .int (y2.toNat : Int)])
      rw [upd_same, Int.toNat_of_nonneg (by omega)]
    · have e25 := ((e2.trans e3).trans e4).trans e5
      have d5 := d1.ex_ e25
      have s5 := s1.pure e25
      refine dv_asg (dv_add (dv_i dv_c) (dv_draw2 T (dv_var rfl) (dv_pick2 T (fun _ => dv_var rfl) dv_c dv_c (lo := 100) (hi := 8388608) ⟨by decide, by decide⟩ ⟨by decide, by decide⟩) ⟨by decide, by decide⟩)) d5 fun v H6 d6 b6 ⟨c, ec, c1, c2⟩ => ?_
      subst ec
      have s6 := s5.trans (d6.stp b6) fun b hb => .inl hb
      refine d_retT (da_cons dv_c (da_cons (dv_add (dv_i dv_c) (dv_draw2 T (dv_var rfl) (dv_pick2 T (fun _ => dv_var rfl) dv_c dv_c (lo := 4) (hi := 33) ⟨by decide, by decide⟩ ⟨by decide, by decide⟩) ⟨by decide, by decide⟩)) (da_cons (dv_var rfl) da_nil))) d6 (fun vs ⟨v1, r1, e1, _, v2, r2, e2, _, v3, r3, e3, _, e5⟩ => by subst e1 e2 e3 e5; show 3 ≤ 1000; decide)
        fun vs q H7 ⟨v1, r1, e1, e1', v2, r2, e2, ⟨y2, ey2, y2a, y2b⟩, v3, r3, e3, e3', e5⟩ s7 d7 => ?_
      subst e1 e1' e2 e3 e3' e5 ey2
      refine k q (.ahead y2.toNat c) _ H7 (s6.trans s7 fun b hb => .inl hb) d7 ?_ ⟨by omega, by omega, by omega, by omega⟩
      show (upd F q _) q = some (.tup [.str "ahead", .int (y2.toNat : Int), .int c])
      rw [upd_same, Int.toNat_of_nonneg (by omega)]
theorem ok_l_part (T : Tx K mg) : FnOk P w K mg base CX0 5 T.a_l_part T.d_l_part P_l_part (sp_l_part T) := by
  refine T.F_l_part.ok sc_l_part (fun vs H Q E h => ?_) (fun cdv A outer s H vs Q E hr h => ?_)
  · obtain ⟨p, F, rfl, _⟩ := h
    rfl
  · obtain ⟨p, F, rfl, dk, k⟩ := h
    refine ⟨_, (pss_cons (ps_if (pt_cmpR op_eq (pe_call (ok_l_draw T) (hr.mono (by decide)) (by rfl) T.g_l_draw T.F_l_draw.kp T.b_l_draw .nil pass0 (pa_cons (pv 0) (pa_cons pe_int pa_nil))) pe_int (nomark _)) (pss_one (ps_ret (pe_tup (pa_cons pe_str (pa_cons (pe_call (ok_l_draw T) (hr.mono (by decide)) (by rfl) T.g_l_draw T.F_l_draw.kp T.b_l_draw .nil pass0 (pa_cons (pv 0) (pa_cons pe_int pa_nil))) pa_nil))))) pss_nil) (pss_one (ps_ret (pe_call (ok_l_spec T) (hr.mono (by decide)) (by rfl) T.g_l_spec T.F_l_spec.kp T.b_l_spec .nil pass0 (pa_cons (pv 0) pa_nil))))), ?_⟩
    have hdr : Dv p F H (tCall (sp_l_draw T) [] E0 (tCons (tVar 0) (tCons (tC (.int 4)) tNil))) (start N_l_part [.ref p]) (Rg 0 4) := dv_draw T (dv_var rfl) (dv_i dv_c) ⟨by decide, by decide⟩
    refine hdr H dk (But.refl p H) _ fun v H1 d1 b1 ⟨z, ez, z1, z2⟩ => ?_
    subst ez
    refine ⟨rfl, decide (V.int z = V.int 0), rfl, ?_⟩
    have s1 := d1.stp b1
    refine ite2 (fun _ => ?_) (fun _ => ?_)
    · refine d_retT (da_cons dv_c (da_cons (dv_draw T (dv_var rfl) (dv_i dv_c) ⟨by decide, by decide⟩) da_nil)) d1 (fun vs ⟨v1, r1, e1, _, v2, r2, e2, _, e3⟩ => by subst e1 e2 e3; show 2 ≤ 1000; decide)
        fun vs q H6 ⟨v1, r1, e1, e1', v2, r2, e2, ⟨y2, ey2, y2a, y2b⟩, e3⟩ s6 d6 => ?_
      subst e1 e1' e2 e3 ey2
      refine k q (.line y2.toNat) _ H6 (s1.trans s6 fun b hb => .inl hb) d6 ?_ (by show y2.toNat ≤ 20; omega)
      show (upd F q _) q = some (.tup [.str "line", .int (y2.toNat : Int)])
      rw [upd_same, Int.toNat_of_nonneg (by omega)]
    · exact s_retC (ea_cons (ev_var rfl) ea_nil) fun H2 e2 => ⟨p, F, rfl, d1.ex_ e2, fun a pt F' H' s' d' h1 h2 => k a pt F' H' ((s1.pure e2).trans s' fun b hb => .inl hb) d' h1 h2⟩

/-! ### blocks -/
def IsRows (H : Hp) (es : List Addr) (bs : List (List Int)) : Prop := es.length = bs.length ∧ ∀ (i : Nat) (e : Addr) (b : List Int), es[i]? = some e → bs[i]? = some b → H e = some (.lst (b.map V.int))
theorem IsRows.mono {H H' : Hp} {es : List Addr} {bs : List (List Int)} (e : Ex H H') (h : IsRows H es bs) : IsRows H' es bs := ⟨h.1, fun i x b h1 h2 => e _ _ (h.2 i x b h1 h2)⟩
theorem IsRows.nil {H : Hp} : IsRows H [] [] := ⟨rfl, fun i e x h => by simp at h⟩
theorem IsRows.snoc {H : Hp} {es : List Addr} {bs : List (List Int)} {e : Addr} {b : List Int} (h : IsRows H es bs) (he : H e = some (.lst (b.map V.int))) : IsRows H (es ++ [e]) (bs ++ [b]) := by
  refine ⟨by simp [h.1], fun i a y h1 h2 => ?_⟩
  by_cases hi : i < es.length
  · rw [List.getElem?_append_left hi] at h1
    rw [List.getElem?_append_left (by rw [← h.1]; exact hi)] at h2
    exact h.2 i a y h1 h2
  · rw [List.getElem?_append_right (by omega)] at h1
    rw [List.getElem?_append_right (by rw [← h.1]; omega)] at h2
    have z : i - es.length = 0 := by
      have := (List.getElem?_eq_some_iff.mp h1).1
      simp at this
      omega
    rw [z] at h1
    rw [← h.1, z] at h2
    cases h1; cases h2
    exact he
theorem flat_snoc (bs : List (List Int)) (b : List Int) : (bs ++ [b]).flatten = bs.flatten ++ b := by simp
theorem cut_at {row : List Int} {n m : Nat} (hn : n ≤ row.length) : row.take n ++ (row.drop n).take m = row.take (min row.length (n + m)) := by
  rw [← List.take_add]
  by_cases h : n + m ≤ row.length
  · rw [Nat.min_eq_right h]
  · rw [Nat.min_eq_left (by omega), List.take_length, List.take_of_length_le (by omega)]
def sp_l_blocks (T : Tx K mg) : Sp := fun vs H Q _ => ∃ (p a : Addr) (F : Hp) (row : List Int), vs = [.ref p, .ref a] ∧ Dk p F H ∧ F a = some (.lst (row.map V.int)) ∧ row.length ≤ 1000 ∧ ∀ q es bs F' H', Stp (· = p) F H F' H' → Dk p F' H' → F' q = some (.lst (es.map V.ref)) → IsRows F' es bs → bs.flatten = row → bs.length ≤ 2000 → Q (.ref q) H'
theorem ok_l_blocks (T : Tx K mg) : FnOk P w K mg base CX0 2 T.a_l_blocks T.d_l_blocks P_l_blocks (sp_l_blocks T) := by
  refine T.F_l_blocks.ok sc_l_blocks (fun vs H Q E h => ?_) (fun cdv A outer s H vs Q E hr h => ?_)
  · obtain ⟨p, a, F, row, rfl, _⟩ := h
    rfl
  · obtain ⟨p, a, F, row, rfl, dk, ha, hlen, k⟩ := h
    refine ⟨_, (pss_cons (ps_set (i := 2) sc_l_blocks.nd rfl (.inl rfl) (pe_lst pa_nil)) (pss_cons (ps_set (i := 3) sc_l_blocks.nd rfl (.inl rfl) pe_int) (pss_cons (ps_for PassesOwn.never rfl (pi_range1 (by rfl) T.z_range (pa_cons (pe_op op_add (pe_callB call_len_seq (by rfl) T.z_len (by decide +kernel) (pa_cons (pv 1) pa_nil)) pe_int) pa_nil)) (pg_name (i := 4) sc_l_blocks.nd rfl (.inl rfl)) (pss_cons (ps_set (i := 5) sc_l_blocks.nd rfl (.inl rfl) (pe_call (ok_l_draw T) (hr.mono (by decide)) (by rfl) T.g_l_draw T.F_l_draw.kp T.b_l_draw .nil pass0 (pa_cons (pv 0) (pa_cons (pe_ix ix_seq (pe_lst (pa_cons pe_int (pa_cons pe_int (pa_cons pe_int pa_nil)))) (pe_call (ok_l_draw T) (hr.mono (by decide)) (by rfl) T.g_l_draw T.F_l_draw.kp T.b_l_draw .nil pass0 (pa_cons (pv 0) (pa_cons pe_int pa_nil))) (fun _ _ => rfl)) pa_nil)))) (pss_one (ps_if (PW.pt (pw_or (pt_cmpR op_lt (pv 3) (pe_callB call_len_seq (by rfl) T.z_len (by decide +kernel) (pa_cons (pv 1) pa_nil)) (nomark _)) (pw_or1 (pt_cmpR op_lt (pv 4) pe_int (nomark _))))) (pss_cons (ps_expr (pe_bm PySem.F.plainAttrs_list PySem.F.slot_list_append PySem.F.type_list_append mt_append (pv 2) (pa_cons (pe_slice sl_list (pv 1) (po_some (pv 3)) (po_some (pe_op op_add (pv 3) (pv 5)))) pa_nil))) (pss_one (ps_set (i := 3) sc_l_blocks.nd rfl (.inl rfl) (pe_callB (call_min2 rfl) (by rfl) T.z_min (by decide +kernel) (pa_cons (pe_callB call_len_seq (by rfl) T.z_len (by decide +kernel) (pa_cons (pv 1) pa_nil)) (pa_cons (pe_op op_add (pv 3) (pv 5)) pa_nil)))))) pss_nil)))) (pss_one (ps_ret (pe_op op_cat (pv 2) (pe_lst (pa_cons (pe_slice sl_list (pv 1) (po_some (pv 3)) po_none) pa_nil)))))))), ?_⟩
    have hrl : (row.map V.int).length = row.length := List.length_map ..
    refine q_asgL (el_lst ea_nil (show 0 ≤ 100000 by decide)) fun l H1 hl e1 h1 => ?_
    refine q_asg ev_c fun H2 e2 => ?_
    have e12 := e1.trans e2
    have hFl := dk.freshF hl
    have nlp := dk.ne hl
    refine q_forR1 (n := (((row.map V.int).length : Nat) : Int) + 4) (ea_cons (ev_op (ev_len (ev_var rfl) (sq_of (e12 _ _ (dk.ex _ _ ha)))) ev_c rv_I0) ea_nil) ⟨by omega, by omega⟩ (fun i σ' H' => ∃ (F' : Hp) (es : List Addr) (bs : List (List Int)) (at_ : Nat) (x4 x5 : Option V), σ' = [some (.ref p), some (.ref a), some (.ref l), some (.int at_), x4, x5] ∧ Stp (· = p) F H F' H' ∧ Dk p F' H' ∧ F' l = none ∧ H' l = some (.lst (es.map V.ref)) ∧ IsRows F' es bs ∧ bs.flatten = row.take at_ ∧ at_ ≤ row.length ∧ bs.length ≤ i)
      (fun H3 e3 => ⟨F, [], [], 0, none, none, rfl, (Stp.refl dk.ex).pure (e12.trans e3), dk.ex_ (e12.trans e3), hFl, e3 _ _ (e2 _ _ h1), IsRows.nil, by simp, Nat.zero_le _, Nat.zero_le _⟩) ?_ ?_
    · rintro i σ' H' hi ⟨F', es, bs, at_, x4, x5, rfl, s3, d3, hFl', hl', hr, hf, hat, hbl⟩
      refine dv_asg (dv_draw2 (hi := 41) T (dv_var rfl) (dv_pick (R := Rg 2 41) (xs := [.int 2, .int 5, .int 40]) (da_is (da_cons dv_c (da_cons dv_c (da_cons dv_c da_nil))) fun l h => by obtain ⟨v1, r1, rfl, rfl, v2, r2, rfl, rfl, v3, r3, rfl, rfl, rfl⟩ := h; rfl) (show 3 ≤ 1000 by decide) (fun _ _ => dv_draw T (b := 3) (dv_var rfl) (dv_i dv_c) ⟨by decide, by decide⟩) ?_) ⟨by decide, by decide⟩) d3 fun v H4 d4 b4 ⟨z, ez, z1, z2⟩ => ?_
      · intro v hv
        simp at hv
        rcases hv with rfl | rfl | rfl
        · exact ⟨2, rfl, by decide, by decide⟩
        · exact ⟨5, rfl, by decide, by decide⟩
        · exact ⟨40, rfl, by decide, by decide⟩
      subst ez
      obtain ⟨n, rfl⟩ : ∃ n : Nat, z = n := ⟨z.toNat, by omega⟩
      have s4 := s3.trans (d4.stp b4) fun b hb => .inl hb
      have hl4 := b4.kp _ _ nlp hl'
      have ha4 := s4.ex' _ _ (s4.ex _ _ ha)
      refine s_when (b := decide ((at_ : Int) < ((row.map V.int).length : Nat)) || decide ((i : Int) < 2)) (et_or (et_test (ev_op (ev_var rfl) (ev_len (ev_var rfl) (sq_of ha4)) rv_I0)) fun _ => et_test (ev_op (ev_var rfl) ev_c rv_I0)) (fun _ H5 e5 => ?_) (fun _ H5 e5 => ?_)
      · have ha5 := e5 _ _ ha4
        refine q_appL (ys := ((row.drop at_).take n).map V.int) (xs := es.map V.ref) (e5 _ _ hl4) (ev_var rfl) (el_is (el_sl (ev_var rfl) (eo_some (ev_var rfl)) (eo_some (i := ((at_ + n : Nat) : Int)) (ev_is (ev_op (ev_var rfl) (ev_var rfl) rv_I0) (by congr 1))) (sq_of ha5)) (by rw [cut_midI, show at_ + n - at_ = n by omega])) (by rw [List.length_map, hr.1]; omega) fun q H6 hq e6 h6 => ?_
        have s6 := ((s4.pure e5).pure e6)
        have s7 := s6.freeze ((s4.pure e5).fresh hq) h6
        have d6 := (d4.ex_ e5).ex_ e6
        have hFq := (d4.ex_ e5).freshF hq
        have hl6 := e6 _ _ (e5 _ _ hl4)
        have nlq : l ≠ q := ne_of_none (e5 _ _ hl4) hq
        have hFl6 : (upd F' q (.lst (((row.drop at_).take n).map V.int))) l = none := by rw [upd_ne nlq]; exact hFl'
        have d7 := d6.grow (F' := upd F' q (.lst (((row.drop at_).take n).map V.int))) (Ex.new hFq) s7.ex' (by rw [upd_ne ((d4.ex_ e5).ne hq).symm]; exact d4.no)
        have ha6 : (upd H6 l (.lst (es.map V.ref ++ [.ref q]))) a = some (.lst (row.map V.int)) := by
          rw [upd_ne (fun z => by rw [← z, s4.ex _ _ ha] at hFl'; cases hFl')]
          exact e6 _ _ ha5
        refine s_asg (v := .int (min row.length (at_ + n) : Nat)) (ev_is (ev_min2 (ev_len (ev_var rfl) (sq_of ha6)) (ev_op (ev_var rfl) (ev_var rfl) rv_I0)) ?_) fun H8 e8 => ?_
        · rw [hrl]
          congr 1
          split <;> omega
        refine ⟨_, es ++ [q], bs ++ [(row.drop at_).take n], min row.length (at_ + n), _, _, rfl, (s7.mut (.inr hl) hFl6).pure e8, (d7.updl hFl6 nlp).ex_ e8, hFl6, ?_, (hr.mono (Ex.new hFq)).snoc upd_same, ?_, Nat.min_le_left _ _, by rw [List.length_append]; show bs.length + 1 ≤ i + 1; omega⟩
        · rw [e8 _ _ upd_same, List.map_append]; rfl
        · rw [flat_snoc, hf, cut_at hat]
      · exact ⟨F', es, bs, at_, _, _, rfl, s4.pure e5, d4.ex_ e5, hFl', e5 _ _ hl4, hr, hf, hat, by omega⟩
    · rintro σ' H' ⟨F', es, bs, at_, x4, x5, rfl, s3, d3, hFl', hl', hr, hf, hat, hbl⟩
      have hbl' : bs.length ≤ 1004 := by omega
      have ha' := s3.ex' _ _ (s3.ex _ _ ha)
      -- return blocks + [row[at:]]
      have z := el_sl (σ := [some (.ref p), some (.ref a), some (.ref l), some (.int at_), x4, x5]) (te := tVar 1) (tl := tPart (tVar 3)) (th := tNoPart) (ev_var rfl) (eo_some (ev_var rfl)) eo_none (sq_of (K := K) ha')
      rw [cut_dropI hat] at z
      refine ⟨_, rfl, z H' (Ex.refl H') _ fun q H4 hq e4 h4 => ⟨by show 1 ≤ sizeLine; decide, fun m hm => ⟨l, m, es.map V.ref, [.ref q], rfl, rfl, ?_, upd_same, sz_of (by rw [List.length_map, hr.1]; show bs.length + 1 ≤ 100000; omega), fun r hr5 => ?_⟩⟩⟩
      · exact (Ex.new hm) _ _ (e4 _ _ hl')
      · have eM := Ex.new (o := HO.lst [.ref q]) hm
        have eR := Ex.new (o := HO.lst (es.map V.ref ++ [.ref q])) hr5
        have s4 := (s3.pure e4).pure (eM.trans eR)
        have s5 := s4.freeze (s3.fresh hq) ((eM.trans eR) _ _ h4)
        have s6 := s5.freeze ((s3.pure e4).fresh (fresh_back eM hr5)) upd_same
        have hFq := d3.freshF hq
        have hr4 : H4 r = none := fresh_back eM hr5
        have nqr : q ≠ r := ne_of_none h4 hr4
        have hFr : (upd F' q (.lst ((row.drop at_).map V.int))) r = none := by rw [upd_ne nqr.symm]; exact (d3.ex_ e4).freshF hr4
        refine k r (es ++ [q]) (bs ++ [row.drop at_]) _ _ s6 (((d3.ex_ e4).ex_ (eM.trans eR)).grow ((Ex.new hFq).trans (Ex.new hFr)) s6.ex' ?_) ?_ ((hr.mono ((Ex.new hFq).trans (Ex.new hFr))).snoc ?_) ?_ ?_
        · rw [upd_ne ((d3.ex_ e4).ne hr4).symm, upd_ne (d3.ne hq).symm]; exact d3.no
        · rw [upd_same, List.map_append]; rfl
        · rw [upd_ne nqr, upd_same]
        · rw [flat_snoc, hf, List.take_append_drop]
        · rw [List.length_append]; show bs.length + 1 ≤ 2000; omega
end K37

/-! K37, part 14: made, sent. -/
namespace K37
open PySem L2 Evl
variable {P : Program} {w : World} {K : PySem.W.Frag} {mg : Str → Option Value} {base : Heap}

/-! ### methods of an instance whose class is not written -/
section
variable {σ : L2.St} {H : Hp} {to te tl : TE} {ta : TA} {C m dx l : Addr} {fs : List (Str × V)} {mm : Str} {sp : Sp} {E : XK} {vs xs : List V} {Q : VK} {D : Ends}
theorem t_meth (ho : Ev to σ H (.ref m)) (hm : H m = some (.ins C dx fs)) (hl : fs.lookup mm = none) (h : EvA ta σ H vs) (hs : ∀ H1, Ex H H1 → sp (.ref m :: vs) H1 Q E) : tMeth C mm sp [] E to ta σ H Q :=
  ho H (Ex.refl H) _ fun H1 e1 => ⟨m, dx, fs, rfl, e1 _ _ hm, hl, h H1 e1 _ fun H2 e2 => by
    show sp (.ref m :: (vs ++ [])) H2 Q E
    rw [List.append_nil]
    exact hs H2 (e1.trans e2)⟩
theorem t_make (h : EvA ta σ H vs) (hs : ∀ H1 x dx, Ex H H1 → H1 x = none → H1 dx = none → dx ≠ x → sp (.ref x :: vs) (upd (upd H1 dx (.own x)) x (.ins C dx [])) (fun v H2 => v = .non ∧ Q (.ref x) H2) E) : tMake C sp [] E ta σ H Q :=
  h H (Ex.refl H) _ fun H1 e x dx hx hdx nd => by
    show sp (.ref x :: (vs ++ [])) _ _ E
    rw [List.append_nil]
    exact hs H1 x dx e hx hdx nd
theorem s_appX (ht : Ev tl σ H (.ref l)) (hx : H l = some (.lst xs)) (k : ∀ H0, Ex H H0 → te σ H0 (fun y H1 => ∃ l' xs' y', V.ref l = V.ref l' ∧ [y] = [y'] ∧ H1 l' = some (.lst xs') ∧ xs'.length < sizeLine ∧ D.nx σ (upd H1 l' (.lst (xs' ++ [y']))))) : tDrop (tBM K "list" rAppend tl (tCons te tNil)) D σ H :=
  ht H (Ex.refl H) _ fun H0 e0 => ⟨Or.inl ⟨rfl, _, sq_of (e0 _ _ hx)⟩, k H0 e0⟩
end
theorem na (f : Str) (h : ∀ x ∈ (["frames", "past", "points", "feedback", "own", "k", "value", "ceiling"] : List Str), ¬ f = x) {n c k v fb own : Int} {t l : Addr} :
    (fs_line n t).lookup f = none ∧ (fs_gain l).lookup f = none ∧ (fs_delay n fb own t).lookup f = none ∧ (fs_smooth k v).lookup f = none ∧ (fs_ahead n c t).lookup f = none := by
  have g : ∀ (fs : List (Str × V)), (∀ p ∈ fs, p.1 ∈ (["frames", "past", "points", "feedback", "own", "k", "value", "ceiling"] : List Str)) → fs.lookup f = none := fun fs hfs => no_attr fun p hp => h p.1 (hfs p hp)
  refine ⟨g _ fun p hp => ?_, g _ fun p hp => ?_, g _ fun p hp => ?_, g _ fun p hp => ?_, g _ fun p hp => ?_⟩
  · simp [fs_line] at hp; rcases hp with rfl | rfl <;> simp
  · simp [fs_gain] at hp; subst hp; simp
  · simp [fs_delay] at hp; rcases hp with rfl | rfl | rfl | rfl <;> simp
  · simp [fs_smooth] at hp; rcases hp with rfl | rfl <;> simp
  · simp [fs_ahead] at hp; rcases hp with rfl | rfl | rfl <;> simp
theorem na_p : ∀ x ∈ (["frames", "past", "points", "feedback", "own", "k", "value", "ceiling"] : List Str), ¬ (("process" : Str) = x) := by decide +kernel
theorem na_s : ∀ x ∈ (["frames", "past", "points", "feedback", "own", "k", "value", "ceiling"] : List Str), ¬ (("state" : Str) = x) := by decide +kernel
theorem na_r : ∀ x ∈ (["frames", "past", "points", "feedback", "own", "k", "value", "ceiling"] : List Str), ¬ (("restore" : Str) = x) := by decide +kernel
section
variable {σ : L2.St} {F H : Hp} {to te tl : TE} {ta : TA} {m a : Addr} {mo : Int} {vs : List V} {Q : VK} {ts : List Ent} {p : Pt} {st : List Int}
theorem alt_process (T : Tx K mg) (hnl : ∀ n, p ≠ .line n) (I : InstAt T ts F H m p st) (ho : Ev to σ H (.ref m)) (h : EvA ta σ H [.ref a, .int mo]) (hs : ∀ ok : Pt → Prop, ok p → ∀ H1, Ex H H1 → spProc T ok arg3 [.ref m, .ref a, .int mo] H1 Q E0) :
    tAlt (tMeth T.c_Pass "process" (sp_Pass_process T) [] E0 to ta) (tAlt (tMeth T.c_Gain "process" (sp_Gain_process T) [] E0 to ta) (tAlt (tMeth T.c_Delay "process" (sp_Delay_process T) [] E0 to ta) (tAlt (tMeth T.c_Smooth "process" (sp_Smooth_process T) [] E0 to ta) (tMeth T.c_Ahead "process" (sp_Ahead_process T) [] E0 to ta)))) σ H Q := by
  cases p with
  | line n => exact absurd rfl (hnl n)
  | pass => obtain ⟨_, dx, hm⟩ := I; exact .inl (t_meth ho hm rfl h (hs isPass rfl))
  | gain ps => obtain ⟨_, dx, l, hm, _⟩ := I; exact .inr (.inl (t_meth ho hm (na (t := 0) (n := 0) (c := 0) (k := 0) (v := 0) (fb := 0) (own := 0) _ na_p).2.1 h (hs isGain ⟨_, rfl⟩)))
  | delay n fb own => obtain ⟨dx, t, hm, _⟩ := I; exact .inr (.inr (.inl (t_meth ho hm (na (l := 0) (c := 0) (k := 0) (v := 0) _ na_p).2.2.1 h (hs isDelay ⟨_, _, _, rfl⟩))))
  | smooth n => obtain ⟨dx, v, _, hm⟩ := I; exact .inr (.inr (.inr (.inl (t_meth ho hm (na (l := 0) (t := 0) (n := 0) (c := 0) (fb := 0) (own := 0) _ na_p).2.2.2.1 h (hs isSmooth ⟨_, rfl⟩)))))
  | ahead n c => obtain ⟨dx, t, hm, _⟩ := I; exact .inr (.inr (.inr (.inr (t_meth ho hm (na (l := 0) (k := 0) (v := 0) (fb := 0) (own := 0) _ na_p).2.2.2.2 h (hs isAhead ⟨_, _, rfl⟩)))))
theorem alt_state (T : Tx K mg) (I : InstAt T ts F H m p st) (ho : Ev to σ H (.ref m)) (hs : ∀ ok : Pt → Prop, ok p → ∀ H1, Ex H H1 → spState T ok [.ref m] H1 Q E0) :
    tAlt (tMeth T.c_DelayLine "state" (sp_DelayLine_state T) [] E0 to tNil) (tAlt (tMeth T.c_Pass "state" (sp_Pass_state T) [] E0 to tNil) (tAlt (tMeth T.c_Gain "state" (sp_Gain_state T) [] E0 to tNil) (tAlt (tMeth T.c_Delay "state" (sp_Delay_state T) [] E0 to tNil) (tAlt (tMeth T.c_Smooth "state" (sp_Smooth_state T) [] E0 to tNil) (tMeth T.c_Ahead "state" (sp_Ahead_state T) [] E0 to tNil))))) σ H Q := by
  cases p with
  | line n => obtain ⟨dx, t, hm, _⟩ := I; exact .inl (t_meth ho hm (na (l := 0) (c := 0) (k := 0) (v := 0) (fb := 0) (own := 0) _ na_s).1 ea_nil (hs isLine ⟨_, rfl⟩))
  | pass => obtain ⟨_, dx, hm⟩ := I; exact .inr (.inl (t_meth ho hm rfl ea_nil (hs isPass rfl)))
  | gain ps => obtain ⟨_, dx, l, hm, _⟩ := I; exact .inr (.inr (.inl (t_meth ho hm (na (t := 0) (n := 0) (c := 0) (k := 0) (v := 0) (fb := 0) (own := 0) _ na_s).2.1 ea_nil (hs isGain ⟨_, rfl⟩))))
  | delay n fb own => obtain ⟨dx, t, hm, _⟩ := I; exact .inr (.inr (.inr (.inl (t_meth ho hm (na (l := 0) (c := 0) (k := 0) (v := 0) _ na_s).2.2.1 ea_nil (hs isDelay ⟨_, _, _, rfl⟩)))))
  | smooth n => obtain ⟨dx, v, _, hm⟩ := I; exact .inr (.inr (.inr (.inr (.inl (t_meth ho hm (na (l := 0) (t := 0) (n := 0) (c := 0) (fb := 0) (own := 0) _ na_s).2.2.2.1 ea_nil (hs isSmooth ⟨_, rfl⟩))))))
  | ahead n c => obtain ⟨dx, t, hm, _⟩ := I; exact .inr (.inr (.inr (.inr (.inr (t_meth ho hm (na (l := 0) (k := 0) (v := 0) (fb := 0) (own := 0) _ na_s).2.2.2.2 ea_nil (hs isAhead ⟨_, _, rfl⟩))))))
theorem alt_restore (T : Tx K mg) (I : InstAt T ts F H m p st) (ho : Ev to σ H (.ref m)) (h : EvA ta σ H vs) (hs : ∀ ok : Pt → Prop, ok p → ∀ H1, Ex H H1 → spRestore T ok (.ref m :: vs) H1 Q E0) :
    tAlt (tMeth T.c_DelayLine "restore" (sp_DelayLine_restore T) [] E0 to ta) (tAlt (tMeth T.c_Pass "restore" (sp_Pass_restore T) [] E0 to ta) (tAlt (tMeth T.c_Gain "restore" (sp_Gain_restore T) [] E0 to ta) (tAlt (tMeth T.c_Delay "restore" (sp_Delay_restore T) [] E0 to ta) (tAlt (tMeth T.c_Smooth "restore" (sp_Smooth_restore T) [] E0 to ta) (tMeth T.c_Ahead "restore" (sp_Ahead_restore T) [] E0 to ta))))) σ H Q := by
  cases p with
  | line n => obtain ⟨dx, t, hm, _⟩ := I; exact .inl (t_meth ho hm (na (l := 0) (c := 0) (k := 0) (v := 0) (fb := 0) (own := 0) _ na_r).1 h (hs isLine ⟨_, rfl⟩))
  | pass => obtain ⟨_, dx, hm⟩ := I; exact .inr (.inl (t_meth ho hm rfl h (hs isPass rfl)))
  | gain ps => obtain ⟨_, dx, l, hm, _⟩ := I; exact .inr (.inr (.inl (t_meth ho hm (na (t := 0) (n := 0) (c := 0) (k := 0) (v := 0) (fb := 0) (own := 0) _ na_r).2.1 h (hs isGain ⟨_, rfl⟩))))
  | delay n fb own => obtain ⟨dx, t, hm, _⟩ := I; exact .inr (.inr (.inr (.inl (t_meth ho hm (na (l := 0) (c := 0) (k := 0) (v := 0) _ na_r).2.2.1 h (hs isDelay ⟨_, _, _, rfl⟩)))))
  | smooth n => obtain ⟨dx, v, _, hm⟩ := I; exact .inr (.inr (.inr (.inr (.inl (t_meth ho hm (na (l := 0) (t := 0) (n := 0) (c := 0) (fb := 0) (own := 0) _ na_r).2.2.2.1 h (hs isSmooth ⟨_, rfl⟩))))))
  | ahead n c => obtain ⟨dx, t, hm, _⟩ := I; exact .inr (.inr (.inr (.inr (.inr (t_meth ho hm (na (l := 0) (k := 0) (v := 0) (fb := 0) (own := 0) _ na_r).2.2.2.2 h (hs isAhead ⟨_, _, rfl⟩))))))
end
theorem kw_line {p : Pt} (h : ∀ n, p ≠ .line n) : decide (kw p = ("line" : Str)) = false := by
  cases p with
  | line n => exact absurd rfl (h n)
  | pass => exact (by decide +kernel : decide (("pass" : Str) = "line") = false)
  | gain ps => exact (by decide +kernel : decide (("gain" : Str) = "line") = false)
  | delay n fb own => exact (by decide +kernel : decide (("delay" : Str) = "line") = false)
  | smooth n => exact (by decide +kernel : decide (("smooth" : Str) = "line") = false)
  | ahead n c => exact (by decide +kernel : decide (("ahead" : Str) = "line") = false)

/-! ### all instances of a chain -/
structure MadeAt (T : Tx K mg) (ts : List Ent) (F H : Hp) (ms : List Addr) (ps : List Pt) (sts : List (List Int)) : Prop where
  len : ms.length = ps.length
  nd : ms.Nodup
  no : ∀ m ∈ ms, F m = none
  at_ : ∀ (i : Nat) (m : Addr) (p : Pt) (st : List Int), ms[i]? = some m → ps[i]? = some p → sts[i]? = some st → InstAt T ts F H m p st
theorem MadeAt.mono {T : Tx K mg} {ts : List Ent} {F H F' H' : Hp} {ms : List Addr} {ps : List Pt} {sts : List (List Int)} (h : MadeAt T ts F H ms ps sts) (e : Ex F F') (no : ∀ m ∈ ms, F' m = none) (kp : ∀ m ∈ ms, ∀ o, H m = some o → H' m = some o) : MadeAt T ts F' H' ms ps sts :=
  ⟨h.len, h.nd, no, fun i m p st h1 h2 h3 => (h.at_ i m p st h1 h2 h3).mono e (kp m (mem_of_get h1))⟩
def sp_l_made (T : Tx K mg) : Sp := fun vs H Q _ => ∃ (a b : Addr) (F : Hp) (ps : List Pt) (ts : List Ent), vs = [.ref a, .ref b] ∧ Ex F H ∧ IsParts F a ps ∧ (∀ p ∈ ps, PtOk p) ∧ ps.length ≤ 1000 ∧ IsTs F b ts ∧ TsOk ts ∧
  ∀ q ms F' H', Stp S0 F H F' H' → F' q = some (.lst (ms.map V.ref)) → MadeAt T ts F' H' ms ps (inits ps) → (∀ m ∈ ms, H m = none) → Q (.ref q) H'
theorem inits_snoc {ps : List Pt} {i : Nat} {p : Pt} (h : ps[i]? = some p) : inits (ps.take (i + 1)) = inits (ps.take i) ++ [initP p] := by
  rw [take_snoc h]; unfold inits; rw [List.map_append]; rfl
theorem snoc_get {α : Type} {l : List α} {x y : α} {i : Nat} (h : (l ++ [x])[i]? = some y) : (i < l.length ∧ l[i]? = some y) ∨ (i = l.length ∧ y = x) := by
  by_cases hi : i < l.length
  · rw [List.getElem?_append_left hi] at h; exact .inl ⟨hi, h⟩
  · rw [List.getElem?_append_right (by omega)] at h
    have z : i - l.length = 0 := by
      have := (List.getElem?_eq_some_iff.mp h).1
      simp at this
      omega
    rw [z] at h
    cases h
    exact .inr ⟨by omega, rfl⟩
theorem MadeAt.snoc {T : Tx K mg} {ts : List Ent} {F H : Hp} {ms : List Addr} {ps : List Pt} {sts : List (List Int)} {m : Addr} {p : Pt} {st : List Int} (h : MadeAt T ts F H ms ps sts) (hst : sts.length = ps.length) (hm : F m = none) (n : ¬ m ∈ ms) (I : InstAt T ts F H m p st) : MadeAt T ts F H (ms ++ [m]) (ps ++ [p]) (sts ++ [st]) := by
  refine ⟨by rw [List.length_append, List.length_append, h.len]; rfl, ?_, fun x hx => ?_, fun i x q s h1 h2 h3 => ?_⟩
  · refine List.nodup_append.mpr ⟨h.nd, by simp, fun a ha b hb => ?_⟩
    rw [List.mem_singleton.mp hb]
    exact fun e => n (e ▸ ha)
  · rcases List.mem_append.mp hx with q | q
    · exact h.no x q
    · rw [List.mem_singleton.mp q]; exact hm
  · rcases snoc_get h1 with ⟨a1, a2⟩ | ⟨a1, a2⟩
    · have b2 : ps[i]? = some q := by rw [List.getElem?_append_left (by rw [← h.len]; exact a1)] at h2; exact h2
      have b3 : sts[i]? = some s := by rw [List.getElem?_append_left (by rw [hst, ← h.len]; exact a1)] at h3; exact h3
      exact h.at_ i x q s a2 b2 b3
    · subst a2
      rcases snoc_get h2 with ⟨b1, _⟩ | ⟨_, b2⟩
      · rw [← h.len] at b1; omega
      rcases snoc_get h3 with ⟨c1, _⟩ | ⟨_, c2⟩
      · rw [hst, ← h.len] at c1; omega
      subst b2 c2
      exact I
theorem InstAt.some {T : Tx K mg} {ts : List Ent} {F H : Hp} {m : Addr} {p : Pt} {st : List Int} (I : InstAt T ts F H m p st) : H m ≠ none := by
  obtain ⟨C, dx, fs, h⟩ := I.ins
  rw [h]; simp
theorem MadeAt.some {T : Tx K mg} {ts : List Ent} {F H : Hp} {ms : List Addr} {ps : List Pt} {sts : List (List Int)} (h : MadeAt T ts F H ms ps sts) (hst : sts.length = ps.length) {m : Addr} (hm : m ∈ ms) : ∃ C dx fs, H m = some (.ins C dx fs) := by
  obtain ⟨i, hi⟩ := List.getElem?_of_mem hm
  have hl := (List.getElem?_eq_some_iff.mp hi).1
  obtain ⟨p, hp⟩ : ∃ p, ps[i]? = Option.some p := get_of_lt (by rw [← h.len]; exact hl)
  obtain ⟨s, hs⟩ : ∃ s, sts[i]? = Option.some s := get_of_lt (by rw [hst, ← h.len]; exact hl)
  exact (h.at_ i m p s hi hp hs).ins
theorem ok_l_made (T : Tx K mg) : FnOk P w K mg base CX0 6 T.a_l_made T.d_l_made P_l_made (sp_l_made T) := by
  refine T.F_l_made.ok sc_l_made (fun vs H Q E h => ?_) (fun cdv A outer s H vs Q E hr h => ?_)
  · obtain ⟨a, b, F, ps, ts, rfl, _⟩ := h
    rfl
  · obtain ⟨a, b, F, ps, ts, rfl, hF, ⟨es, ha, hel, hes⟩, hpk, hlen, hts, hd, k⟩ := h
    refine ⟨_, (pss_cons (ps_set (i := 2) sc_l_made.nd rfl (.inl rfl) (pe_lst pa_nil)) (pss_cons (ps_for PassesOwn.never rfl (pi_list (pv 0)) (pg_name (i := 3) sc_l_made.nd rfl (.inl rfl)) (pss_one (ps_if (pt_cmpR op_eq (pe_ix ix_seq (pv 3) pe_int (fun _ _ => rfl)) pe_str (nomark _)) (pss_one (ps_expr (pe_bm PySem.F.plainAttrs_list PySem.F.slot_list_append PySem.F.type_list_append mt_append (pv 2) (pa_cons (pe_make T.mk_DelayLine (ok_DelayLine_init T) (hr.mono (by decide)) (by rfl) T.g_DelayLine T.b_DelayLine_init .nil pass0 (pa_cons (pe_ix ix_seq (pv 3) pe_int (fun _ _ => rfl)) pa_nil)) pa_nil)))) (pss_one (ps_expr (pe_bm PySem.F.plainAttrs_list PySem.F.slot_list_append PySem.F.type_list_append mt_append (pv 2) (pa_cons (pe_call (ok_effect_of T) (hr.mono (by decide)) (by rfl) T.g_effect_of T.F_effect_of.kp T.b_effect_of .nil pass0 (pa_cons (pv 3) (pa_cons (pe_callTy call_list_of (by rfl) T.z_list (by decide +kernel) (pa_cons (pv 1) pa_nil)) pa_nil))) pa_nil))))))) (pss_one (ps_ret (pv 2))))), ?_⟩
    have hl : (es.map V.ref).length = ps.length := by rw [List.length_map, hel]
    refine q_asgL (el_lst ea_nil (show 0 ≤ 100000 by decide)) fun l H1 hl0 e1 h1 => ?_
    have hFl := (Stp.refl (S := S0) hF).freshF hl0
    refine q_forL (ev_var rfl) (sq_of (e1 _ _ (hF _ _ ha))) (fun i σ' H' => ∃ (F' : Hp) (ms : List Addr) (x3 : Option V), σ' = [some (.ref a), some (.ref b), some (.ref l), x3] ∧ Stp S0 F H F' H' ∧ F' l = none ∧ H' l = some (.lst (ms.map V.ref)) ∧ MadeAt T ts F' H' ms (ps.take i) (inits (ps.take i)) ∧ ∀ m ∈ ms, H m = none)
      (fun H2 e2 => ⟨F, [], none, rfl, (Stp.refl hF).pure (e1.trans e2), hFl, e2 _ _ h1, ⟨rfl, List.nodup_nil, (fun m hm => nomatch hm), (fun i m p st h => by simp at h)⟩, (fun m hm => nomatch hm)⟩) (fun i σ' H' _ ⟨F', _, _, _, s, _⟩ => sq_of (s.ex' _ _ (s.ex _ _ ha))) ?_ ?_
    · rintro i v σ' H' hv ⟨F', ms, x3, rfl, s1, hFl1, hl1, hM, hms⟩
      obtain ⟨e, rfl, he⟩ := ref_get hv
      have hi := (List.getElem?_eq_some_iff.mp he).1
      obtain ⟨p, hp⟩ : ∃ p, ps[i]? = some p := get_of_lt (by omega)
      have hsp := (hes i e p he hp).mono s1.ex
      have hspH := hsp.mono s1.ex'
      have hPk := hpk p (mem_of_get hp)
      have tl : (ps.take i).length = i := by rw [List.length_take]; omega
      have il : (inits (ps.take i)).length = (ps.take i).length := by unfold inits; rw [List.length_map]
      have ml : ms.length = i := by rw [hM.len, tl]
      -- a new instance at m, whatever made it
      have fin : ∀ (m : Addr) (F4 H4 : Hp), Stp S0 F' H' F4 H4 → H' m = none → F4 m = none → InstAt T ts F4 H4 m p (initP p) → H4 l = some (.lst (ms.map V.ref)) ∧ (ms.map V.ref).length < sizeLine ∧
          ∃ (F'' : Hp) (ms' : List Addr) (x3 : Option V), [some (V.ref a), some (.ref b), some (.ref l), some (.ref e)] = [some (V.ref a), some (.ref b), some (.ref l), x3] ∧ Stp S0 F H F'' (upd H4 l (.lst (ms.map V.ref ++ [.ref m]))) ∧ F'' l = none ∧ (upd H4 l (.lst (ms.map V.ref ++ [.ref m]))) l = some (.lst (ms'.map V.ref)) ∧
            MadeAt T ts F'' (upd H4 l (.lst (ms.map V.ref ++ [.ref m]))) ms' (ps.take (i + 1)) (inits (ps.take (i + 1))) ∧ ∀ m ∈ ms', H m = none := by
        intro m F4 H4 s4 hm hF4 I4
        have hl4 : H4 l = some (.lst (ms.map V.ref)) := s4.kp _ _ (fun h => h) hl1
        have hFl4 : F4 l = none := s4.fr l hFl1 (by rw [hl1]; simp)
        have nml : m ≠ l := fun z => by rw [z, hl1] at hm; cases hm
        have hMs : ∀ x ∈ ms, ∃ C dx fs, H' x = some (.ins C dx fs) := fun x hx => hM.some il hx
        have nl : ∀ x ∈ ms, x ≠ l := fun x hx z => by
          obtain ⟨C, dx, fs, h⟩ := hMs x hx
          rw [z, hl1] at h; cases h
        have hno : ∀ x ∈ ms, F4 x = none := fun x hx => by
          obtain ⟨C, dx, fs, h⟩ := hMs x hx
          exact s4.fr x (hM.no x hx) (by rw [h]; simp)
        have s14 := s1.trans s4 fun b hb => hb.elim
        refine ⟨hl4, by rw [List.length_map, ml]; exact Nat.lt_of_lt_of_le (show i < 1000 by omega) (by decide), F4, ms ++ [m], _, rfl, s14.mut (.inr hl0) hFl4, hFl4, ?_, ?_, fun x hx => ?_⟩
        · rw [upd_same, List.map_append]; rfl
        · rw [inits_snoc hp, take_snoc hp]
          refine (hM.mono s4.ex hno fun x hx o ho => ?_).snoc il hF4 (fun hx => ?_) (I4.mono (Ex.refl F4) fun o ho => by rw [upd_ne nml]; exact ho)
          · rw [upd_ne (nl x hx)]; exact s4.kp _ _ (fun h => h) ho
          · obtain ⟨C, dx, fs, h⟩ := hMs m hx
            rw [hm] at h; cases h
        · rcases List.mem_append.mp hx with q | q
          · exact hms x q
          · rw [List.mem_singleton.mp q]; exact s1.fresh hm
      by_cases hpl : ∃ n, p = .line n
      · obtain ⟨n, rfl⟩ := hpl
        refine s_if (et_kw (b := true) (ev_var rfl) hspH (show decide (("line" : Str) = "line") = true by decide +kernel)) (fun _ H2 e2 => ?_) (fun hb => absurd hb (by decide))
        refine s_appX (ev_var rfl) (e2 _ _ hl1) fun H3 e3 => ?_
        refine t_make (ea_cons (ev_op (ev_var rfl) ev_c (rv_iT (st_of (hspH.mono (e2.trans e3))) rfl)) ea_nil) fun H4 x dx e4 hx hdx nd => ?_
        refine ⟨x, dx, n, rfl, upd_same, Nat.le_trans hPk (by decide), fun t H5 h5 hm => ⟨rfl, ?_⟩⟩
        obtain ⟨s5, x0, xF⟩ := h5.stp s1.ex' ((e2.trans e3).trans e4) hx hdx
        obtain ⟨q1, q2, q3⟩ := fin x _ H5 s5 x0 xF ⟨dx, t, hm, upd_same⟩
        exact ⟨l, ms.map V.ref, .ref x, rfl, rfl, q1, q2, q3⟩
      · have hnl : ∀ n, p ≠ .line n := fun n h => hpl ⟨n, h⟩
        refine s_if (et_kw (b := false) (ev_var rfl) hspH (kw_line hnl)) (fun hb => absurd hb (by decide)) (fun _ H2 e2 => ?_)
        refine s_appX (ev_var rfl) (e2 _ _ hl1) fun H3 e3 => ?_
        obtain ⟨et, hb, htt⟩ := hts
        have e23 := e2.trans e3
        have hb3 := e23 _ _ (s1.ex' _ _ (s1.ex _ _ hb))
        refine ⟨_, rfl, _, rfl, b, _, rfl, .inl (sq_of hb3), fun c hc => ?_⟩
        have eC := Ex.new (o := HO.lst (et.map V.ref)) hc
        have s3 : Stp S0 F' H' F' H3 := (Stp.refl s1.ex').pure e23
        have s3c := (s3.pure eC).freeze (s3.fresh hc) upd_same
        have hFc := s3.freshF hc
        refine ⟨ts, e, c, upd F' c (.lst (et.map V.ref)), p, rfl, s3c.ex', hsp.mono s3c.ex, hnl, hPk, ⟨et, upd_same, (htt.mono s1.ex).mono s3c.ex⟩, hd, fun m F4 H4 s4 hm hF4 I4 => ?_⟩
        obtain ⟨q1, q2, q3⟩ := fin m F4 H4 (s3c.trans s4 fun b hb => hb.elim) (s3c.keepF.fresh hm) hF4 I4
        exact ⟨l, ms.map V.ref, .ref m, rfl, rfl, q1, q2, q3⟩
    · rintro σ' H' ⟨F', ms, x3, rfl, s1, hFl1, hl1, hM, hms⟩
      rw [hl, List.take_length] at hM
      have il : (inits ps).length = ps.length := by unfold inits; rw [List.length_map]
      refine s_ret (ev_var rfl) fun H3 e3 => ?_
      have s3 := (s1.pure e3).freeze hl0 (e3 _ _ hl1)
      refine k l ms _ H3 s3 upd_same (hM.mono (Ex.new hFl1) (fun m hm => ?_) fun m hm o ho => e3 _ _ ho) hms
      obtain ⟨C, dx, fs, h⟩ := hM.some il hm
      rw [upd_ne (fun z => by rw [z, hl1] at h; cases h)]
      exact hM.no m hm

/-! ### sent -/
theorem lates_get : ∀ (ps : List Pt) (l k : Nat) (p : Pt), ps[k]? = some p → ∃ l' : Nat, (latesM l ps)[k]? = some (l' : Int) ∧ (latesM l ps)[k + 1]? = some ((l' + latP p : Nat) : Int)
  | p :: r, l, 0, q, h => by
    cases h
    refine ⟨l, rfl, ?_⟩
    unfold latesM
    cases r <;> rfl
  | p :: r, l, k + 1, q, h => by
    unfold latesM
    exact lates_get r (l + latP p) k q h
theorem chain_cons (ts : List Ent) (p : Pt) (r : List Pt) (l : Nat) (st : List Int) (sts : List (List Int)) (m : Int) (xs : List Int) : chainM ts (p :: r) l (st :: sts) m xs = ((runP ts p st (m - l) xs).1 :: (chainM ts r (l + latP p) sts m (runP ts p st (m - l) xs).2).1, (chainM ts r (l + latP p) sts m (runP ts p st (m - l) xs).2).2) := rfl
def sp_l_sent (T : Tx K mg) : Sp := fun vs H Q _ => ∃ (ts : List Ent) (F : Hp) (a b c d : Addr) (ps : List Pt) (ms : List Addr) (sts : List (List Int)) (xs : List Int) (fr : Int), vs = [.ref a, .ref b, .ref c, .ref d, .int fr] ∧ Ex F H ∧ TsOk ts ∧ IsParts F a ps ∧ ps.length ≤ 1000 ∧ F b = some (.lst (ms.map V.ref)) ∧ F c = some (.lst ((latesM 0 ps).map V.int)) ∧ F d = some (.lst (xs.map V.int)) ∧
  (∀ x ∈ xs, Smp x) ∧ xs.length ≤ 1000 ∧ StsOk ps sts ∧ MadeAt T ts F H ms ps sts ∧
  ∀ q F' H', Stp (· ∈ ms) F H F' H' → MadeAt T ts F' H' ms ps (chainM ts ps 0 sts fr xs).1 → F' q = some (.lst ((chainM ts ps 0 sts fr xs).2.map V.int)) → Q (.ref q) H'
theorem stsOk_get : ∀ {ps : List Pt} {sts : List (List Int)} {k : Nat} {p : Pt}, StsOk ps sts → ps[k]? = some p → ∃ st, sts[k]? = some st ∧ PtOk p ∧ StOk p st := fun h e => h.get e
theorem ok_l_sent (T : Tx K mg) : FnOk P w K mg base CX0 4 T.a_l_sent T.d_l_sent P_l_sent (sp_l_sent T) := by
  refine T.F_l_sent.ok sc_l_sent (fun vs H Q E h => ?_) (fun cdv A outer s H vs Q E hr h => ?_)
  · obtain ⟨ts, F, a, b, c, d, ps, ms, sts, xs, fr, rfl, _⟩ := h
    rfl
  · obtain ⟨ts, F, a, b, c, d, ps, ms, sts, xs, fr, rfl, hF, hd, ⟨es, ha, hel, hes⟩, hlen, hb, hc, hdd, hxs, hxl, hS, hM, k⟩ := h
    refine ⟨_, (pss_cons (ps_for PassesOwn.never rfl (pi_range1 (by rfl) T.z_range (pa_cons (pe_callB call_len_seq (by rfl) T.z_len (by decide +kernel) (pa_cons (pv 0) pa_nil)) pa_nil)) (pg_name (i := 5) sc_l_sent.nd rfl (.inl rfl)) (pss_one (ps_if (pt_cmpR op_eq (pe_ix ix_seq (pe_ix ix_seq (pv 0) (pv 5) (fun _ _ => rfl)) pe_int (fun _ _ => rfl)) pe_str (nomark _)) (pss_one (ps_set (i := 3) sc_l_sent.nd rfl (.inl rfl) (pe_meth (pe_ix ix_seq (pv 1) (pv 5) (fun _ _ => rfl)) T.cl_DelayLine T.m_DelayLine_process (ok_DelayLine_process T) (hr.mono (by decide)) T.b_DelayLine_process .nil pass0 (pa_cons (pv 3) pa_nil)))) (pss_one (ps_set (i := 3) sc_l_sent.nd rfl (.inl rfl) (pe_alt (pe_meth (pe_ix ix_seq (pv 1) (pv 5) (fun _ _ => rfl)) T.cl_Pass T.m_Pass_process (ok_Pass_process T) (hr.mono (by decide)) T.b_Pass_process .nil pass0 (pa_cons (pv 3) (pa_cons (pe_op op_sub (pv 4) (pe_ix ix_seq (pv 2) (pv 5) (fun _ _ => rfl))) pa_nil))) (pe_alt (pe_meth (pe_ix ix_seq (pv 1) (pv 5) (fun _ _ => rfl)) T.cl_Gain T.m_Gain_process (ok_Gain_process T) (hr.mono (by decide)) T.b_Gain_process .nil pass0 (pa_cons (pv 3) (pa_cons (pe_op op_sub (pv 4) (pe_ix ix_seq (pv 2) (pv 5) (fun _ _ => rfl))) pa_nil))) (pe_alt (pe_meth (pe_ix ix_seq (pv 1) (pv 5) (fun _ _ => rfl)) T.cl_Delay T.m_Delay_process (ok_Delay_process T) (hr.mono (by decide)) T.b_Delay_process .nil pass0 (pa_cons (pv 3) (pa_cons (pe_op op_sub (pv 4) (pe_ix ix_seq (pv 2) (pv 5) (fun _ _ => rfl))) pa_nil))) (pe_alt (pe_meth (pe_ix ix_seq (pv 1) (pv 5) (fun _ _ => rfl)) T.cl_Smooth T.m_Smooth_process (ok_Smooth_process T) (hr.mono (by decide)) T.b_Smooth_process .nil pass0 (pa_cons (pv 3) (pa_cons (pe_op op_sub (pv 4) (pe_ix ix_seq (pv 2) (pv 5) (fun _ _ => rfl))) pa_nil))) (pe_meth (pe_ix ix_seq (pv 1) (pv 5) (fun _ _ => rfl)) T.cl_Ahead T.m_Ahead_process (ok_Ahead_process T) (hr.mono (by decide)) T.b_Ahead_process .nil pass0 (pa_cons (pv 3) (pa_cons (pe_op op_sub (pv 4) (pe_ix ix_seq (pv 2) (pv 5) (fun _ _ => rfl))) pa_nil)))))))))))) (pss_one (ps_ret (pv 3)))), ?_⟩
    have hl : (es.map V.ref).length = ps.length := by rw [List.length_map, hel]
    have hsl := hS.len
    refine q_forR1 (n := ((es.map V.ref).length : Nat)) (ea_cons (ev_len (ev_var rfl) (sq_of (hF _ _ ha))) ea_nil) ⟨by omega, by omega⟩ (fun i σ' H' => ∃ (F' : Hp) (q : Addr) (ys : List Int) (ds : List (List Int)) (l : Nat) (x5 : Option V), σ' = [some (.ref a), some (.ref b), some (.ref c), some (.ref q), some (.int fr), x5] ∧ Stp (· ∈ ms) F H F' H' ∧ F' q = some (.lst (ys.map V.int)) ∧ (∀ y ∈ ys, Smp y) ∧ ys.length ≤ 1000 ∧ ds.length = i ∧
        MadeAt T ts F' H' ms ps (ds ++ sts.drop i) ∧ (latesM 0 ps)[i]? = some (l : Int) ∧ (ds ++ (chainM ts (ps.drop i) l (sts.drop i) fr ys).1 = (chainM ts ps 0 sts fr xs).1 ∧ (chainM ts (ps.drop i) l (sts.drop i) fr ys).2 = (chainM ts ps 0 sts fr xs).2))
      (fun H1 e1 => ⟨F, d, xs, [], 0, none, rfl, (Stp.refl hF).pure e1, hdd, hxs, hxl, rfl, hM.mono (Ex.refl F) hM.no (fun m _ o ho => e1 _ _ ho), by cases ps <;> rfl, rfl, rfl⟩) ?_ ?_
    · rintro i σ' H' hi ⟨F', q, ys, ds, l, x5, rfl, s1, hq, hys, hyl, hds, hM1, hll, hch⟩
      have hip : i < ps.length := by omega
      obtain ⟨p, hp⟩ : ∃ p, ps[i]? = some p := get_of_lt hip
      obtain ⟨e, he⟩ : ∃ e, es[i]? = some e := get_of_lt (by omega)
      obtain ⟨m, hm⟩ : ∃ m, ms[i]? = some m := get_of_lt (by rw [hM.len]; exact hip)
      obtain ⟨st, hst, hPk, hSt⟩ := stsOk_get hS hp
      have hpi := List.getElem?_eq_some_iff.mp hp
      have hsi := List.getElem?_eq_some_iff.mp hst
      have hmm : m ∈ ms := mem_of_get hm
      have dp : ps.drop i = p :: ps.drop (i + 1) := by rw [← hpi.2]; exact List.drop_eq_getElem_cons hpi.1
      have dst : sts.drop i = st :: sts.drop (i + 1) := by rw [← hsi.2]; exact List.drop_eq_getElem_cons hsi.1
      have hstl : (ds ++ sts.drop i).length = ps.length := by rw [List.length_append, List.length_drop, hds, hsl]; omega
      have I : InstAt T ts F' H' m p st := hM1.at_ i m p st hm hp (by rw [List.getElem?_append_right (by omega), hds, Nat.sub_self, dst]; rfl)
      obtain ⟨l', hl1, hl2⟩ := lates_get ps 0 i p hp
      have hll' : l' = l := by
        rw [hll] at hl1
        have := Option.some.inj hl1
        omega
      subst hll'
      have hsp := (hes i e p he hp).mono s1.ex
      have hspH := hsp.mono s1.ex'
      rw [dp, dst, chain_cons] at hch
      -- behind the part's turn
      have fin : ∀ q' F2 H2, Stp (· = m) F' H' F2 H2 → InstAt T ts F2 H2 m p (runP ts p st (fr - l') ys).1 → F2 q' = some (.lst ((runP ts p st (fr - l') ys).2.map V.int)) →
          ∃ (F'' : Hp) (q : Addr) (ys : List Int) (ds : List (List Int)) (l : Nat) (x5 : Option V), [some (V.ref a), some (.ref b), some (.ref c), some (.ref q'), some (.int fr), some (.int (i : Int))] = [some (.ref a), some (.ref b), some (.ref c), some (.ref q), some (.int fr), x5] ∧ Stp (· ∈ ms) F H F'' H2 ∧ F'' q = some (.lst (ys.map V.int)) ∧ (∀ y ∈ ys, Smp y) ∧ ys.length ≤ 1000 ∧ ds.length = i + 1 ∧
            MadeAt T ts F'' H2 ms ps (ds ++ sts.drop (i + 1)) ∧ (latesM 0 ps)[i + 1]? = some (l : Int) ∧ (ds ++ (chainM ts (ps.drop (i + 1)) l (sts.drop (i + 1)) fr ys).1 = (chainM ts ps 0 sts fr xs).1 ∧ (chainM ts (ps.drop (i + 1)) l (sts.drop (i + 1)) fr ys).2 = (chainM ts ps 0 sts fr xs).2) := by
        intro q' F2 H2 s2 I2 hq2
        have hno : ∀ x ∈ ms, F2 x = none := fun x hx => by
          obtain ⟨C, dx, fs, h⟩ := hM1.some hstl hx
          exact s2.fr x (hM1.no x hx) (by rw [h]; simp)
        refine ⟨F2, q', _, ds ++ [(runP ts p st (fr - l') ys).1], l' + latP p, _, rfl, s1.trans s2 (fun b hb => .inl (by rw [hb]; exact hmm)), hq2, (run_ok hPk hSt hys).2, by rw [run_len]; exact hyl, by rw [List.length_append, hds]; rfl, ⟨hM.len, hM.nd, hno, fun j x pp ss h1 h2 h3 => ?_⟩, hl2, ?_, hch.2⟩
        · by_cases hj : j = i
          · subst hj
            rw [hm] at h1; cases h1
            rw [hp] at h2; cases h2
            rw [List.append_assoc, List.getElem?_append_right (by omega), hds, Nat.sub_self] at h3
            cases h3
            exact I2
          · have h3' : (ds ++ sts.drop i)[j]? = some ss := by
              rw [List.append_assoc] at h3
              rw [dst]
              by_cases hjl : j < ds.length
              · rw [List.getElem?_append_left hjl] at h3 ⊢; exact h3
              · rw [List.getElem?_append_right (by omega)] at h3 ⊢
                obtain ⟨n, hn⟩ : ∃ n, j - ds.length = n + 1 := ⟨j - ds.length - 1, by omega⟩
                rw [hn] at h3 ⊢
                exact h3
            have nxm : x ≠ m := fun z => hj (nd_ix hM.nd h1 (by rw [z]; exact hm))
            exact (hM1.at_ j x pp ss h1 h2 h3').mono s2.ex fun o ho => s2.kp x o nxm ho
        · rw [← hch.1, List.append_assoc]; rfl
      have hb' := s1.ex' _ _ (s1.ex _ _ hb)
      by_cases hpl : ∃ n, p = .line n
      · obtain ⟨n, rfl⟩ := hpl
        refine s_if (et_kw (b := true) (ev_op (ev_var rfl) (ev_var rfl) (rv_iL (sq_of (s1.ex' _ _ (s1.ex _ _ ha))) (at_map he))) hspH (show decide (("line" : Str) = "line") = true by decide +kernel)) (fun _ H2 e2 => ?_) (fun hb => absurd hb (by decide))
        obtain ⟨dx, t, hmi, ht⟩ := id I
        refine t_meth (ev_op (ev_var rfl) (ev_var rfl) (rv_iL (sq_of (e2 _ _ hb')) (at_map hm))) (e2 _ _ hmi) (na (l := 0) (c := 0) (k := 0) (v := 0) (fb := 0) (own := 0) _ na_p).1 (ea_cons (ev_var rfl) ea_nil) fun H3 e3 => ?_
        have e23 := e2.trans e3
        have s13 : Stp (· = m) F' H' F' H3 := (Stp.refl s1.ex').pure e23
        exact ⟨ts, F', m, q, ys, fr - l', .line n, st, ⟨n, rfl⟩, rfl, s1.ex'.trans e23, hM1.no m hmm, ⟨dx, t, e23 _ _ hmi, ht⟩, hd, hPk, hSt, hq, hys, hyl, fun q' F2 H2 s2 I2 hq2 => fin q' F2 H2 (s13.trans s2 fun b hb => .inl hb) I2 hq2⟩
      · have hnl : ∀ n, p ≠ .line n := fun n h => hpl ⟨n, h⟩
        refine s_if (et_kw (b := false) (ev_op (ev_var rfl) (ev_var rfl) (rv_iL (sq_of (s1.ex' _ _ (s1.ex _ _ ha))) (at_map he))) hspH (kw_line hnl)) (fun hb => absurd hb (by decide)) (fun _ H2 e2 => ?_)
        refine alt_process T hnl (I.mono (Ex.refl F') fun o ho => e2 _ _ ho) (ev_op (ev_var rfl) (ev_var rfl) (rv_iL (sq_of (e2 _ _ hb')) (at_map hm))) (ea_cons (ev_var rfl) (ea_cons (ev_op (ev_var rfl) (ev_op (ev_var rfl) (ev_var rfl) (rv_iL (sq_of (e2 _ _ (s1.ex' _ _ (s1.ex _ _ hc)))) (at_map hll))) rv_I0) ea_nil)) fun ok hok H3 e3 => ?_
        have e23 := e2.trans e3
        have s13 : Stp (· = m) F' H' F' H3 := (Stp.refl s1.ex').pure e23
        exact ⟨ts, F', m, q, ys, fr - l', p, st, hok, rfl, s1.ex'.trans e23, hM1.no m hmm, I.mono (Ex.refl F') (fun o ho => e23 _ _ ho), hd, hPk, hSt, hq, hys, hyl, fun q' F2 H2 s2 I2 hq2 => fin q' F2 H2 (s13.trans s2 fun b hb => .inl hb) I2 hq2⟩
    · rintro σ' H' ⟨F', q, ys, ds, l, x5, rfl, s1, hq, hys, hyl, hds, hM1, hll, hch⟩
      rw [show (((es.map V.ref).length : Nat) : Int).toNat = ps.length by omega] at hM1 hch
      rw [List.drop_length] at hch
      rw [show sts.drop ps.length = [] by rw [← hsl, List.drop_length]] at hM1 hch
      have c1 : ds ++ [] = (chainM ts ps 0 sts fr xs).1 := hch.1
      have c2 : ys = (chainM ts ps 0 sts fr xs).2 := hch.2
      rw [c1] at hM1
      refine s_ret (ev_var rfl) fun H3 e3 => ?_
      exact k q F' H3 (s1.pure e3) (hM1.mono (Ex.refl F') hM1.no fun m _ o ho => e3 _ _ ho) (by rw [hq, c2])
end K37

/-! K37, part 15: the law. -/
namespace K37
open PySem L2 Evl
variable {P : Program} {w : World} {K : PySem.W.Frag} {mg : Str → Option Value} {base : Heap}

section
variable {σ : L2.St} {H : Hp} {te te2 tn tl : TE} {ta : TA} {t1 t2 tu tz : TS} {D : Ends} {g : TG} {vs : List V} {sp sp2 : Sp} {E E2 : XK} {Q : VK} {p : Addr} {F : Hp}
theorem t_call (h : EvA ta σ H vs) (hs : ∀ H1, Ex H H1 → sp vs H1 Q E) : tCall sp [] E ta σ H Q := h H (Ex.refl H) _ fun H1 e => by
  show sp (vs ++ []) H1 Q E
  rw [List.append_nil]
  exact hs H1 e
theorem s_asgC {i : Nat} (h : EvA ta σ H vs) (hs : ∀ H1, Ex H H1 → sp vs H1 (fun x H2 => D.nx (σ.set i (some x)) H2) E) : tAsg (tCall sp [] E ta) (gName i) D σ H := t_call h hs
def ForL (K : PySem.W.Frag) (a : Addr) (g : TG) (tb : TS) (D : Ends) (σ : L2.St) (H : Hp) : Prop :=
  ∃ W : Nat → Nat → L2.St → Hp → Prop, (∃ m, W 0 m σ H) ∧ ∀ i m σ H, W i m σ H →
      ((Itl K a).stop i H ∧ D.nx σ H) ∨ ((Itl K a).go i H ∧ ∃ N : L2.St → Hp → Prop, (∀ σ' H', N σ' H' → ∃ m', m' < m ∧ W (i + 1) m' σ' H') ∧ ∀ x H', (Itl K a).yld i H x H' → g x σ H' fun σ2 H2 => tb { D with nx := N, ct := N, bk := D.nx } σ2 H2)
/-- for .. in f(..) -/
theorem q_forC (h : EvA ta σ H vs) (hs : ∀ H1, Ex H H1 → sp vs H1 (fun x H2 => ∃ a, x = .ref a ∧ (∃ xs, SqL K H2 a xs) ∧ ForL K a g tu { D with nx := tz D } σ H2) E) : tSeq (tFor (iList K (tCall sp [] E ta)) g tu) tz D σ H := t_call h hs
/-- if not f(g(..), e): .. -/
theorem q_ifC (h : EvA ta σ H vs) (hs : ∀ H1, Ex H H1 → sp vs H1 (fun x H2 => te2 σ H2 (fun y H3 => sp2 [x, y] H3 (fun v H4 => ∃ c, v = .bl c ∧ if (!c) = true then t1 { D with nx := tz D } σ H4 else t2 { D with nx := tz D } σ H4) E2)) E) :
    tSeq (tIfS (tNot (tB (tCall sp2 [] E2 (tCons (tCall sp [] E ta) (tCons te2 tNil))))) t1 t2) tz D σ H := h H (Ex.refl H) _ fun H1 e => by
  show sp (vs ++ []) H1 _ E
  rw [List.append_nil]
  exact hs H1 e
/-- name = [f(..) for .. in range(a drawn number)] -/
theorem d_asgLC {i j : Nat} {ws : List Nat} {lo hi : Int} (h : Dv p F H tn σ (Rg lo hi)) (d : Dk p F H) (hb : 0 ≤ lo ∧ hi ≤ 1000)
    (k : ∀ (n : Nat) H1 Dl, lo ≤ (n : Int) → (n : Int) < hi → Dk p F H1 → But p H H1 → H1 Dl = none → ∃ Pv : Nat → Hp → Prop, Pv 0 (upd H1 Dl (.lst [])) ∧ (∀ (m : Nat) H', m < n → Pv m H' → wipe ((wipe σ ws).set j (some (.int (m : Int)))) ws = wipe σ ws ∧
        te ((wipe σ ws).set j (some (.int (m : Int)))) H' fun y H4 => ∃ acc, H4 Dl = some (.lst acc) ∧ acc.length < sizeLine ∧ Pv (m + 1) (upd H4 Dl (.lst (acc ++ [y])))) ∧ ∀ H', Pv n H' → tz D (σ.set i (some (.ref Dl))) H') :
    tSeq (tAsg (tLc (iRng1 (tCons tn tNil)) (gName j) tYes te ws) (gName i)) tz D σ H := h H d (But.refl p H) _ fun v H1 d1 b1 ⟨z, ez, z1, z2⟩ => by
  subst ez
  refine ⟨z, rfl, by omega, by omega, fun Dl hD => ?_⟩
  obtain ⟨Pv, h0, hs, hd⟩ := k z.toNat H1 Dl (by omega) (by omega) d1 b1 hD
  refine lc_range (lo := 0) (n := z.toNat) Pv h0 (fun m H' hm q => ?_) hd
  rw [show (0 : Int) + (m : Int) = (m : Int) by omega]
  obtain ⟨a, b⟩ := hs m H' hm q
  refine ⟨a, ?_⟩
  dsimp only [tYes]
  rw [if_pos rfl]
  exact b
/-- name = [a tuple, a tuple, a tuple] -/
theorem d_asgL3 {i : Nat} {u1 u2 u3 : TA} {S1 S2 S3 : List V → Prop} (h1 : ∀ F H, Da p F H u1 σ S1) (h2 : ∀ F H, Da p F H u2 σ S2) (h3 : ∀ F H, Da p F H u3 σ S3) (d : Dk p F H) (l1 : ∀ v, S1 v → v.length ≤ 1000) (l2 : ∀ v, S2 v → v.length ≤ 1000) (l3 : ∀ v, S3 v → v.length ≤ 1000)
    (k : ∀ v1 v2 v3 q1 q2 q3 l F' H', S1 v1 → S2 v2 → S3 v3 → Ex F F' → Dk p F' H' → F' q1 = some (.tup v1) → F' q2 = some (.tup v2) → F' q3 = some (.tup v3) → F' l = some (.lst [.ref q1, .ref q2, .ref q3]) → tz D (σ.set i (some (.ref l))) H') :
    tSeq (tAsg (tLst (tCons (tTup u1) (tCons (tTup u2) (tCons (tTup u3) tNil)))) (gName i)) tz D σ H :=
  h1 F H H d (But.refl p H) _ fun v1 H1 d1 b1 r1 => ⟨Nat.le_trans (l1 v1 r1) (by decide), fun q1 hq1 => by
    have x1 := d1.freshF hq1
    have D1 := (d1.ex_ (Ex.new (o := .tup v1) hq1)).grow (F' := upd F q1 (.tup v1)) (Ex.new x1) (ex_upd_new (d1.ex.trans (Ex.new hq1)) upd_same) (by rw [upd_ne (d1.ne hq1).symm]; exact d1.no)
    refine h2 _ _ _ D1 (But.refl p _) _ fun v2 H2 d2 b2 r2 => ⟨Nat.le_trans (l2 v2 r2) (by decide), fun q2 hq2 => ?_⟩
    have x2 := d2.freshF hq2
    have D2 := (d2.ex_ (Ex.new (o := .tup v2) hq2)).grow (F' := upd (upd F q1 (.tup v1)) q2 (.tup v2)) (Ex.new x2) (ex_upd_new (d2.ex.trans (Ex.new hq2)) upd_same) (by rw [upd_ne (d2.ne hq2).symm]; exact d2.no)
    refine h3 _ _ _ D2 (But.refl p _) _ fun v3 H3 d3 b3 r3 => ⟨Nat.le_trans (l3 v3 r3) (by decide), fun q3 hq3 => ?_⟩
    have x3 := d3.freshF hq3
    have D3 := (d3.ex_ (Ex.new (o := .tup v3) hq3)).grow (F' := upd (upd (upd F q1 (.tup v1)) q2 (.tup v2)) q3 (.tup v3)) (Ex.new x3) (ex_upd_new (d3.ex.trans (Ex.new hq3)) upd_same) (by rw [upd_ne (d3.ne hq3).symm]; exact d3.no)
    refine ⟨by show 3 ≤ sizeLine; decide, fun l hl => ?_⟩
    have x4 := D3.freshF hl
    have D4 := (D3.ex_ (Ex.new (o := .lst [.ref q1, .ref q2, .ref q3]) hl)).grow (F' := upd (upd (upd (upd F q1 (.tup v1)) q2 (.tup v2)) q3 (.tup v3)) l (.lst [.ref q1, .ref q2, .ref q3])) (Ex.new x4) (ex_upd_new (D3.ex.trans (Ex.new hl)) upd_same) (by rw [upd_ne (D3.ne hl).symm]; exact D3.no)
    refine k v1 v2 v3 q1 q2 q3 l _ _ r1 r2 r3 ((((Ex.new x1).trans (Ex.new x2)).trans (Ex.new x3)).trans (Ex.new x4)) D4 ?_ ?_ ?_ upd_same
    · exact Ex.new x4 _ _ (Ex.new x3 _ _ (Ex.new x2 _ _ upd_same))
    · exact Ex.new x4 _ _ (Ex.new x3 _ _ upd_same)
    · exact Ex.new x4 _ _ upd_same⟩
end

/-! ### steps of the whole -/
theorem Dk.step {p : Addr} {S : Addr → Prop} {F H F' H' : Hp} (d : Dk p F H) (s : Stp S F H F' H') (n : ¬ S p) : Dk p F' H' := ⟨s.ex', s.fr p d.no d.some, let ⟨d0, d1, d2, d4, sa, ns, h, a, b, c⟩ := d.dk; ⟨d0, d1, d2, d4, sa, ns, s.kp _ _ n h, a, s.ex _ _ b, c⟩⟩
theorem MadeAt.step {T : Tx K mg} {ts : List Ent} {S : Addr → Prop} {F H F' H' : Hp} {ms : List Addr} {ps : List Pt} {sts : List (List Int)} (h : MadeAt T ts F H ms ps sts) (hst : sts.length = ps.length) (s : Stp S F H F' H') (n : ∀ m ∈ ms, ¬ S m) : MadeAt T ts F' H' ms ps sts :=
  h.mono s.ex (fun m hm => by
    obtain ⟨C, dx, fs, q⟩ := h.some hst hm
    exact s.fr m (h.no m hm) (by rw [q]; simp)) fun m hm o ho => s.kp m o (n m hm) ho
theorem MadeAt.np {T : Tx K mg} {ts : List Ent} {p : Addr} {F H : Hp} {ms : List Addr} {ps : List Pt} {sts : List (List Int)} (h : MadeAt T ts F H ms ps sts) (hst : sts.length = ps.length) (d : Dk p F H) : ∀ m ∈ ms, ¬ m = p := fun m hm e => by
  obtain ⟨C, dx, fs, q⟩ := h.some hst hm
  obtain ⟨xs, hp⟩ := d.lst
  rw [e, hp] at q
  cases q
theorem MadeAt.notin {T : Tx K mg} {ts : List Ent} {p : Addr} {F H : Hp} {ms : List Addr} {ps : List Pt} {sts : List (List Int)} (h : MadeAt T ts F H ms ps sts) (hst : sts.length = ps.length) (d : Dk p F H) : ¬ p ∈ ms := fun hm => h.np hst d p hm rfl
theorem stp_pure {S : Addr → Prop} {F H H' : Hp} (hF : Ex F H) (e : Ex H H') : Stp S F H F H' := (Stp.refl hF).pure e
/-- a list that was just made is laid to what stands -/
theorem stp_lst {S : Addr → Prop} {F H H' : Hp} {a : Addr} {o : HO} (hF : Ex F H) (e : Ex H H') (ha : H a = none) (h : H' a = some o) : Stp S F H (upd F a o) H' := (stp_pure hF e).freeze ha h
def IsPs (H : Hp) (es : List Addr) (ps : List Pt) : Prop := es.length = ps.length ∧ ∀ (i : Nat) (e : Addr) (p : Pt), es[i]? = some e → ps[i]? = some p → IsSp H e p
theorem IsPs.mono {H H' : Hp} {es : List Addr} {ps : List Pt} (e : Ex H H') (h : IsPs H es ps) : IsPs H' es ps := ⟨h.1, fun i x p h1 h2 => (h.2 i x p h1 h2).mono e⟩
theorem IsPs.snoc {H : Hp} {es : List Addr} {ps : List Pt} {e : Addr} {p : Pt} (h : IsPs H es ps) (he : IsSp H e p) : IsPs H (es ++ [e]) (ps ++ [p]) := by
  refine ⟨by simp [h.1], fun i a y h1 h2 => ?_⟩
  rcases snoc_get h1 with ⟨a1, a2⟩ | ⟨a1, a2⟩
  · rw [List.getElem?_append_left (by rw [← h.1]; exact a1)] at h2
    exact h.2 i a y a2 h2
  · subst a2
    rcases snoc_get h2 with ⟨b1, _⟩ | ⟨_, b2⟩
    · rw [← h.1] at b1; omega
    · subst b2; exact he
theorem chain_due (ts : List Ent) (p : Pt) (r : List Pt) (l : Nat) (xs : List Int) : (chainM ts (p :: r) l (inits (p :: r)) 0 xs).2 = (chainM ts r (l + latP p) (inits r) 0 (runP ts p (initP p) (-(l : Int)) xs).2).2 := by
  show (chainM ts (p :: r) l (initP p :: inits r) 0 xs).2 = _
  rw [chain_cons, Int.zero_sub]
theorem dpAll_ints {H : Hp} : ∀ xs : List Int, DpAll K H (xs.map V.int) (xs.map PyData.int)
  | [] => .nil
  | x :: r => .cons (.int x) (dpAll_ints r)
theorem eqvAll_ints : ∀ xs : List Int, PyData.eqvAll (xs.map PyData.int) (xs.map PyData.int) = true
  | [] => by simp [PyData.eqvAll]
  | x :: r => by simp [PyData.eqvAll, PyData.eqv, eqvAll_ints r]
theorem flat_block {bs : List (List Int)} {row : List Int} {i : Nat} {b : List Int} (hf : bs.flatten = row) (hb : bs[i]? = some b) : b = (row.drop (bs.take i).flatten.length).take b.length ∧ (bs.take i).flatten.length ≤ row.length ∧ (bs.take (i + 1)).flatten.length = (bs.take i).flatten.length + b.length := by
  have hi := List.getElem?_eq_some_iff.mp hb
  have e : bs = bs.take i ++ b :: bs.drop (i + 1) := by
    conv => lhs; rw [← List.take_append_drop i bs, List.drop_eq_getElem_cons hi.1, hi.2]
  have e2 : row = (bs.take i).flatten ++ (b ++ (bs.drop (i + 1)).flatten) := by
    rw [← hf]
    conv => lhs; rw [e]
    simp
  refine ⟨?_, ?_, ?_⟩
  · rw [e2, List.drop_left, List.take_left]
  · rw [e2, List.length_append]; omega
  · rw [take_snoc hb, flat_snoc, List.length_append]
def sp_law (T : Tx K mg) : Sp := fun vs H Q _ => ∃ (a : Addr) (ns : List Int), vs = [.ref a] ∧ SqL K H a (ns.map V.int) ∧ ns.length ≤ 63 ∧ ∀ H', Q (.bl true) H'
end K37

/-! K37, part 16: the law's walk. -/
namespace K37
open PySem L2 Evl
variable {P : Program} {w : World} {K : PySem.W.Frag} {mg : Str → Option Value} {base : Heap}

section
variable {σ : L2.St} {H : Hp} {te tl : TE} {tz : TS} {D : Ends}
/-- name = [f(x) for x in a list] -/
theorem q_asgLi {i j : Nat} {ws : List Nat} {a : Addr} {xs : List V} (h : Ev tl σ H (.ref a)) (hx : SqL K H a xs)
    (k : ∀ H1 Dl, Ex H H1 → H1 Dl = none → ∃ Pv : Nat → Hp → Prop, Pv 0 (upd H1 Dl (.lst [])) ∧ (∀ (m : Nat) H', Pv m H' → SqL K H' a xs) ∧ (∀ (m : Nat) x H', xs[m]? = some x → Pv m H' → wipe ((wipe σ ws).set j (some x)) ws = wipe σ ws ∧
        te ((wipe σ ws).set j (some x)) H' fun y H4 => ∃ acc, H4 Dl = some (.lst acc) ∧ acc.length < sizeLine ∧ Pv (m + 1) (upd H4 Dl (.lst (acc ++ [y])))) ∧ ∀ H', Pv xs.length H' → tz D (σ.set i (some (.ref Dl))) H') :
    tSeq (tAsg (tLc (iList K tl) (gName j) tYes te ws) (gName i)) tz D σ H := h H (Ex.refl H) _ fun H1 e1 => ⟨a, rfl, ⟨xs, ex_l e1 hx⟩, fun Dl hD => by
  obtain ⟨Pv, h0, hl, hs, hd⟩ := k H1 Dl e1 hD
  refine lc_list (xs := xs) Pv h0 (fun m H' _ q => hl m H' q) (fun m x H' hm q => ?_) hd
  obtain ⟨a, b⟩ := hs m x H' hm q
  refine ⟨a, ?_⟩
  dsimp only [tYes]
  rw [if_pos rfl]
  exact b⟩
end
section
variable {σ : L2.St} {F H : Hp} {te : TE} {t u : TS} {D : Ends} {p : Addr} {lo hi c : Int}
/-- if a drawn number == c -/
theorem d_if (h : Dv p F H te σ (Rg lo hi)) (d : Dk p F H) (k1 : ∀ H1, Dk p F H1 → But p H H1 → t D σ H1) (k2 : ∀ H1, Dk p F H1 → But p H H1 → u D σ H1) : tIfS (tTest (tOp rEq te (tC (.int c)))) t u D σ H :=
  h H d (But.refl p H) _ fun v H1 d1 b1 ⟨z, ez, _, _⟩ => by
    subst ez
    exact ⟨rfl, decide (V.int z = V.int c), rfl, ite2 (fun _ => k1 H1 d1 b1) (fun _ => k2 H1 d1 b1)⟩
end
theorem next_ {t : TS} {D : Ends} {σ : L2.St} {H : Hp} (h : t D σ H) : tNext { D with nx := t D } σ H := h
theorem nx_ {t : TS} {D : Ends} {σ : L2.St} {H : Hp} (h : t D σ H) : ({ D with nx := t D } : Ends).nx σ H := h
theorem chain_nil (ts : List Ent) : ∀ (ps : List Pt) (l : Nat) (m : Int), (chainM ts ps l (inits ps) m []).1 = inits ps
  | [], _, _ => rfl
  | p :: r, l, m => by
    show (chainM ts (p :: r) l (initP p :: inits r) m []).1 = initP p :: inits r
    rw [chain_cons]
    show _ :: (chainM ts r (l + latP p) (inits r) m []).1 = _
    rw [chain_nil ts r]; rfl
/-- while the states are laid back -/
structure RestAt (T : Tx K mg) (ts : List Ent) (F H : Hp) (ms : List Addr) (ps : List Pt) (sts : List (List Int)) (j : Nat) : Prop where
  dn : ∀ (i : Nat) (m : Addr) (p : Pt) (st : List Int), i < j → ms[i]? = some m → ps[i]? = some p → sts[i]? = some st → InstAt T ts F H m p st
  td : ∀ (i : Nat) (m : Addr) (p : Pt), j ≤ i → ms[i]? = some m → ps[i]? = some p → ∃ st, InstAt T ts F H m p st
theorem RestAt.step {T : Tx K mg} {ts : List Ent} {F H H' : Hp} {ms : List Addr} {ps : List Pt} {sts : List (List Int)} {j : Nat} {m : Addr} {p : Pt} {st : List Int} (h : RestAt T ts F H ms ps sts j) (nd : ms.Nodup) (hm : ms[j]? = some m) (hp : ps[j]? = some p) (hs : sts[j]? = some st)
    (s : Stp (· = m) F H F H') (I : InstAt T ts F H' m p st) : RestAt T ts F H' ms ps sts (j + 1) := by
  refine ⟨fun i x q r hi h1 h2 h3 => ?_, fun i x q hi h1 h2 => ?_⟩
  · by_cases hj : i = j
    · subst hj
      rw [hm] at h1; cases h1
      rw [hp] at h2; cases h2
      rw [hs] at h3; cases h3
      exact I
    · exact (h.dn i x q r (by omega) h1 h2 h3).mono (Ex.refl F) fun o ho => s.kp x o (fun z => hj (nd_ix nd h1 (by rw [z]; exact hm))) ho
  · obtain ⟨st', I'⟩ := h.td i x q (by omega) h1 h2
    exact ⟨st', I'.mono (Ex.refl F) fun o ho => s.kp x o (fun z => absurd (nd_ix nd h1 (by rw [z]; exact hm)) (by omega)) ho⟩
theorem RestAt.start {T : Tx K mg} {ts : List Ent} {F H : Hp} {ms : List Addr} {ps : List Pt} {st0 sts : List (List Int)} (h : MadeAt T ts F H ms ps st0) (hl : st0.length = ps.length) : RestAt T ts F H ms ps sts 0 := by
  refine ⟨fun i m p st hi => by omega, fun i m p _ h1 h2 => ?_⟩
  obtain ⟨s, hs⟩ : ∃ s, st0[i]? = some s := get_of_lt (by rw [hl]; exact (List.getElem?_eq_some_iff.mp h2).1)
  exact ⟨s, h.at_ i m p s h1 h2 hs⟩
theorem size_le {p : Pt} (h : PtOk p) : sizeP p ≤ 64 := by
  cases p with
  | line n => exact Nat.le_trans h (by decide)
  | pass => exact Nat.zero_le _
  | gain ps => exact Nat.zero_le _
  | delay n fb own => exact h.2.1
  | smooth n => show 1 ≤ 64; decide
  | ahead n c => exact Nat.le_trans h.2.1 (by decide)
/-- what the law has made ahead of the blocks -/
structure LawF (F : Hp) (tp : Addr) (ts : List Ent) (pa : Addr) (pts : List Pt) (ra : Addr) (row : List Int) (la : Addr) : Prop where
  tp : IsTs F tp ts
  tok : TsOk ts
  pa : IsParts F pa pts
  pk : ∀ q ∈ pts, PtOk q
  pl : pts.length ≤ 5
  ra : F ra = some (.lst (row.map V.int))
  rk : ∀ x ∈ row, Smp x
  rl : row.length ≤ 70
  la : F la = some (.lst ((latesM 0 pts).map V.int))
theorem LawF.mono {F F' : Hp} {tp pa ra la : Addr} {ts : List Ent} {pts : List Pt} {row : List Int} (h : LawF F tp ts pa pts ra row la) (e : Ex F F') : LawF F' tp ts pa pts ra row la := ⟨h.tp.mono e, h.tok, h.pa.mono e, h.pk, h.pl, e _ _ h.ra, h.rk, h.rl, e _ _ h.la⟩
theorem ok_law (T : Tx K mg) : FnOk P w K mg base CX0 7 T.a_law T.d_law P_law (sp_law T) := by
  refine T.F_law.ok sc_law (fun vs H Q E h => ?_) (fun cdv A outer s H vs Q E hr h => ?_)
  · obtain ⟨a, ns, rfl, _⟩ := h
    rfl
  · obtain ⟨sc, ns, rfl, hS, hns, k⟩ := h
    refine ⟨_, (pss_cons (ps_set (i := 1) sc_law.nd rfl (.inr rfl) (pe_call (ok_l_deck T) (hr.mono (by decide)) (by rfl) T.g_l_deck T.F_l_deck.kp T.b_l_deck .nil pass0 (pa_cons (pv 0) pa_nil))) (pss_cons (ps_set (i := 2) sc_law.nd rfl (.inl rfl) (pe_call (ok_l_tempo T) (hr.mono (by decide)) (by rfl) T.g_l_tempo T.F_l_tempo.kp T.b_l_tempo .nil pass0 (pa_cons (pv 1) pa_nil))) (pss_cons (ps_setLc (i := 3) (own := [("_law_k", 7)]) (g := (gName 7)) (tt := tYes) (te := (tCall (sp_l_part T) [] E0 (tCons (tVar 1) tNil))) rfl sc_law.nd rfl rfl (sw_true rfl rfl rfl (by decide +kernel)) (pi_range1 (by rfl) T.z_range (pa_cons (pe_op op_add pe_int (pe_call (ok_l_draw T) (hr.mono (by decide)) (by rfl) T.g_l_draw T.F_l_draw.kp T.b_l_draw .nil pass0 (pa_cons (pv 1) (pa_cons pe_int pa_nil)))) pa_nil)) (blkOk_by (N := N_law) (sc := defScope s_law) (by decide +kernel)) (fun _ _ _ _ _ => (pg_name (i := 7) sc_law.nd rfl (.inl rfl))) (fun _ _ _ _ _ => pts_nil) (fun _ _ _ _ _ => (pe_call (ok_l_part T) (hr.mono (by decide)) (by rfl) T.g_l_part T.F_l_part.kp T.b_l_part .nil pass0 (pa_cons (pv 1) pa_nil)))) (pss_cons (ps_set (i := 4) sc_law.nd rfl (.inl rfl) (pe_call (ok_l_samples T) (hr.mono (by decide)) (by rfl) T.g_l_samples T.F_l_samples.kp T.b_l_samples .nil pass0 (pa_cons (pv 1) (pa_cons pe_int pa_nil)))) (pss_cons (ps_set (i := 5) sc_law.nd rfl (.inl rfl) (pe_call (ok_l_late T) (hr.mono (by decide)) (by rfl) T.g_l_late T.F_l_late.kp T.b_l_late .nil pass0 (pa_cons (pv 3) pa_nil))) (pss_cons (ps_set (i := 6) sc_law.nd rfl (.inl rfl) (pv 4)) (pss_cons (ps_for PassesOwn.never rfl (pi_range1 (by rfl) T.z_range (pa_cons (pe_callB call_len_seq (by rfl) T.z_len (by decide +kernel) (pa_cons (pv 3) pa_nil)) pa_nil)) (pg_name (i := 7) sc_law.nd rfl (.inl rfl)) (pss_one (ps_if (pt_cmpR op_eq (pe_ix ix_seq (pe_ix ix_seq (pv 3) (pv 7) (fun _ _ => rfl)) pe_int (fun _ _ => rfl)) pe_str (nomark _)) (pss_one (ps_set (i := 6) sc_law.nd rfl (.inl rfl) (pe_slice sl_list (pe_op op_cat (pe_lc (own := [("_law_j", 15)]) (g := (gName 15)) (tt := tYes) (te := (tC (.int 0))) rfl sc_law.nd (pi_range1 (by rfl) T.z_range (pa_cons (pe_ix ix_seq (pe_ix ix_seq (pv 3) (pv 7) (fun _ _ => rfl)) pe_int (fun _ _ => rfl)) pa_nil)) (blkOk_by (N := N_law) (sc := defScope s_law) (by decide +kernel)) (fun _ _ _ _ _ => (pg_name (i := 15) sc_law.nd rfl (.inl rfl))) (fun _ _ _ _ _ => pts_nil) (fun _ _ _ _ _ => pe_int)) (pv 6)) po_none (po_some (pe_callB call_len_seq (by rfl) T.z_len (by decide +kernel) (pa_cons (pv 6) pa_nil)))))) (pss_one (ps_set (i := 6) sc_law.nd rfl (.inl rfl) (pe_call (ok_l_meant T) (hr.mono (by decide)) (by rfl) T.g_l_meant T.F_l_meant.kp T.b_l_meant .nil pass0 (pa_cons (pe_ix ix_seq (pv 3) (pv 7) (fun _ _ => rfl)) (pa_cons (pv 2) (pa_cons (pv 6) (pa_cons (pe_un un_neg (pe_ix ix_seq (pv 5) (pv 7) (fun _ _ => rfl))) pa_nil)))))))))) (pss_cons (ps_set (i := 8) sc_law.nd rfl (.inl rfl) (pe_call (ok_l_made T) (hr.mono (by decide)) (by rfl) T.g_l_made T.F_l_made.kp T.b_l_made .nil pass0 (pa_cons (pv 3) (pa_cons (pv 2) pa_nil)))) (pss_cons (ps_set (i := 9) sc_law.nd rfl (.inl rfl) pe_int) (pss_cons (ps_for PassesOwn.never rfl (pi_list (pe_call (ok_l_blocks T) (hr.mono (by decide)) (by rfl) T.g_l_blocks T.F_l_blocks.kp T.b_l_blocks .nil pass0 (pa_cons (pv 1) (pa_cons (pv 4) pa_nil)))) (pg_name (i := 10) sc_law.nd rfl (.inl rfl)) (pss_cons (ps_if (pt_not (pt_val (pe_call (ok_l_is_row T) (hr.mono (by decide)) (by rfl) T.g_l_is_row T.F_l_is_row.kp T.b_l_is_row .nil pass0 (pa_cons (pe_call (ok_l_sent T) (hr.mono (by decide)) (by rfl) T.g_l_sent T.F_l_sent.kp T.b_l_sent .nil pass0 (pa_cons (pv 3) (pa_cons (pv 8) (pa_cons (pv 5) (pa_cons (pv 10) (pa_cons (pv 9) pa_nil)))))) (pa_cons (pe_slice sl_list (pv 6) (po_some (pv 9)) (po_some (pe_op op_add (pv 9) (pe_callB call_len_seq (by rfl) T.z_len (by decide +kernel) (pa_cons (pv 10) pa_nil))))) pa_nil))))) (pss_one (ps_ret pe_bl)) pss_nil) (pss_cons (ps_set (i := 9) sc_law.nd rfl (.inl rfl) (pe_op op_add (pv 9) (pe_callB call_len_seq (by rfl) T.z_len (by decide +kernel) (pa_cons (pv 10) pa_nil)))) (pss_cons (ps_set (i := 11) sc_law.nd rfl (.inl rfl) (pe_call (ok_l_draw T) (hr.mono (by decide)) (by rfl) T.g_l_draw T.F_l_draw.kp T.b_l_draw .nil pass0 (pa_cons (pv 1) (pa_cons pe_int pa_nil)))) (pss_one (ps_if (pt_cmpR op_eq (pv 11) pe_int (nomark _)) (pss_cons (ps_setLc (i := 12) (own := [("_law_part_here", 16)]) (g := (gName 16)) (tt := tYes) (te := (tAlt (tMeth T.c_DelayLine "state" (sp_DelayLine_state T) [] E0 (tVar 16) tNil) (tAlt (tMeth T.c_Pass "state" (sp_Pass_state T) [] E0 (tVar 16) tNil) (tAlt (tMeth T.c_Gain "state" (sp_Gain_state T) [] E0 (tVar 16) tNil) (tAlt (tMeth T.c_Delay "state" (sp_Delay_state T) [] E0 (tVar 16) tNil) (tAlt (tMeth T.c_Smooth "state" (sp_Smooth_state T) [] E0 (tVar 16) tNil) (tMeth T.c_Ahead "state" (sp_Ahead_state T) [] E0 (tVar 16) tNil))))))) rfl sc_law.nd rfl rfl (sw_true rfl rfl rfl (by decide +kernel)) (pi_list (pv 8)) (blkOk_by (N := N_law) (sc := defScope s_law) (by decide +kernel)) (fun _ _ _ _ _ => (pg_name (i := 16) sc_law.nd rfl (.inl rfl))) (fun _ _ _ _ _ => pts_nil) (fun _ _ _ _ _ => (pe_alt (pe_meth0 (pv 16) T.cl_DelayLine T.m_DelayLine_state (ok_DelayLine_state T) (hr.mono (by decide)) T.b_DelayLine_state .nil pass0) (pe_alt (pe_meth0 (pv 16) T.cl_Pass T.m_Pass_state (ok_Pass_state T) (hr.mono (by decide)) T.b_Pass_state .nil pass0) (pe_alt (pe_meth0 (pv 16) T.cl_Gain T.m_Gain_state (ok_Gain_state T) (hr.mono (by decide)) T.b_Gain_state .nil pass0) (pe_alt (pe_meth0 (pv 16) T.cl_Delay T.m_Delay_state (ok_Delay_state T) (hr.mono (by decide)) T.b_Delay_state .nil pass0) (pe_alt (pe_meth0 (pv 16) T.cl_Smooth T.m_Smooth_state (ok_Smooth_state T) (hr.mono (by decide)) T.b_Smooth_state .nil pass0) (pe_meth0 (pv 16) T.cl_Ahead T.m_Ahead_state (ok_Ahead_state T) (hr.mono (by decide)) T.b_Ahead_state .nil pass0)))))))) (pss_cons (ps_expr (pe_call (ok_l_sent T) (hr.mono (by decide)) (by rfl) T.g_l_sent T.F_l_sent.kp T.b_l_sent .nil pass0 (pa_cons (pv 3) (pa_cons (pv 8) (pa_cons (pv 5) (pa_cons (pe_call (ok_l_samples T) (hr.mono (by decide)) (by rfl) T.g_l_samples T.F_l_samples.kp T.b_l_samples .nil pass0 (pa_cons (pv 1) (pa_cons pe_int pa_nil))) (pa_cons (pv 9) pa_nil))))))) (pss_cut (ps_if (pt_cmpR op_eq (pe_call (ok_l_draw T) (hr.mono (by decide)) (by rfl) T.g_l_draw T.F_l_draw.kp T.b_l_draw .nil pass0 (pa_cons (pv 1) (pa_cons pe_int pa_nil))) pe_int (nomark _)) (pss_one (ps_set (i := 8) sc_law.nd rfl (.inl rfl) (pe_call (ok_l_made T) (hr.mono (by decide)) (by rfl) T.g_l_made T.F_l_made.kp T.b_l_made .nil pass0 (pa_cons (pv 3) (pa_cons (pv 2) pa_nil))))) pss_nil) (pss_one (ps_for PassesOwn.never rfl (pi_range1 (by rfl) T.z_range (pa_cons (pe_callB call_len_seq (by rfl) T.z_len (by decide +kernel) (pa_cons (pv 3) pa_nil)) pa_nil)) (pg_name (i := 7) sc_law.nd rfl (.inl rfl)) (pss_one (ps_expr (pe_alt (pe_meth (pe_ix ix_seq (pv 8) (pv 7) (fun _ _ => rfl)) T.cl_DelayLine T.m_DelayLine_restore (ok_DelayLine_restore T) (hr.mono (by decide)) T.b_DelayLine_restore .nil pass0 (pa_cons (pe_ix ix_seq (pv 12) (pv 7) (fun _ _ => rfl)) pa_nil)) (pe_alt (pe_meth (pe_ix ix_seq (pv 8) (pv 7) (fun _ _ => rfl)) T.cl_Pass T.m_Pass_restore (ok_Pass_restore T) (hr.mono (by decide)) T.b_Pass_restore .nil pass0 (pa_cons (pe_ix ix_seq (pv 12) (pv 7) (fun _ _ => rfl)) pa_nil)) (pe_alt (pe_meth (pe_ix ix_seq (pv 8) (pv 7) (fun _ _ => rfl)) T.cl_Gain T.m_Gain_restore (ok_Gain_restore T) (hr.mono (by decide)) T.b_Gain_restore .nil pass0 (pa_cons (pe_ix ix_seq (pv 12) (pv 7) (fun _ _ => rfl)) pa_nil)) (pe_alt (pe_meth (pe_ix ix_seq (pv 8) (pv 7) (fun _ _ => rfl)) T.cl_Delay T.m_Delay_restore (ok_Delay_restore T) (hr.mono (by decide)) T.b_Delay_restore .nil pass0 (pa_cons (pe_ix ix_seq (pv 12) (pv 7) (fun _ _ => rfl)) pa_nil)) (pe_alt (pe_meth (pe_ix ix_seq (pv 8) (pv 7) (fun _ _ => rfl)) T.cl_Smooth T.m_Smooth_restore (ok_Smooth_restore T) (hr.mono (by decide)) T.b_Smooth_restore .nil pass0 (pa_cons (pe_ix ix_seq (pv 12) (pv 7) (fun _ _ => rfl)) pa_nil)) (pe_meth (pe_ix ix_seq (pv 8) (pv 7) (fun _ _ => rfl)) T.cl_Ahead T.m_Ahead_restore (ok_Ahead_restore T) (hr.mono (by decide)) T.b_Ahead_restore .nil pass0 (pa_cons (pe_ix ix_seq (pv 12) (pv 7) (fun _ _ => rfl)) pa_nil)))))))))))))) pss_nil)))))) (pss_cons (ps_set (i := 13) sc_law.nd rfl (.inl rfl) (pe_lst (pa_cons (pe_tup (pa_cons pe_str (pa_cons (pe_op op_add pe_int (pe_call (ok_l_draw T) (hr.mono (by decide)) (by rfl) T.g_l_draw T.F_l_draw.kp T.b_l_draw .nil pass0 (pa_cons (pv 1) (pa_cons pe_int pa_nil)))) (pa_cons pe_int pa_nil)))) (pa_cons (pe_tup (pa_cons pe_str (pa_cons (pe_call (ok_l_draw T) (hr.mono (by decide)) (by rfl) T.g_l_draw T.F_l_draw.kp T.b_l_draw .nil pass0 (pa_cons (pv 1) (pa_cons pe_int pa_nil))) pa_nil))) (pa_cons (pe_tup (pa_cons pe_str (pa_cons (pe_op op_add pe_int (pe_call (ok_l_draw T) (hr.mono (by decide)) (by rfl) T.g_l_draw T.F_l_draw.kp T.b_l_draw .nil pass0 (pa_cons (pv 1) (pa_cons pe_int pa_nil)))) (pa_cons pe_int pa_nil)))) pa_nil))))) (pss_cons (ps_set (i := 5) sc_law.nd rfl (.inl rfl) (pe_call (ok_l_late T) (hr.mono (by decide)) (by rfl) T.g_l_late T.F_l_late.kp T.b_l_late .nil pass0 (pa_cons (pv 13) pa_nil))) (pss_cons (ps_set (i := 14) sc_law.nd rfl (.inl rfl) (pe_op op_cat (pe_lc (own := [("_law_k", 7)]) (g := (gName 7)) (tt := tYes) (te := (tC (.int 0))) rfl sc_law.nd (pi_range1 (by rfl) T.z_range (pa_cons (pe_ix ix_seq (pv 5) (pe_un un_neg pe_int) (fun _ _ => rfl)) pa_nil)) (blkOk_by (N := N_law) (sc := defScope s_law) (by decide +kernel)) (fun _ _ _ _ _ => (pg_name (i := 7) sc_law.nd rfl (.inl rfl))) (fun _ _ _ _ _ => pts_nil) (fun _ _ _ _ _ => pe_int)) (pe_lst (pa_cons pe_int pa_nil)))) (pss_one (ps_ret (pe_cmpR (op_eqD hr.units) (pe_call (ok_l_sent T) (hr.mono (by decide)) (by rfl) T.g_l_sent T.F_l_sent.kp T.b_l_sent .nil pass0 (pa_cons (pv 13) (pa_cons (pe_call (ok_l_made T) (hr.mono (by decide)) (by rfl) T.g_l_made T.F_l_made.kp T.b_l_made .nil pass0 (pa_cons (pv 13) (pa_cons (pv 2) pa_nil))) (pa_cons (pv 5) (pa_cons (pe_op op_cat (pe_lst (pa_cons pe_int pa_nil)) (pe_lc (own := [("_law_k", 7)]) (g := (gName 7)) (tt := tYes) (te := (tC (.int 0))) rfl sc_law.nd (pi_range1 (by rfl) T.z_range (pa_cons (pe_ix ix_seq (pv 5) (pe_un un_neg pe_int) (fun _ _ => rfl)) pa_nil)) (blkOk_by (N := N_law) (sc := defScope s_law) (by decide +kernel)) (fun _ _ _ _ _ => (pg_name (i := 7) sc_law.nd rfl (.inl rfl))) (fun _ _ _ _ _ => pts_nil) (fun _ _ _ _ _ => pe_int))) (pa_cons pe_int pa_nil)))))) (pv 14) (nomark _))))))))))))))))), ?_⟩
    refine q_asgC (ea_cons (ev_var rfl) ea_nil) fun H1 e1 => ⟨sc, ns, rfl, ex_l e1 hS, by omega, fun p F1 H2 eF hp d1 => ?_⟩
    refine q_asgC (ea_cons (ev_var rfl) ea_nil) fun H3 e3 => ⟨p, F1, rfl, d1.ex_ e3, fun tp ts F2 H4 s2 d2 hts hTs => ?_⟩
    refine d_asgLC (lo := 1) (hi := 6) (dv_is (dv_add (dv_i dv_c) (dv_draw T (b := 5) (dv_var rfl) (dv_i dv_c) ⟨by decide, by decide⟩)) fun v ⟨z, ez, z1, z2⟩ => ⟨z, ez, by omega, by omega⟩) d2 ⟨by decide, by decide⟩ fun n H5 Dl hn1 hn2 d5 b5 hDl => ⟨fun i H' => ∃ (F' : Hp) (es : List Addr) (pts : List Pt), Ex F2 F' ∧ Dk p F' H' ∧ F' Dl = none ∧ H' Dl = some (.lst (es.map V.ref)) ∧ pts.length = i ∧ IsPs F' es pts ∧ ∀ q ∈ pts, PtOk q, ?_, ?_, ?_⟩
    · exact ⟨F2, [], [], Ex.refl _, d5.updl (d5.freshF hDl) (d5.ne hDl), d5.freshF hDl, upd_same, rfl, ⟨rfl, fun i e x h => by simp at h⟩, (fun x hx => nomatch hx)⟩
    · rintro i H' hi ⟨F', es, pts, eF', d6, hFD, hD, hl, hps, hpk⟩
      refine ⟨rfl, t_call (ea_cons (ev_var rfl) ea_nil) fun H6 e6 => ⟨p, F', rfl, d6.ex_ e6, fun a pt F'' H7 s7 d7 hsp hpt => ?_⟩⟩
      have hD7 := s7.kp _ _ (d5.ne hDl) (e6 _ _ hD)
      have hFD7 := s7.fr Dl hFD (by rw [e6 _ _ hD]; simp)
      refine ⟨es.map V.ref, hD7, sz_lt (by rw [List.length_map, hps.1]; omega), F'', es ++ [a], pts ++ [pt], eF'.trans s7.ex, d7.updl hFD7 (d5.ne hDl), hFD7, by rw [upd_same, List.map_append]; rfl, by rw [List.length_append, hl]; rfl, (hps.mono s7.ex).snoc hsp, fun q hq => ?_⟩
      rcases List.mem_append.mp hq with q1 | q1
      · exact hpk q q1
      · rw [List.mem_singleton.mp q1]; exact hpt
    · rintro H6 ⟨F3, es, pts, eF3, d6, hFD, hD, hl, hps, hpk⟩
      have hP : IsParts (upd F3 Dl (.lst (es.map V.ref))) Dl pts := ⟨es, upd_same, hps.1, fun i e p h1 h2 => (hps.2 i e p h1 h2).mono (Ex.new hFD)⟩
      have d7 : Dk p (upd F3 Dl (.lst (es.map V.ref))) H6 := d6.grow (Ex.new hFD) (ex_upd_new d6.ex hD) (by rw [upd_ne (d5.ne hDl).symm]; exact d6.no)
      have hts7 := hts.mono (eF3.trans (Ex.new (o := .lst (es.map V.ref)) hFD))
      refine q_asgC (ea_cons (ev_var rfl) (ea_cons ev_c ea_nil)) fun H7 e7 => ⟨p, upd F3 Dl (.lst (es.map V.ref)), 70, rfl, d7.ex_ e7, by decide, fun ra row H8 d8 b8 hr0 hr1 hrl hrs => ?_⟩
      have hFr := (d7.ex_ e7).freshF hr0
      have d9 : Dk p (upd (upd F3 Dl (.lst (es.map V.ref))) ra (.lst (row.map V.int))) H8 := d8.grow (Ex.new hFr) (ex_upd_new d8.ex hr1) (by rw [upd_ne ((d7.ex_ e7).ne hr0).symm]; exact d8.no)
      refine q_asgC (ea_cons (ev_var rfl) ea_nil) fun H9 e9 => ⟨Dl, _, pts, rfl, d9.ex.trans e9, hP.mono (Ex.new hFr), by omega, fun la F6 H10 s6 hla => ?_⟩
      have d10 : Dk p F6 H10 := (d9.ex_ e9).step s6 (fun h => h)
      have G : LawF F6 tp ts Dl pts ra row la := ⟨(hts7.mono (Ex.new hFr)).mono s6.ex, hTs, (hP.mono (Ex.new hFr)).mono s6.ex, hpk, by omega, s6.ex _ _ upd_same, hrs, hrl, hla⟩
      clear hP d9 hla hps hpk hts7 hts hTs d7 d8 s6 e9 e7 b8 hr0 hr1 hrl hrs hFr hD d6 hFD eF3 b5 d5 hDl d2 s2 d1 eF hp e1 e3
      refine q_asg (ev_var rfl) fun H11 e11 => ?_
      obtain ⟨es, hpa, hel, hes⟩ := G.pa
      have hil : (inits pts).length = pts.length := by unfold inits; rw [List.length_map]
      refine q_forR1 (n := ((es.map V.ref).length : Nat)) (ea_cons (ev_len (ev_var rfl) (sq_of ((d10.ex.trans e11) _ _ hpa))) ea_nil) ⟨by omega, by rw [List.length_map, hel]; have := G.pl; omega⟩ (fun i σ' H' => ∃ (F' : Hp) (du : Addr) (xs : List Int) (l : Nat) (x7 : Option V), σ' = [some (.ref sc), some (.ref p), some (.ref tp), some (.ref Dl), some (.ref ra), some (.ref la), some (.ref du), x7, none, none, none, none, none, none, none, none, none] ∧ Ex F6 F' ∧ Dk p F' H' ∧ F' du = some (.lst (xs.map V.int)) ∧ (∀ x ∈ xs, Smp x) ∧ xs.length = row.length ∧ (latesM 0 pts)[i]? = some (l : Int) ∧ (chainM ts (pts.drop i) l (inits (pts.drop i)) 0 xs).2 = (chainM ts pts 0 (inits pts) 0 row).2)
        (fun H12 e12 => ⟨F6, ra, row, 0, none, rfl, Ex.refl _, (d10.ex_ e11).ex_ e12, G.ra, G.rk, rfl, by cases pts <;> rfl, rfl⟩) ?_ ?_
      · rintro i σ' H' hi ⟨F', du, xs, l, x7, rfl, eF, d, hdu, hxs, hxl, hll, hch⟩
        have G := G.mono eF
        have hip : i < pts.length := by rw [List.length_map, hel] at hi; omega
        obtain ⟨pt, hpt⟩ : ∃ pt, pts[i]? = some pt := get_of_lt hip
        obtain ⟨e, he⟩ : ∃ e, es[i]? = some e := get_of_lt (by rw [hel]; exact hip)
        have hsp := (hes i e pt he hpt).mono eF
        have hspH := hsp.mono d.ex
        have hpi := List.getElem?_eq_some_iff.mp hpt
        have dp : pts.drop i = pt :: pts.drop (i + 1) := by rw [← hpi.2]; exact List.drop_eq_getElem_cons hpi.1
        rw [dp, chain_due] at hch
        obtain ⟨l', hl1, hl2⟩ := lates_get pts 0 i pt hpt
        have hll' : l' = l := by
          rw [hll] at hl1
          have := Option.some.inj hl1
          omega
        subst hll'
        have hpaH := d.ex _ _ (eF _ _ hpa)
        have hpk := G.pk pt (mem_of_get hpt)
        have hrl := G.rl
        have fin : ∀ q F2 H2, Stp S0 F' H' F2 H2 → F2 q = some (.lst ((runP ts pt (initP pt) (-(l' : Int)) xs).2.map V.int)) → ∃ (F' : Hp) (du : Addr) (xs : List Int) (l : Nat) (x7 : Option V), [some (V.ref sc), some (.ref p), some (.ref tp), some (.ref Dl), some (.ref ra), some (.ref la), some (.ref q), some (.int (i : Int)), none, none, none, none, none, none, none, none, none] = [some (V.ref sc), some (.ref p), some (.ref tp), some (.ref Dl), some (.ref ra), some (.ref la), some (.ref du), x7, none, none, none, none, none, none, none, none, none] ∧ Ex F6 F' ∧ Dk p F' H2 ∧ F' du = some (.lst (xs.map V.int)) ∧ (∀ x ∈ xs, Smp x) ∧ xs.length = row.length ∧ (latesM 0 pts)[i + 1]? = some (l : Int) ∧ (chainM ts (pts.drop (i + 1)) l (inits (pts.drop (i + 1))) 0 xs).2 = (chainM ts pts 0 (inits pts) 0 row).2 := fun q F2 H2 s hq =>
          ⟨F2, q, _, l' + latP pt, _, rfl, eF.trans s.ex, d.step s (fun h => h), hq, (run_ok hpk (init_ok pt) hxs).2, by rw [run_len]; exact hxl, hl2, hch⟩
        by_cases hpl : ∃ n, pt = .line n
        · obtain ⟨n, rfl⟩ := hpl
          have hn : n ≤ 20 := hpk
          refine s_if (et_kw (b := true) (ev_op (ev_var rfl) (ev_var rfl) (rv_iL (sq_of hpaH) (at_map he))) hspH (show decide (("line" : Str) = "line") = true by decide +kernel)) (fun _ H2 e2 => ?_) (fun hb => absurd hb (by decide))
          have hdu2 := (d.ex.trans e2) _ _ hdu
          refine s_asgL (el_is (el_slN (el_catW (el_mapR1 (n := n) (zv n) (zv_len n) (ea_cons (ev_op (ev_op (ev_var rfl) (ev_var rfl) (rv_iL (sq_of (e2 _ _ hpaH)) (at_map he))) ev_c (rv_iT (st_of (hspH.mono e2)) rfl)) ea_nil) (by omega) (fun _ => rfl) fun i y H3 e3 hy => by rw [zv_get hy]; exact ev_c) (ev_var rfl) hdu2 (by rw [zv_len, List.length_map]; omega)) eo_none (eo_some (ev_len (ev_var rfl) (sq_of hdu2)))) (show _ = ((zer n ++ xs).take xs.length).map V.int from ?_)) fun q H3 hq e3 h3 => ?_
          · rw [show zv n ++ xs.map V.int = (zer n ++ xs).map V.int from (List.map_append ..).symm, List.length_map, cut_takeI (by rw [List.length_append]; omega)]
          · have s3 := ((Stp.refl (S := S0) d.ex).pure (e2.trans e3)).freeze (fresh_back e2 hq) h3
            refine fin q _ H3 s3 ?_
            rw [upd_same, run_line]; rfl
        · have hnl : ∀ n, pt ≠ .line n := fun n h => hpl ⟨n, h⟩
          refine s_if (et_kw (b := false) (ev_op (ev_var rfl) (ev_var rfl) (rv_iL (sq_of hpaH) (at_map he))) hspH (kw_line hnl)) (fun hb => absurd hb (by decide)) (fun _ H2 e2 => ?_)
          refine s_asgC (ea_cons (ev_op (ev_var rfl) (ev_var rfl) (rv_iL (sq_of (e2 _ _ hpaH)) (at_map he))) (ea_cons (ev_var rfl) (ea_cons (ev_var rfl) (ea_cons (ev_neg (ev_op (ev_var rfl) (ev_var rfl) (rv_iL (sq_of ((d.ex.trans e2) _ _ G.la)) (at_map hll)))) ea_nil)))) fun H3 e3 => ?_
          have e23 := e2.trans e3
          exact ⟨e, tp, du, -(l' : Int), F', ts, pt, xs, rfl, d.ex.trans e23, hsp, hnl, hpk, G.tp, G.tok, hdu, hxs, by omega, fun q F'' H4 s4 hq => fin q F'' H4 (((Stp.refl (S := S0) d.ex).pure e23).trans s4 fun b hb => .inl hb) hq⟩
      · rintro σ' H' ⟨F', du, xs, l, x7, rfl, eF, d, hdu, hxs, hxl, hll, hch⟩
        rw [List.length_map, hel, show ((pts.length : Nat) : Int).toNat = pts.length by omega, List.drop_length] at hch
        have hch : xs = (chainM ts pts 0 (inits pts) 0 row).2 := hch
        subst hch
        have G := G.mono eF
        clear hxs hxl hll hes hpa hel eF d10 e11 
        refine q_asgC (ea_cons (ev_var rfl) (ea_cons (ev_var rfl) ea_nil)) fun H2 e2 => ⟨Dl, tp, F', pts, ts, rfl, d.ex.trans e2, G.pa, G.pk, by have := G.pl; omega, G.tp, G.tok, fun qm ms F7 H3 s7 hqm hM hfr => ?_⟩
        have d7 : Dk p F7 H3 := (d.ex_ e2).step s7 (fun h => h)
        have G := G.mono s7.ex
        have hdu7 := s7.ex _ _ hdu
        refine q_asg ev_c fun H4 e4 => ?_
        refine q_forC (ea_cons (ev_var rfl) (ea_cons (ev_var rfl) ea_nil)) fun H5 e5 => ⟨p, ra, F7, row, rfl, (d7.ex_ e4).ex_ e5, G.ra, by have := G.rl; omega, fun qb bl bs F8 H6 s8 d8 hqb hIR hfl hbl => ⟨qb, rfl, ⟨_, sq_of (s8.ex' _ _ hqb)⟩, ?_⟩⟩
        have hM8 : MadeAt T ts F8 H6 ms pts (inits pts) := (hM.mono (Ex.refl F7) hM.no fun m _ o ho => (e4.trans e5) _ _ ho).step hil s8 (hM.np hil d7)
        have G := G.mono s8.ex
        have hdu8 := s8.ex _ _ hdu7
        have hqm8 := s8.ex _ _ hqm
        refine for_list (xs := bl.map V.ref) (fun i σ' H' => ∃ (F' : Hp) (qm : Addr) (ms : List Addr) (n : Nat) (x7 x10 x11 x12 : Option V), σ' = [some (.ref sc), some (.ref p), some (.ref tp), some (.ref Dl), some (.ref ra), some (.ref la), some (.ref du), x7, some (.ref qm), some (.int (n : Int)), x10, x11, x12, none, none, none, none] ∧ Ex F8 F' ∧ Dk p F' H' ∧ n = (bs.take i).flatten.length ∧
            F' qm = some (.lst (ms.map V.ref)) ∧ MadeAt T ts F' H' ms pts (chainM ts pts 0 (inits pts) 0 (row.take n)).1) ?_ ?_ ?_ ?_
        · refine ⟨F8, qm, ms, 0, x7, none, none, none, rfl, Ex.refl _, d8, rfl, hqm8, ?_⟩
          rw [List.take_zero, chain_nil]
          exact hM8
        · rintro i σ' H' _ ⟨F', qm, ms, n, x7, x10, x11, x12, rfl, eF, d, _⟩
          exact sq_of (d.ex _ _ (eF _ _ hqb))
        · rintro i v σ' H' hv ⟨F', qm, ms, n, x7, x10, x11, x12, rfl, eF, d, hn, hqm, hM⟩
          obtain ⟨b, rfl, hb⟩ := ref_get hv
          obtain ⟨blk, hblk⟩ : ∃ blk, bs[i]? = some blk := get_of_lt (by rw [← hIR.1]; exact (List.getElem?_eq_some_iff.mp hb).1)
          have hbF := eF _ _ (hIR.2 i b blk hb hblk)
          obtain ⟨f1, f2, f3⟩ := flat_block hfl hblk
          rw [← hn] at f1 f2 f3
          have G := G.mono eF
          have hduF := eF _ _ hdu8
          have cb := chain_block (ts := ts) G.pk G.rk f1 f2
          have hblkS : ∀ x ∈ blk, Smp x := fun x hx => by rw [f1] at hx; exact G.rk x (List.mem_of_mem_drop (List.mem_of_mem_take hx))
          have hblkL : blk.length ≤ 70 := by
            have := congrArg List.length f1
            rw [List.length_take, List.length_drop] at this
            have := G.rl
            omega
          have hS := (chain_ok (ts := ts) (l := 0) (m := 0) (inits_ok G.pk) (xs := row.take n) (fun x hx => G.rk x (List.mem_of_mem_take hx))).1
          have hM := hM
          refine q_ifC (ea_cons (ev_var rfl) (ea_cons (ev_var rfl) (ea_cons (ev_var rfl) (ea_cons (ev_var rfl) (ea_cons (ev_var rfl) ea_nil))))) fun H2 e2 => ⟨ts, F', Dl, qm, la, b, pts, ms, _, blk, (n : Int), rfl, d.ex.trans e2, G.tok, G.pa, by have := G.pl; omega, hqm, G.la, hbF, hblkS, by omega, hS, hM.mono (Ex.refl F') hM.no (fun m _ o ho => e2 _ _ ho), fun q F2 H3 s3 hM3 hq => ?_⟩
          rw [cb] at hM3 hq
          have d3 : Dk p F2 H3 := (d.ex_ e2).step s3 (hM.notin hS.len d)
          have eF2 := eF.trans s3.ex
          refine el_is (el_sl (ev_var rfl) (eo_some (ev_var rfl)) (eo_some (i := ((n + blk.length : Nat) : Int)) (ev_is (ev_op (ev_var rfl) (ev_len (ev_var rfl) (sq_of ((s3.ex.trans s3.ex') _ _ hbF))) rv_I0) (by rw [List.length_map, Int.natCast_add]))) (sq_of ((s3.ex.trans s3.ex') _ _ hduF))) (show _ = (((chainM ts pts 0 (inits pts) 0 row).2.drop n).take blk.length).map V.int by rw [cut_midI, Nat.add_sub_cancel_left]) H3 (Ex.refl H3) _ fun r H4 hr e4 h4 => ?_
          refine ⟨q, r, _, rfl, e4 _ _ (s3.ex' _ _ hq), h4, by rw [List.length_take]; omega, fun H5 e5 => ⟨true, rfl, ?_⟩⟩
          rw [if_neg (by decide)]
          have e45 := e4.trans e5
          have hM5 := hM3.mono (Ex.refl F2) hM3.no (fun m _ o ho => e45 _ _ ho)
          have d5 := d3.ex_ e45
          have hqm5 := s3.ex _ _ hqm
          have G := G.mono s3.ex
          have hS2 := (chain_ok (ts := ts) (l := 0) (m := 0) (inits_ok G.pk) (xs := row.take (n + blk.length)) (fun x hx => G.rk x (List.mem_of_mem_take hx))).1
          have hbF5 := (s3.ex.trans d5.ex) _ _ hbF
          clear hM hM3 hS hq d3 e4 e5 h4 hr s3 d e2 hduF cb f1 f2
          generalize hsts2 : (chainM ts pts 0 (inits pts) 0 (row.take (n + blk.length))).1 = sts2 at hM5 hS2
          refine next_ (t := tSeq _ _) ?_
          refine q_asg (v := .int ((n + blk.length : Nat) : Int)) (ev_is (ev_op (ev_var rfl) (ev_len (ev_var rfl) (sq_of hbF5)) rv_I0) (by rw [List.length_map, Int.natCast_add])) fun H6 e6 => ?_
          have d6 := d5.ex_ e6
          have hM6 := hM5.mono (Ex.refl F2) hM5.no (fun m _ o ho => e6 _ _ ho)
          refine dv_asg (dv_draw T (dv_var rfl) (dv_i dv_c) ⟨by decide, by decide⟩) d6 fun v H7 d7 b7 ⟨z, ez, z1, z2⟩ => ?_
          subst ez
          have hM7 : MadeAt T ts F2 H7 ms pts sts2 := hM6.step hS2.len (d7.stp b7) (hM6.np hS2.len d6)
          clear hM5 hM6 d5 d6 b7 e45 e6 hbF5
          refine s_if (et_test (ev_op (ev_var rfl) ev_c (rv_eq rfl))) (fun _ H8 e8 => ?_) (fun _ H8 e8 => ?_)
          · have hqm7 := d7.ex _ _ hqm5
            refine q_asgLi (ev_var rfl) (sq_of (e8 _ _ hqm7)) fun H9 Dm e9 hDm => ?_
            have hDm0 : H7 Dm = none := fresh_back (e8.trans e9) hDm
            have hFDm := d7.freshF hDm0
            refine ⟨fun j H' => ∃ (F' : Hp) (tas : List Addr), Stp S0 F2 H7 F' H' ∧ F' Dm = none ∧ H' Dm = some (.lst (tas.map V.ref)) ∧ tas.length = j ∧ (∀ (m : Nat) t st, tas[m]? = some t → sts2[m]? = some st → F' t = some (.tup (st.map V.int))), ?_, ?_, ?_, ?_⟩
            · exact ⟨F2, [], ((Stp.refl d7.ex).pure (e8.trans e9)).mut (.inr hDm0) hFDm, hFDm, upd_same, rfl, fun m t st h => by simp at h⟩
            · rintro m H' ⟨F', tas, s, _⟩
              exact sq_of (s.ex' _ _ (s.ex _ _ hqm5))
            · rintro m x H' hx ⟨F', tas, s, hFD, hD, htl, hta⟩
              obtain ⟨mm, rfl, hmm⟩ := ref_get hx
              have hml := (List.getElem?_eq_some_iff.mp hmm).1
              rw [hM7.len] at hml
              obtain ⟨pt, hpt⟩ : ∃ pt, pts[m]? = some pt := get_of_lt hml
              obtain ⟨st, hst, _, _⟩ := hS2.get hpt
              have I := (hM7.at_ m mm pt st hmm hpt hst).mono s.ex fun o ho => s.kp mm o (fun h => h) ho
              refine ⟨rfl, alt_state T I (ev_var rfl) fun ok hok H'' e'' => ⟨ts, F', mm, pt, st, hok, rfl, s.ex'.trans e'', I.mono (Ex.refl F') (fun o ho => e'' _ _ ho), fun t F'' H4 s4 ht => ?_⟩⟩
              have hFD4 := s4.fr Dm hFD (by rw [e'' _ _ hD]; simp)
              refine ⟨tas.map V.ref, s4.kp _ _ (fun h => h) (e'' _ _ hD), sz_lt (by rw [List.length_map]; have := G.pl; omega), F'', tas ++ [t], ((s.pure e'').trans s4 fun b hb => hb.elim).mut (.inr hDm0) hFD4, hFD4, by rw [upd_same, List.map_append]; rfl, by rw [List.length_append, htl]; rfl, fun j u su h1 h2 => ?_⟩
              rcases snoc_get h1 with ⟨a1, a2⟩ | ⟨a1, a2⟩
              · exact s4.ex _ _ (hta j u su a2 h2)
              · rw [a1, htl, hst] at h2
                cases h2
                rw [a2]; exact ht
            · rintro H' ⟨F', tas, s, hFD, hD, htl, hta⟩
              have s3 := s.freeze hDm0 hD
              have d8 : Dk p (upd F' Dm (.lst (tas.map V.ref))) H' := d7.step s3 (fun h => h)
              have hM8 := hM7.step hS2.len s3 (fun _ _ h => h)
              have hta8 : ∀ (m : Nat) t st, tas[m]? = some t → sts2[m]? = some st → (upd F' Dm (.lst (tas.map V.ref))) t = some (.tup (st.map V.int)) := fun m t st h1 h2 => Ex.new hFD _ _ (hta m t st h1 h2)
              have hDm8 : (upd F' Dm (.lst (tas.map V.ref))) Dm = some (.lst (tas.map V.ref)) := upd_same
              have eF8 := eF2.trans s3.ex
              have G := G.mono s3.ex
              have hqm8 := s3.ex _ _ hqm5
              rw [List.length_map, hM7.len] at htl
              clear hM7 hta hD hFD hFDm hDm0 hDm e9 e8 d7 s hqm7 hqm5
              generalize upd F' Dm (.lst (tas.map V.ref)) = F3 at *
              -- what is sent between, and is laid back
              refine ⟨_, rfl, _, rfl, _, rfl, _, rfl, p, F3, 9, rfl, d8, by decide, fun xa xs H9 d9 b9 h0 h1 hxl hxs => ⟨_, rfl, ?_⟩⟩
              have hFxa := d8.freshF h0
              have s9 := (d9.stp b9).freeze h0 h1
              have d10 : Dk p (upd F3 xa (.lst (xs.map V.int))) H9 := d9.grow (Ex.new hFxa) s9.ex' (by rw [upd_ne (d8.ne h0).symm]; exact d9.no)
              have hM10 := hM8.step hS2.len s9 (hM8.np hS2.len d8)
              have G10 := G.mono s9.ex
              refine ⟨ts, upd F3 xa (.lst (xs.map V.int)), Dl, qm, la, xa, pts, ms, sts2, xs, ((n + blk.length : Nat) : Int), rfl, d10.ex, G10.tok, G10.pa, by have := G10.pl; omega, s9.ex _ _ hqm8, G10.la, upd_same, hxs, by omega, hS2, hM10, fun q F5 H10 s10 hM11 hq => ?_⟩
              have d11 : Dk p F5 H10 := d10.step s10 (hM10.notin hS2.len d10)
              have hS3 := (chain_ok (ts := ts) (l := 0) (m := ((n + blk.length : Nat) : Int)) hS2 hxs).1
              have e35 := s9.ex.trans s10.ex
              have G := G.mono e35
              have hqm11 := e35 _ _ hqm8
              refine q_cut (M := fun σ' H' => ∃ (F' : Hp) (qm : Addr) (ms : List Addr) (sts : List (List Int)), σ' = [some (.ref sc), some (.ref p), some (.ref tp), some (.ref Dl), some (.ref ra), some (.ref la), some (.ref du), x7, some (.ref qm), some (.int ((n + blk.length : Nat) : Int)), some (.ref b), some (.int z), some (.ref Dm), none, none, none, none] ∧ Ex F5 F' ∧ Dk p F' H' ∧ F' qm = some (.lst (ms.map V.ref)) ∧ MadeAt T ts F' H' ms pts sts ∧ StsOk pts sts) ?_ ?_
              · refine d_if (dv_draw T (b := 2) (dv_var rfl) (dv_i dv_c) ⟨by decide, by decide⟩) d11 (fun H12 d12 b12 => ?_) (fun H12 d12 b12 => ?_)
                · refine s_asgC (ea_cons (ev_var rfl) (ea_cons (ev_var rfl) ea_nil)) fun H13 e13 => ⟨Dl, tp, F5, pts, ts, rfl, d12.ex.trans e13, G.pa, G.pk, by have := G.pl; omega, G.tp, G.tok, fun qm' ms' F6 H14 s14 hqm' hM' hfr => ?_⟩
                  exact ⟨F6, qm', ms', inits pts, rfl, s14.ex, (d12.ex_ e13).step s14 (fun h => h), hqm', hM', inits_ok G.pk⟩
                · exact ⟨F5, qm, ms, _, rfl, Ex.refl _, d12, hqm11, hM11.step hS3.len (d12.stp b12) (hM11.np hS3.len d11), hS3⟩
              · rintro σ' H11 ⟨F6, qm6, ms6, st6, rfl, eF6, d12, hqm12, hM12, hS6⟩
                have G := G.mono eF6
                have e36 := e35.trans eF6
                have hta6 : ∀ (m : Nat) t st, tas[m]? = some t → sts2[m]? = some st → F6 t = some (.tup (st.map V.int)) := fun m t st h1 h2 => e36 _ _ (hta8 m t st h1 h2)
                have hDm6 := e36 _ _ hDm8
                obtain ⟨es, hpa, hel, hes⟩ := G.pa
                refine s_forR1 (n := ((es.map V.ref).length : Nat)) (ea_cons (ev_len (ev_var rfl) (sq_of (d12.ex _ _ hpa))) ea_nil) ⟨by omega, by rw [List.length_map, hel]; have := G.pl; omega⟩ (fun j σ' H' => ∃ x7 : Option V, σ' = [some (.ref sc), some (.ref p), some (.ref tp), some (.ref Dl), some (.ref ra), some (.ref la), some (.ref du), x7, some (.ref qm6), some (.int ((n + blk.length : Nat) : Int)), some (.ref b), some (.int z), some (.ref Dm), none, none, none, none] ∧ Dk p F6 H' ∧ RestAt T ts F6 H' ms6 pts sts2 j)
                  (fun H13 e13 => ⟨x7, rfl, d12.ex_ e13, RestAt.start (hM12.mono (Ex.refl F6) hM12.no fun m _ o ho => e13 _ _ ho) hS6.len⟩) ?_ ?_
                · rintro j σ' H' hj ⟨x7', rfl, d, R⟩
                  have hjp : j < pts.length := by rw [List.length_map, hel] at hj; omega
                  obtain ⟨pt, hpt⟩ : ∃ pt, pts[j]? = some pt := get_of_lt hjp
                  obtain ⟨m, hm⟩ : ∃ m, ms6[j]? = some m := get_of_lt (by rw [hM12.len]; exact hjp)
                  obtain ⟨st, hst, hPk, hSt⟩ := hS2.get hpt
                  obtain ⟨t, ht⟩ : ∃ t, tas[j]? = some t := get_of_lt (by rw [htl]; exact hjp)
                  obtain ⟨st0, I⟩ := R.td j m pt (Nat.le_refl j) hm hpt
                  have hmp : m ≠ p := hM12.np hS6.len d12 m (mem_of_get hm)
                  refine alt_restore T I (ev_op (ev_var rfl) (ev_var rfl) (rv_iL (sq_of (d.ex _ _ hqm12)) (at_map hm))) (ea_cons (ev_op (ev_var rfl) (ev_var rfl) (rv_iL (sq_of (d.ex _ _ hDm6)) (at_map ht))) ea_nil) fun ok hok H2 e2 => ⟨ts, F6, m, t, pt, st0, st, hok, rfl, d.ex.trans e2, hM12.no m (mem_of_get hm), I.mono (Ex.refl F6) (fun o ho => e2 _ _ ho), hSt, by rw [hSt.len]; exact Nat.le_trans (size_le hPk) (by decide), hta6 j t st ht hst, fun H3 s3 I3 => ?_⟩
                  have s23 : Stp (· = m) F6 H' F6 H3 := ((Stp.refl d.ex).pure e2).trans s3 fun b hb => .inl hb
                  exact ⟨_, rfl, d.step s23 (fun e => hmp e.symm), R.step hM12.nd hm hpt hst s23 I3⟩
                · rintro σ' H' ⟨x7', rfl, d, R⟩
                  rw [List.length_map, hel, show ((pts.length : Nat) : Int).toNat = pts.length by omega] at R
                  refine ⟨F6, qm6, ms6, n + blk.length, x7', _, _, _, rfl, eF8.trans e36, d, f3.symm, hqm12, ?_⟩
                  rw [hsts2]
                  exact ⟨hM12.len, hM12.nd, hM12.no, fun i m p st h1 h2 h3 => R.dn i m p st (List.getElem?_eq_some_iff.mp h2).1 h1 h2 h3⟩
          · exact ⟨F2, qm, ms, n + blk.length, x7, _, _, x12, rfl, eF2, d7.ex_ e8, f3.symm, hqm5, by rw [hsts2]; exact hM7.mono (Ex.refl F2) hM7.no (fun m _ o ho => e8 _ _ ho)⟩
        · rintro σ' H' ⟨F', qm, ms, n, x7, x10, x11, x12, rfl, eF, d, hn, hqm, hM⟩
          have G := G.mono eF
          clear hM hqm hn hqm8 hdu8 hM8 hfl hIR hqb d8 s8 hdu7 d7 hfr s7 hdu
          refine nx_ (t := tSeq (tAsg (tLst _) _) _) ?_
          refine d_asgL3 (S1 := fun v => ∃ a : Nat, (1 ≤ a ∧ a ≤ 32) ∧ v = [.str "ahead", .int a, .int 5000]) (S2 := fun v => ∃ b : Nat, b ≤ 8 ∧ v = [.str "line", .int b]) (S3 := fun v => ∃ c : Nat, (1 ≤ c ∧ c ≤ 9) ∧ v = [.str "ahead", .int c, .int 8388607]) (fun F H => ?_) (fun F H => ?_) (fun F H => ?_) d ?_ ?_ ?_ ?_
          · refine da_is (da_cons dv_c (da_cons (dv_add (dv_i dv_c) (dv_draw T (b := 32) (dv_var rfl) (dv_i dv_c) ⟨by decide, by decide⟩)) (da_cons dv_c da_nil))) fun v ⟨v1, r1, e1, e1', v2, r2, e2, ⟨z, ez, z1, z2⟩, v3, r3, e3, e3', e4⟩ => ?_
            subst e1 e1' e2 ez e3 e3' e4
            exact ⟨z.toNat, ⟨by omega, by omega⟩, by rw [Int.toNat_of_nonneg (by omega)]⟩
          · refine da_is (da_cons dv_c (da_cons (dv_draw T (b := 9) (dv_var rfl) (dv_i dv_c) ⟨by decide, by decide⟩) da_nil)) fun v ⟨v1, r1, e1, e1', v2, r2, e2, ⟨z, ez, z1, z2⟩, e4⟩ => ?_
            subst e1 e1' e2 ez e4
            exact ⟨z.toNat, by omega, by rw [Int.toNat_of_nonneg (by omega)]⟩
          · refine da_is (da_cons dv_c (da_cons (dv_add (dv_i dv_c) (dv_draw T (b := 9) (dv_var rfl) (dv_i dv_c) ⟨by decide, by decide⟩)) (da_cons dv_c da_nil))) fun v ⟨v1, r1, e1, e1', v2, r2, e2, ⟨z, ez, z1, z2⟩, v3, r3, e3, e3', e4⟩ => ?_
            subst e1 e1' e2 ez e3 e3' e4
            exact ⟨z.toNat, ⟨by omega, by omega⟩, by rw [Int.toNat_of_nonneg (by omega)]⟩
          · rintro _ ⟨a, _, rfl⟩; show 3 ≤ 1000; decide
          · rintro _ ⟨a, _, rfl⟩; show 2 ≤ 1000; decide
          · rintro _ ⟨a, _, rfl⟩; show 3 ≤ 1000; decide
          rintro _ _ _ q1 q2 q3 kl F9 H9 ⟨a, ha, rfl⟩ ⟨b, hb, rfl⟩ ⟨c, hc, rfl⟩ eF9 d9 h1 h2 h3 hl
          have G := G.mono eF9
          have hKp : IsParts F9 kl (keepP a b c) := ⟨[q1, q2, q3], hl, rfl, fun i e p g1 g2 => by
            rcases i with _ | _ | _ | i
            · cases g1; cases g2; exact h1
            · cases g1; cases g2; exact h2
            · cases g1; cases g2; exact h3
            · cases g1⟩
          have hKk : ∀ q ∈ keepP a b c, PtOk q := fun q hq => by
            rcases List.mem_cons.mp hq with rfl | hq
            · exact ⟨ha.1, ha.2, by decide, by decide⟩
            rcases List.mem_cons.mp hq with rfl | hq
            · exact Nat.le_trans hb (by decide)
            rw [List.mem_singleton.mp hq]
            exact ⟨hc.1, Nat.le_trans hc.2 (by decide), by decide, by decide⟩
          refine q_asgC (ea_cons (ev_var rfl) ea_nil) fun H10 e10 => ⟨kl, F9, keepP a b c, rfl, d9.ex.trans e10, hKp, show 3 ≤ 1000 by decide, fun lb F10 H11 s11 hlb => ?_⟩
          have hKp := hKp.mono s11.ex
          have G := G.mono s11.ex
          have hlast : (latesM 0 (keepP a b c))[3]? = some ((a + b + c : Nat) : Int) := by
            show some ((0 + a + b + c : Nat) : Int) = _
            rw [Nat.zero_add]
          have hlen : (latesM 0 (keepP a b c)).length = 3 + 1 := latesM_len _ _
          generalize hL : a + b + c = L at hlast
          have hLs : L ≤ 1000 := by omega
          have ex11 := s11.ex'
          refine q_asgL (xs := (lone L 0).map V.int) (el_is (el_cat (el_mapR1 (n := L) (zv L) (zv_len L) (ea_cons (ev_op (ev_var rfl) (ev_neg ev_c) (rv_iL (sq_of (ex11 _ _ hlb)) (at_mapl' hlast hlen))) ea_nil) (by omega) (fun _ => rfl) fun i y H3 e3 hy => by rw [zv_get hy]; exact ev_c) (el_lst (ea_cons ev_c ea_nil) (show 1 ≤ 100000 by decide)) (by rw [zv_len]; show L + 1 ≤ 100000; omega)) ?_) fun al H12 hal e12 h12 => ?_
          · show zv L ++ [V.int 4999] = (zer L ++ [4999]).map V.int
            rw [List.map_append]; rfl
          have hFal := (Stp.refl (S := S0) ex11).freshF hal
          have eFl := Ex.new (o := HO.lst ((lone L 0).map V.int)) hFal
          have ex12 := ex_upd_new (ex11.trans e12) h12
          have hKp := hKp.mono eFl
          have G := G.mono eFl
          have hlb := eFl _ _ hlb
          have hal12 : (upd F10 al (.lst ((lone L 0).map V.int))) al = some (.lst ((lone L 0).map V.int)) := upd_same
          generalize upd F10 al (.lst ((lone L 0).map V.int)) = F12 at *
          refine ⟨_, rfl, _, rfl, _, rfl, kl, tp, F12, keepP a b c, ts, rfl, ex12, hKp, hKk, show 3 ≤ 1000 by decide, G.tp, G.tok, fun qm ms F13 H13 s13 hqm hM _ => ⟨_, rfl, ?_⟩⟩
          have ex13 := s13.ex'
          refine el_is (el_cat (el_lst (ea_cons ev_c ea_nil) (show 1 ≤ 100000 by decide)) (el_mapR1 (n := L) (zv L) (zv_len L) (ea_cons (ev_op (ev_var rfl) (ev_neg ev_c) (rv_iL (sq_of (ex13 _ _ (s13.ex _ _ hlb))) (at_mapl' hlast hlen))) ea_nil) (by omega) (fun _ => rfl) fun i y H3 e3 hy => by rw [zv_get hy]; exact ev_c) (by rw [zv_len]; show 1 + L ≤ 100000; omega)) (show _ = (lone 0 L).map V.int from rfl) H13 (Ex.refl H13) _ fun inp H14 hin e14 h14 => ?_
          have s14 := stp_lst (S := S0) ex13 e14 hin h14
          have hM14 := hM.step (by unfold inits; rw [List.length_map]) s14 (fun _ _ h => h)
          have e1214 := s13.ex.trans s14.ex
          have G := G.mono e1214
          refine ⟨ts, _, kl, qm, lb, inp, keepP a b c, ms, inits _, lone 0 L, 0, rfl, s14.ex', G.tok, hKp.mono e1214, show 3 ≤ 1000 by decide, s14.ex _ _ hqm, e1214 _ _ hlb, upd_same, fun x hx => (lone_quiet (c := 8388607) (by decide) x hx).1, by rw [lone_len]; omega, inits_ok hKk, hM14, fun q F15 H15 s15 _ hq => ?_⟩
          rw [← hL, keep_alone, hL] at hq
          refine ⟨_, rfl, .list ((lone L 0).map PyData.int), .list ((lone L 0).map PyData.int), .lst (sq_of (s15.ex' _ _ hq)) (dpAll_ints _), .lst (sq_of (s15.ex' _ _ (s15.ex _ _ (e1214 _ _ hal12)))) (dpAll_ints _), PySem.W.shaped_ints _, PySem.W.shaped_ints _, ?_⟩
          rw [show PyData.eqv (.list ((lone L 0).map PyData.int)) (.list ((lone L 0).map PyData.int)) = true by rw [PyData.eqv]; exact eqvAll_ints _]
          exact k H15
end K37

/-! K37, part 17: what the top has written, the walk of the law. -/
namespace K37
open PySem L2 Evl
def spLawK (K : PySem.W.Frag) : Sp := fun vs H Q _ => ∃ (a : Addr) (ns : List Int), vs = [.ref a] ∧ SqL K H a (ns.map V.int) ∧ ns.length ≤ 63 ∧ ∀ H', Q (.bl true) H'
def LawAt (l : PySem.W.OpenLaw) (w : World) (K : PySem.W.Frag) (mg : Str → Option Value) (fa : Addr) : Prop :=
  ∃ fd : FuncData, (∀ (s : Shared) (v : Value), BindsTo s fd ⟨[v], []⟩ [("_law_script", v)]) ∧ ∀ base : Heap, K.In base → base.Ns mainGlobals mg → FnOk l.prog w K mg base CX0 7 fa fd ["_law_script"] (spLawK K)
theorem law_of {l : PySem.W.OpenLaw} {w : World} {K : PySem.W.Frag} {h : Heap} {mg : Str → Option Value} {fa : Addr} (_ : K.In h) (_ : h.Ns mainGlobals mg) (hfa : mg "law" = some (.ref fa)) (T : Tx K mg)
    (hb : ∀ (s : Shared) (v : Value), BindsTo s T.d_law ⟨[v], []⟩ [("_law_script", v)]) : LawAt l w K mg fa := by
  have e := hfa.symm.trans T.g_law
  cases e
  exact ⟨T.d_law, hb, fun base _ _ => ok_law T⟩
theorem vals_one {i : Int} {t : Tok} {xs : List V} {us : List Value} (h : Vals xs us) : Vals (.int i :: xs) (.int i t :: us) := .cons ⟨t, rfl⟩ h
def tx_mk {K : PySem.W.Frag} {h : Heap} {mg : Str → Option Value} (X : K.In h) (G : h.Ns mainGlobals mg)
    {f_is_count f_is_sample f_cut f_through f_greatest_divisor f_common_denominator f_units_of f_frame_of f_in_frames f_value_at f_is_past f_DelayLine_init f_DelayLine_process f_DelayLine_state f_DelayLine_restore f_latency_of f_toward f_turned_down f_Pass_process f_Pass_state f_Pass_restore f_Gain_init f_Gain_process f_Gain_state f_Gain_restore f_Delay_init f_Delay_process f_Delay_state f_Delay_restore f_Smooth_init f_Smooth_process f_Smooth_state f_Smooth_restore f_Ahead_init f_Ahead_process f_Ahead_state f_Ahead_restore f_effect_of f_l_deck f_l_draw f_l_sample f_l_samples f_l_gain f_l_tempo f_l_points f_l_spec f_l_cut f_l_through f_l_frame f_l_value f_l_before f_l_smoothed f_l_meant f_l_is_row f_l_blocks f_l_part f_l_made f_l_late f_l_sent f_law c_DelayLine c_Pass c_Gain c_Delay c_Smooth c_Ahead a_PARTS : Addr}
    {od_is_count an_is_count od_is_sample an_is_sample od_cut an_cut od_through an_through od_greatest_divisor an_greatest_divisor od_common_denominator an_common_denominator od_units_of an_units_of od_frame_of an_frame_of od_in_frames an_in_frames od_value_at an_value_at od_is_past an_is_past od_DelayLine_init an_DelayLine_init od_DelayLine_process an_DelayLine_process od_DelayLine_state an_DelayLine_state od_DelayLine_restore an_DelayLine_restore od_latency_of an_latency_of od_toward an_toward od_turned_down an_turned_down od_Pass_process an_Pass_process od_Pass_state an_Pass_state od_Pass_restore an_Pass_restore od_Gain_init an_Gain_init od_Gain_process an_Gain_process od_Gain_state an_Gain_state od_Gain_restore an_Gain_restore od_Delay_init an_Delay_init od_Delay_process an_Delay_process od_Delay_state an_Delay_state od_Delay_restore an_Delay_restore od_Smooth_init an_Smooth_init od_Smooth_process an_Smooth_process od_Smooth_state an_Smooth_state od_Smooth_restore an_Smooth_restore od_Ahead_init an_Ahead_init od_Ahead_process an_Ahead_process od_Ahead_state an_Ahead_state od_Ahead_restore an_Ahead_restore od_effect_of an_effect_of od_l_deck an_l_deck od_l_draw an_l_draw od_l_sample an_l_sample od_l_samples an_l_samples od_l_gain an_l_gain od_l_tempo an_l_tempo od_l_points an_l_points od_l_spec an_l_spec od_l_cut an_l_cut od_l_through an_l_through od_l_frame an_l_frame od_l_value an_l_value od_l_before an_l_before od_l_smoothed an_l_smoothed od_l_meant an_l_meant od_l_is_row an_l_is_row od_l_blocks an_l_blocks od_l_part an_l_part od_l_made an_l_made od_l_late an_l_late od_l_sent an_l_sent od_law an_law od_PARTS : Option Addr}
    {sl_is_count sl_is_sample sl_cut sl_through sl_greatest_divisor sl_common_denominator sl_units_of sl_frame_of sl_in_frames sl_value_at sl_is_past sl_DelayLine_init sl_DelayLine_process sl_DelayLine_state sl_DelayLine_restore sl_latency_of sl_toward sl_turned_down sl_Pass_process sl_Pass_state sl_Pass_restore sl_Gain_init sl_Gain_process sl_Gain_state sl_Gain_restore sl_Delay_init sl_Delay_process sl_Delay_state sl_Delay_restore sl_Smooth_init sl_Smooth_process sl_Smooth_state sl_Smooth_restore sl_Ahead_init sl_Ahead_process sl_Ahead_state sl_Ahead_restore sl_effect_of sl_l_deck sl_l_draw sl_l_sample sl_l_samples sl_l_gain sl_l_tempo sl_l_points sl_l_spec sl_l_cut sl_l_through sl_l_frame sl_l_value sl_l_before sl_l_smoothed sl_l_meant sl_l_is_row sl_l_blocks sl_l_part sl_l_made sl_l_late sl_l_sent sl_law sl_PARTS : Array (Option Value)} {its_PARTS : Array Value} {n_PARTS : Nat}
    {oc_is_count kV_is_count dc_is_count pm_is_count cd_is_count ct_is_count oc_is_sample kV_is_sample dc_is_sample pm_is_sample cd_is_sample ct_is_sample oc_cut kV_cut dc_cut pm_cut cd_cut ct_cut oc_through kV_through dc_through pm_through cd_through ct_through oc_greatest_divisor kV_greatest_divisor dc_greatest_divisor pm_greatest_divisor cd_greatest_divisor ct_greatest_divisor oc_common_denominator kV_common_denominator dc_common_denominator pm_common_denominator cd_common_denominator ct_common_denominator oc_units_of kV_units_of dc_units_of pm_units_of cd_units_of ct_units_of oc_frame_of kV_frame_of dc_frame_of pm_frame_of cd_frame_of ct_frame_of oc_in_frames kV_in_frames dc_in_frames pm_in_frames cd_in_frames ct_in_frames oc_value_at kV_value_at dc_value_at pm_value_at cd_value_at ct_value_at oc_is_past kV_is_past dc_is_past pm_is_past cd_is_past ct_is_past oc_DelayLine_init kV_DelayLine_init dc_DelayLine_init pm_DelayLine_init cd_DelayLine_init ct_DelayLine_init oc_DelayLine_process kV_DelayLine_process dc_DelayLine_process pm_DelayLine_process cd_DelayLine_process ct_DelayLine_process oc_DelayLine_state kV_DelayLine_state dc_DelayLine_state pm_DelayLine_state cd_DelayLine_state ct_DelayLine_state oc_DelayLine_restore kV_DelayLine_restore dc_DelayLine_restore pm_DelayLine_restore cd_DelayLine_restore ct_DelayLine_restore oc_latency_of kV_latency_of dc_latency_of pm_latency_of cd_latency_of ct_latency_of oc_toward kV_toward dc_toward pm_toward cd_toward ct_toward oc_turned_down kV_turned_down dc_turned_down pm_turned_down cd_turned_down ct_turned_down oc_Pass_process kV_Pass_process dc_Pass_process pm_Pass_process cd_Pass_process ct_Pass_process oc_Pass_state kV_Pass_state dc_Pass_state pm_Pass_state cd_Pass_state ct_Pass_state oc_Pass_restore kV_Pass_restore dc_Pass_restore pm_Pass_restore cd_Pass_restore ct_Pass_restore oc_Gain_init kV_Gain_init dc_Gain_init pm_Gain_init cd_Gain_init ct_Gain_init oc_Gain_process kV_Gain_process dc_Gain_process pm_Gain_process cd_Gain_process ct_Gain_process oc_Gain_state kV_Gain_state dc_Gain_state pm_Gain_state cd_Gain_state ct_Gain_state oc_Gain_restore kV_Gain_restore dc_Gain_restore pm_Gain_restore cd_Gain_restore ct_Gain_restore oc_Delay_init kV_Delay_init dc_Delay_init pm_Delay_init cd_Delay_init ct_Delay_init oc_Delay_process kV_Delay_process dc_Delay_process pm_Delay_process cd_Delay_process ct_Delay_process oc_Delay_state kV_Delay_state dc_Delay_state pm_Delay_state cd_Delay_state ct_Delay_state oc_Delay_restore kV_Delay_restore dc_Delay_restore pm_Delay_restore cd_Delay_restore ct_Delay_restore oc_Smooth_init kV_Smooth_init dc_Smooth_init pm_Smooth_init cd_Smooth_init ct_Smooth_init oc_Smooth_process kV_Smooth_process dc_Smooth_process pm_Smooth_process cd_Smooth_process ct_Smooth_process oc_Smooth_state kV_Smooth_state dc_Smooth_state pm_Smooth_state cd_Smooth_state ct_Smooth_state oc_Smooth_restore kV_Smooth_restore dc_Smooth_restore pm_Smooth_restore cd_Smooth_restore ct_Smooth_restore oc_Ahead_init kV_Ahead_init dc_Ahead_init pm_Ahead_init cd_Ahead_init ct_Ahead_init oc_Ahead_process kV_Ahead_process dc_Ahead_process pm_Ahead_process cd_Ahead_process ct_Ahead_process oc_Ahead_state kV_Ahead_state dc_Ahead_state pm_Ahead_state cd_Ahead_state ct_Ahead_state oc_Ahead_restore kV_Ahead_restore dc_Ahead_restore pm_Ahead_restore cd_Ahead_restore ct_Ahead_restore oc_effect_of kV_effect_of dc_effect_of pm_effect_of cd_effect_of ct_effect_of oc_l_deck kV_l_deck dc_l_deck pm_l_deck cd_l_deck ct_l_deck oc_l_draw kV_l_draw dc_l_draw pm_l_draw cd_l_draw ct_l_draw oc_l_sample kV_l_sample dc_l_sample pm_l_sample cd_l_sample ct_l_sample oc_l_samples kV_l_samples dc_l_samples pm_l_samples cd_l_samples ct_l_samples oc_l_gain kV_l_gain dc_l_gain pm_l_gain cd_l_gain ct_l_gain oc_l_tempo kV_l_tempo dc_l_tempo pm_l_tempo cd_l_tempo ct_l_tempo oc_l_points kV_l_points dc_l_points pm_l_points cd_l_points ct_l_points oc_l_spec kV_l_spec dc_l_spec pm_l_spec cd_l_spec ct_l_spec oc_l_cut kV_l_cut dc_l_cut pm_l_cut cd_l_cut ct_l_cut oc_l_through kV_l_through dc_l_through pm_l_through cd_l_through ct_l_through oc_l_frame kV_l_frame dc_l_frame pm_l_frame cd_l_frame ct_l_frame oc_l_value kV_l_value dc_l_value pm_l_value cd_l_value ct_l_value oc_l_before kV_l_before dc_l_before pm_l_before cd_l_before ct_l_before oc_l_smoothed kV_l_smoothed dc_l_smoothed pm_l_smoothed cd_l_smoothed ct_l_smoothed oc_l_meant kV_l_meant dc_l_meant pm_l_meant cd_l_meant ct_l_meant oc_l_is_row kV_l_is_row dc_l_is_row pm_l_is_row cd_l_is_row ct_l_is_row oc_l_blocks kV_l_blocks dc_l_blocks pm_l_blocks cd_l_blocks ct_l_blocks oc_l_part kV_l_part dc_l_part pm_l_part cd_l_part ct_l_part oc_l_made kV_l_made dc_l_made pm_l_made cd_l_made ct_l_made oc_l_late kV_l_late dc_l_late pm_l_late cd_l_late ct_l_late oc_l_sent kV_l_sent dc_l_sent pm_l_sent cd_l_sent ct_l_sent oc_law kV_law dc_law pm_law cd_law ct_law : Value}
    {t_SAMPLE_LEAST t_SAMPLE_MOST t_GAIN_ONE : Tok}
    (g_DelayLine : PySem.W.nsIn K mainGlobals "DelayLine" = some (some (.ref c_DelayLine)))
    (g_Pass : PySem.W.nsIn K mainGlobals "Pass" = some (some (.ref c_Pass)))
    (g_Gain : PySem.W.nsIn K mainGlobals "Gain" = some (some (.ref c_Gain)))
    (g_Delay : PySem.W.nsIn K mainGlobals "Delay" = some (some (.ref c_Delay)))
    (g_Smooth : PySem.W.nsIn K mainGlobals "Smooth" = some (some (.ref c_Smooth)))
    (g_Ahead : PySem.W.nsIn K mainGlobals "Ahead" = some (some (.ref c_Ahead)))
    (ais_count : PySem.W.nsIn K mainGlobals "is_count" = some (some (.ref f_is_count)))
    (lis_count : K.lookup f_is_count = some ⟨oc_is_count, od_is_count, .func (PySem.W.fnOf "is_count" "is_count" (defArgs s_is_count) (defBody s_is_count) (defScope s_is_count) .none kV_is_count dc_is_count pm_is_count an_is_count cd_is_count ct_is_count), sl_is_count⟩)
    (cis_count : PySem.W.codeIn K cd_is_count "is_count" = true)
    (kis_count : PySem.W.keepIn K (.ref f_is_count) = true)
    (ais_sample : PySem.W.nsIn K mainGlobals "is_sample" = some (some (.ref f_is_sample)))
    (lis_sample : K.lookup f_is_sample = some ⟨oc_is_sample, od_is_sample, .func (PySem.W.fnOf "is_sample" "is_sample" (defArgs s_is_sample) (defBody s_is_sample) (defScope s_is_sample) .none kV_is_sample dc_is_sample pm_is_sample an_is_sample cd_is_sample ct_is_sample), sl_is_sample⟩)
    (cis_sample : PySem.W.codeIn K cd_is_sample "is_sample" = true)
    (kis_sample : PySem.W.keepIn K (.ref f_is_sample) = true)
    (acut : PySem.W.nsIn K mainGlobals "cut" = some (some (.ref f_cut)))
    (lcut : K.lookup f_cut = some ⟨oc_cut, od_cut, .func (PySem.W.fnOf "cut" "cut" (defArgs s_cut) (defBody s_cut) (defScope s_cut) .none kV_cut dc_cut pm_cut an_cut cd_cut ct_cut), sl_cut⟩)
    (ccut : PySem.W.codeIn K cd_cut "cut" = true)
    (kcut : PySem.W.keepIn K (.ref f_cut) = true)
    (athrough : PySem.W.nsIn K mainGlobals "through" = some (some (.ref f_through)))
    (lthrough : K.lookup f_through = some ⟨oc_through, od_through, .func (PySem.W.fnOf "through" "through" (defArgs s_through) (defBody s_through) (defScope s_through) .none kV_through dc_through pm_through an_through cd_through ct_through), sl_through⟩)
    (cthrough : PySem.W.codeIn K cd_through "through" = true)
    (kthrough : PySem.W.keepIn K (.ref f_through) = true)
    (agreatest_divisor : PySem.W.nsIn K mainGlobals "greatest_divisor" = some (some (.ref f_greatest_divisor)))
    (lgreatest_divisor : K.lookup f_greatest_divisor = some ⟨oc_greatest_divisor, od_greatest_divisor, .func (PySem.W.fnOf "greatest_divisor" "greatest_divisor" (defArgs s_greatest_divisor) (defBody s_greatest_divisor) (defScope s_greatest_divisor) .none kV_greatest_divisor dc_greatest_divisor pm_greatest_divisor an_greatest_divisor cd_greatest_divisor ct_greatest_divisor), sl_greatest_divisor⟩)
    (cgreatest_divisor : PySem.W.codeIn K cd_greatest_divisor "greatest_divisor" = true)
    (kgreatest_divisor : PySem.W.keepIn K (.ref f_greatest_divisor) = true)
    (acommon_denominator : PySem.W.nsIn K mainGlobals "common_denominator" = some (some (.ref f_common_denominator)))
    (lcommon_denominator : K.lookup f_common_denominator = some ⟨oc_common_denominator, od_common_denominator, .func (PySem.W.fnOf "common_denominator" "common_denominator" (defArgs s_common_denominator) (defBody s_common_denominator) (defScope s_common_denominator) .none kV_common_denominator dc_common_denominator pm_common_denominator an_common_denominator cd_common_denominator ct_common_denominator), sl_common_denominator⟩)
    (ccommon_denominator : PySem.W.codeIn K cd_common_denominator "common_denominator" = true)
    (kcommon_denominator : PySem.W.keepIn K (.ref f_common_denominator) = true)
    (aunits_of : PySem.W.nsIn K mainGlobals "units_of" = some (some (.ref f_units_of)))
    (lunits_of : K.lookup f_units_of = some ⟨oc_units_of, od_units_of, .func (PySem.W.fnOf "units_of" "units_of" (defArgs s_units_of) (defBody s_units_of) (defScope s_units_of) .none kV_units_of dc_units_of pm_units_of an_units_of cd_units_of ct_units_of), sl_units_of⟩)
    (cunits_of : PySem.W.codeIn K cd_units_of "units_of" = true)
    (kunits_of : PySem.W.keepIn K (.ref f_units_of) = true)
    (aframe_of : PySem.W.nsIn K mainGlobals "frame_of" = some (some (.ref f_frame_of)))
    (lframe_of : K.lookup f_frame_of = some ⟨oc_frame_of, od_frame_of, .func (PySem.W.fnOf "frame_of" "frame_of" (defArgs s_frame_of) (defBody s_frame_of) (defScope s_frame_of) .none kV_frame_of dc_frame_of pm_frame_of an_frame_of cd_frame_of ct_frame_of), sl_frame_of⟩)
    (cframe_of : PySem.W.codeIn K cd_frame_of "frame_of" = true)
    (kframe_of : PySem.W.keepIn K (.ref f_frame_of) = true)
    (ain_frames : PySem.W.nsIn K mainGlobals "in_frames" = some (some (.ref f_in_frames)))
    (lin_frames : K.lookup f_in_frames = some ⟨oc_in_frames, od_in_frames, .func (PySem.W.fnOf "in_frames" "in_frames" (defArgs s_in_frames) (defBody s_in_frames) (defScope s_in_frames) .none kV_in_frames dc_in_frames pm_in_frames an_in_frames cd_in_frames ct_in_frames), sl_in_frames⟩)
    (cin_frames : PySem.W.codeIn K cd_in_frames "in_frames" = true)
    (kin_frames : PySem.W.keepIn K (.ref f_in_frames) = true)
    (avalue_at : PySem.W.nsIn K mainGlobals "value_at" = some (some (.ref f_value_at)))
    (lvalue_at : K.lookup f_value_at = some ⟨oc_value_at, od_value_at, .func (PySem.W.fnOf "value_at" "value_at" (defArgs s_value_at) (defBody s_value_at) (defScope s_value_at) .none kV_value_at dc_value_at pm_value_at an_value_at cd_value_at ct_value_at), sl_value_at⟩)
    (cvalue_at : PySem.W.codeIn K cd_value_at "value_at" = true)
    (kvalue_at : PySem.W.keepIn K (.ref f_value_at) = true)
    (ais_past : PySem.W.nsIn K mainGlobals "is_past" = some (some (.ref f_is_past)))
    (lis_past : K.lookup f_is_past = some ⟨oc_is_past, od_is_past, .func (PySem.W.fnOf "is_past" "is_past" (defArgs s_is_past) (defBody s_is_past) (defScope s_is_past) .none kV_is_past dc_is_past pm_is_past an_is_past cd_is_past ct_is_past), sl_is_past⟩)
    (cis_past : PySem.W.codeIn K cd_is_past "is_past" = true)
    (kis_past : PySem.W.keepIn K (.ref f_is_past) = true)
    (aDelayLine_init : PySem.W.findIn K (.ref c_DelayLine) "__init__" = some (some (.ref f_DelayLine_init)))
    (iDelayLine_init : PySem.W.isFn K (.ref f_DelayLine_init) = true)
    (lDelayLine_init : K.lookup f_DelayLine_init = some ⟨oc_DelayLine_init, od_DelayLine_init, .func (PySem.W.fnOf "__init__" "DelayLine.__init__" (defArgs s_DelayLine_init) (defBody s_DelayLine_init) (defScope s_DelayLine_init) .none kV_DelayLine_init dc_DelayLine_init pm_DelayLine_init an_DelayLine_init cd_DelayLine_init ct_DelayLine_init), sl_DelayLine_init⟩)
    (cDelayLine_init : PySem.W.codeIn K cd_DelayLine_init "DelayLine.__init__" = true)
    (kDelayLine_init : PySem.W.keepIn K (.ref f_DelayLine_init) = true)
    (aDelayLine_process : PySem.W.findIn K (.ref c_DelayLine) "process" = some (some (.ref f_DelayLine_process)))
    (iDelayLine_process : PySem.W.isFn K (.ref f_DelayLine_process) = true)
    (lDelayLine_process : K.lookup f_DelayLine_process = some ⟨oc_DelayLine_process, od_DelayLine_process, .func (PySem.W.fnOf "process" "DelayLine.process" (defArgs s_DelayLine_process) (defBody s_DelayLine_process) (defScope s_DelayLine_process) .none kV_DelayLine_process dc_DelayLine_process pm_DelayLine_process an_DelayLine_process cd_DelayLine_process ct_DelayLine_process), sl_DelayLine_process⟩)
    (cDelayLine_process : PySem.W.codeIn K cd_DelayLine_process "DelayLine.process" = true)
    (kDelayLine_process : PySem.W.keepIn K (.ref f_DelayLine_process) = true)
    (aDelayLine_state : PySem.W.findIn K (.ref c_DelayLine) "state" = some (some (.ref f_DelayLine_state)))
    (iDelayLine_state : PySem.W.isFn K (.ref f_DelayLine_state) = true)
    (lDelayLine_state : K.lookup f_DelayLine_state = some ⟨oc_DelayLine_state, od_DelayLine_state, .func (PySem.W.fnOf "state" "DelayLine.state" (defArgs s_DelayLine_state) (defBody s_DelayLine_state) (defScope s_DelayLine_state) .none kV_DelayLine_state dc_DelayLine_state pm_DelayLine_state an_DelayLine_state cd_DelayLine_state ct_DelayLine_state), sl_DelayLine_state⟩)
    (cDelayLine_state : PySem.W.codeIn K cd_DelayLine_state "DelayLine.state" = true)
    (kDelayLine_state : PySem.W.keepIn K (.ref f_DelayLine_state) = true)
    (aDelayLine_restore : PySem.W.findIn K (.ref c_DelayLine) "restore" = some (some (.ref f_DelayLine_restore)))
    (iDelayLine_restore : PySem.W.isFn K (.ref f_DelayLine_restore) = true)
    (lDelayLine_restore : K.lookup f_DelayLine_restore = some ⟨oc_DelayLine_restore, od_DelayLine_restore, .func (PySem.W.fnOf "restore" "DelayLine.restore" (defArgs s_DelayLine_restore) (defBody s_DelayLine_restore) (defScope s_DelayLine_restore) .none kV_DelayLine_restore dc_DelayLine_restore pm_DelayLine_restore an_DelayLine_restore cd_DelayLine_restore ct_DelayLine_restore), sl_DelayLine_restore⟩)
    (cDelayLine_restore : PySem.W.codeIn K cd_DelayLine_restore "DelayLine.restore" = true)
    (kDelayLine_restore : PySem.W.keepIn K (.ref f_DelayLine_restore) = true)
    (alatency_of : PySem.W.nsIn K mainGlobals "latency_of" = some (some (.ref f_latency_of)))
    (llatency_of : K.lookup f_latency_of = some ⟨oc_latency_of, od_latency_of, .func (PySem.W.fnOf "latency_of" "latency_of" (defArgs s_latency_of) (defBody s_latency_of) (defScope s_latency_of) .none kV_latency_of dc_latency_of pm_latency_of an_latency_of cd_latency_of ct_latency_of), sl_latency_of⟩)
    (clatency_of : PySem.W.codeIn K cd_latency_of "latency_of" = true)
    (klatency_of : PySem.W.keepIn K (.ref f_latency_of) = true)
    (atoward : PySem.W.nsIn K mainGlobals "toward" = some (some (.ref f_toward)))
    (ltoward : K.lookup f_toward = some ⟨oc_toward, od_toward, .func (PySem.W.fnOf "toward" "toward" (defArgs s_toward) (defBody s_toward) (defScope s_toward) .none kV_toward dc_toward pm_toward an_toward cd_toward ct_toward), sl_toward⟩)
    (ctoward : PySem.W.codeIn K cd_toward "toward" = true)
    (ktoward : PySem.W.keepIn K (.ref f_toward) = true)
    (aturned_down : PySem.W.nsIn K mainGlobals "turned_down" = some (some (.ref f_turned_down)))
    (lturned_down : K.lookup f_turned_down = some ⟨oc_turned_down, od_turned_down, .func (PySem.W.fnOf "turned_down" "turned_down" (defArgs s_turned_down) (defBody s_turned_down) (defScope s_turned_down) .none kV_turned_down dc_turned_down pm_turned_down an_turned_down cd_turned_down ct_turned_down), sl_turned_down⟩)
    (cturned_down : PySem.W.codeIn K cd_turned_down "turned_down" = true)
    (kturned_down : PySem.W.keepIn K (.ref f_turned_down) = true)
    (aPass_process : PySem.W.findIn K (.ref c_Pass) "process" = some (some (.ref f_Pass_process)))
    (iPass_process : PySem.W.isFn K (.ref f_Pass_process) = true)
    (lPass_process : K.lookup f_Pass_process = some ⟨oc_Pass_process, od_Pass_process, .func (PySem.W.fnOf "process" "Pass.process" (defArgs s_Pass_process) (defBody s_Pass_process) (defScope s_Pass_process) .none kV_Pass_process dc_Pass_process pm_Pass_process an_Pass_process cd_Pass_process ct_Pass_process), sl_Pass_process⟩)
    (cPass_process : PySem.W.codeIn K cd_Pass_process "Pass.process" = true)
    (kPass_process : PySem.W.keepIn K (.ref f_Pass_process) = true)
    (aPass_state : PySem.W.findIn K (.ref c_Pass) "state" = some (some (.ref f_Pass_state)))
    (iPass_state : PySem.W.isFn K (.ref f_Pass_state) = true)
    (lPass_state : K.lookup f_Pass_state = some ⟨oc_Pass_state, od_Pass_state, .func (PySem.W.fnOf "state" "Pass.state" (defArgs s_Pass_state) (defBody s_Pass_state) (defScope s_Pass_state) .none kV_Pass_state dc_Pass_state pm_Pass_state an_Pass_state cd_Pass_state ct_Pass_state), sl_Pass_state⟩)
    (cPass_state : PySem.W.codeIn K cd_Pass_state "Pass.state" = true)
    (kPass_state : PySem.W.keepIn K (.ref f_Pass_state) = true)
    (aPass_restore : PySem.W.findIn K (.ref c_Pass) "restore" = some (some (.ref f_Pass_restore)))
    (iPass_restore : PySem.W.isFn K (.ref f_Pass_restore) = true)
    (lPass_restore : K.lookup f_Pass_restore = some ⟨oc_Pass_restore, od_Pass_restore, .func (PySem.W.fnOf "restore" "Pass.restore" (defArgs s_Pass_restore) (defBody s_Pass_restore) (defScope s_Pass_restore) .none kV_Pass_restore dc_Pass_restore pm_Pass_restore an_Pass_restore cd_Pass_restore ct_Pass_restore), sl_Pass_restore⟩)
    (cPass_restore : PySem.W.codeIn K cd_Pass_restore "Pass.restore" = true)
    (kPass_restore : PySem.W.keepIn K (.ref f_Pass_restore) = true)
    (aGain_init : PySem.W.findIn K (.ref c_Gain) "__init__" = some (some (.ref f_Gain_init)))
    (iGain_init : PySem.W.isFn K (.ref f_Gain_init) = true)
    (lGain_init : K.lookup f_Gain_init = some ⟨oc_Gain_init, od_Gain_init, .func (PySem.W.fnOf "__init__" "Gain.__init__" (defArgs s_Gain_init) (defBody s_Gain_init) (defScope s_Gain_init) .none kV_Gain_init dc_Gain_init pm_Gain_init an_Gain_init cd_Gain_init ct_Gain_init), sl_Gain_init⟩)
    (cGain_init : PySem.W.codeIn K cd_Gain_init "Gain.__init__" = true)
    (kGain_init : PySem.W.keepIn K (.ref f_Gain_init) = true)
    (aGain_process : PySem.W.findIn K (.ref c_Gain) "process" = some (some (.ref f_Gain_process)))
    (iGain_process : PySem.W.isFn K (.ref f_Gain_process) = true)
    (lGain_process : K.lookup f_Gain_process = some ⟨oc_Gain_process, od_Gain_process, .func (PySem.W.fnOf "process" "Gain.process" (defArgs s_Gain_process) (defBody s_Gain_process) (defScope s_Gain_process) .none kV_Gain_process dc_Gain_process pm_Gain_process an_Gain_process cd_Gain_process ct_Gain_process), sl_Gain_process⟩)
    (cGain_process : PySem.W.codeIn K cd_Gain_process "Gain.process" = true)
    (kGain_process : PySem.W.keepIn K (.ref f_Gain_process) = true)
    (aGain_state : PySem.W.findIn K (.ref c_Gain) "state" = some (some (.ref f_Gain_state)))
    (iGain_state : PySem.W.isFn K (.ref f_Gain_state) = true)
    (lGain_state : K.lookup f_Gain_state = some ⟨oc_Gain_state, od_Gain_state, .func (PySem.W.fnOf "state" "Gain.state" (defArgs s_Gain_state) (defBody s_Gain_state) (defScope s_Gain_state) .none kV_Gain_state dc_Gain_state pm_Gain_state an_Gain_state cd_Gain_state ct_Gain_state), sl_Gain_state⟩)
    (cGain_state : PySem.W.codeIn K cd_Gain_state "Gain.state" = true)
    (kGain_state : PySem.W.keepIn K (.ref f_Gain_state) = true)
    (aGain_restore : PySem.W.findIn K (.ref c_Gain) "restore" = some (some (.ref f_Gain_restore)))
    (iGain_restore : PySem.W.isFn K (.ref f_Gain_restore) = true)
    (lGain_restore : K.lookup f_Gain_restore = some ⟨oc_Gain_restore, od_Gain_restore, .func (PySem.W.fnOf "restore" "Gain.restore" (defArgs s_Gain_restore) (defBody s_Gain_restore) (defScope s_Gain_restore) .none kV_Gain_restore dc_Gain_restore pm_Gain_restore an_Gain_restore cd_Gain_restore ct_Gain_restore), sl_Gain_restore⟩)
    (cGain_restore : PySem.W.codeIn K cd_Gain_restore "Gain.restore" = true)
    (kGain_restore : PySem.W.keepIn K (.ref f_Gain_restore) = true)
    (aDelay_init : PySem.W.findIn K (.ref c_Delay) "__init__" = some (some (.ref f_Delay_init)))
    (iDelay_init : PySem.W.isFn K (.ref f_Delay_init) = true)
    (lDelay_init : K.lookup f_Delay_init = some ⟨oc_Delay_init, od_Delay_init, .func (PySem.W.fnOf "__init__" "Delay.__init__" (defArgs s_Delay_init) (defBody s_Delay_init) (defScope s_Delay_init) .none kV_Delay_init dc_Delay_init pm_Delay_init an_Delay_init cd_Delay_init ct_Delay_init), sl_Delay_init⟩)
    (cDelay_init : PySem.W.codeIn K cd_Delay_init "Delay.__init__" = true)
    (kDelay_init : PySem.W.keepIn K (.ref f_Delay_init) = true)
    (aDelay_process : PySem.W.findIn K (.ref c_Delay) "process" = some (some (.ref f_Delay_process)))
    (iDelay_process : PySem.W.isFn K (.ref f_Delay_process) = true)
    (lDelay_process : K.lookup f_Delay_process = some ⟨oc_Delay_process, od_Delay_process, .func (PySem.W.fnOf "process" "Delay.process" (defArgs s_Delay_process) (defBody s_Delay_process) (defScope s_Delay_process) .none kV_Delay_process dc_Delay_process pm_Delay_process an_Delay_process cd_Delay_process ct_Delay_process), sl_Delay_process⟩)
    (cDelay_process : PySem.W.codeIn K cd_Delay_process "Delay.process" = true)
    (kDelay_process : PySem.W.keepIn K (.ref f_Delay_process) = true)
    (aDelay_state : PySem.W.findIn K (.ref c_Delay) "state" = some (some (.ref f_Delay_state)))
    (iDelay_state : PySem.W.isFn K (.ref f_Delay_state) = true)
    (lDelay_state : K.lookup f_Delay_state = some ⟨oc_Delay_state, od_Delay_state, .func (PySem.W.fnOf "state" "Delay.state" (defArgs s_Delay_state) (defBody s_Delay_state) (defScope s_Delay_state) .none kV_Delay_state dc_Delay_state pm_Delay_state an_Delay_state cd_Delay_state ct_Delay_state), sl_Delay_state⟩)
    (cDelay_state : PySem.W.codeIn K cd_Delay_state "Delay.state" = true)
    (kDelay_state : PySem.W.keepIn K (.ref f_Delay_state) = true)
    (aDelay_restore : PySem.W.findIn K (.ref c_Delay) "restore" = some (some (.ref f_Delay_restore)))
    (iDelay_restore : PySem.W.isFn K (.ref f_Delay_restore) = true)
    (lDelay_restore : K.lookup f_Delay_restore = some ⟨oc_Delay_restore, od_Delay_restore, .func (PySem.W.fnOf "restore" "Delay.restore" (defArgs s_Delay_restore) (defBody s_Delay_restore) (defScope s_Delay_restore) .none kV_Delay_restore dc_Delay_restore pm_Delay_restore an_Delay_restore cd_Delay_restore ct_Delay_restore), sl_Delay_restore⟩)
    (cDelay_restore : PySem.W.codeIn K cd_Delay_restore "Delay.restore" = true)
    (kDelay_restore : PySem.W.keepIn K (.ref f_Delay_restore) = true)
    (aSmooth_init : PySem.W.findIn K (.ref c_Smooth) "__init__" = some (some (.ref f_Smooth_init)))
    (iSmooth_init : PySem.W.isFn K (.ref f_Smooth_init) = true)
    (lSmooth_init : K.lookup f_Smooth_init = some ⟨oc_Smooth_init, od_Smooth_init, .func (PySem.W.fnOf "__init__" "Smooth.__init__" (defArgs s_Smooth_init) (defBody s_Smooth_init) (defScope s_Smooth_init) .none kV_Smooth_init dc_Smooth_init pm_Smooth_init an_Smooth_init cd_Smooth_init ct_Smooth_init), sl_Smooth_init⟩)
    (cSmooth_init : PySem.W.codeIn K cd_Smooth_init "Smooth.__init__" = true)
    (kSmooth_init : PySem.W.keepIn K (.ref f_Smooth_init) = true)
    (aSmooth_process : PySem.W.findIn K (.ref c_Smooth) "process" = some (some (.ref f_Smooth_process)))
    (iSmooth_process : PySem.W.isFn K (.ref f_Smooth_process) = true)
    (lSmooth_process : K.lookup f_Smooth_process = some ⟨oc_Smooth_process, od_Smooth_process, .func (PySem.W.fnOf "process" "Smooth.process" (defArgs s_Smooth_process) (defBody s_Smooth_process) (defScope s_Smooth_process) .none kV_Smooth_process dc_Smooth_process pm_Smooth_process an_Smooth_process cd_Smooth_process ct_Smooth_process), sl_Smooth_process⟩)
    (cSmooth_process : PySem.W.codeIn K cd_Smooth_process "Smooth.process" = true)
    (kSmooth_process : PySem.W.keepIn K (.ref f_Smooth_process) = true)
    (aSmooth_state : PySem.W.findIn K (.ref c_Smooth) "state" = some (some (.ref f_Smooth_state)))
    (iSmooth_state : PySem.W.isFn K (.ref f_Smooth_state) = true)
    (lSmooth_state : K.lookup f_Smooth_state = some ⟨oc_Smooth_state, od_Smooth_state, .func (PySem.W.fnOf "state" "Smooth.state" (defArgs s_Smooth_state) (defBody s_Smooth_state) (defScope s_Smooth_state) .none kV_Smooth_state dc_Smooth_state pm_Smooth_state an_Smooth_state cd_Smooth_state ct_Smooth_state), sl_Smooth_state⟩)
    (cSmooth_state : PySem.W.codeIn K cd_Smooth_state "Smooth.state" = true)
    (kSmooth_state : PySem.W.keepIn K (.ref f_Smooth_state) = true)
    (aSmooth_restore : PySem.W.findIn K (.ref c_Smooth) "restore" = some (some (.ref f_Smooth_restore)))
    (iSmooth_restore : PySem.W.isFn K (.ref f_Smooth_restore) = true)
    (lSmooth_restore : K.lookup f_Smooth_restore = some ⟨oc_Smooth_restore, od_Smooth_restore, .func (PySem.W.fnOf "restore" "Smooth.restore" (defArgs s_Smooth_restore) (defBody s_Smooth_restore) (defScope s_Smooth_restore) .none kV_Smooth_restore dc_Smooth_restore pm_Smooth_restore an_Smooth_restore cd_Smooth_restore ct_Smooth_restore), sl_Smooth_restore⟩)
    (cSmooth_restore : PySem.W.codeIn K cd_Smooth_restore "Smooth.restore" = true)
    (kSmooth_restore : PySem.W.keepIn K (.ref f_Smooth_restore) = true)
    (aAhead_init : PySem.W.findIn K (.ref c_Ahead) "__init__" = some (some (.ref f_Ahead_init)))
    (iAhead_init : PySem.W.isFn K (.ref f_Ahead_init) = true)
    (lAhead_init : K.lookup f_Ahead_init = some ⟨oc_Ahead_init, od_Ahead_init, .func (PySem.W.fnOf "__init__" "Ahead.__init__" (defArgs s_Ahead_init) (defBody s_Ahead_init) (defScope s_Ahead_init) .none kV_Ahead_init dc_Ahead_init pm_Ahead_init an_Ahead_init cd_Ahead_init ct_Ahead_init), sl_Ahead_init⟩)
    (cAhead_init : PySem.W.codeIn K cd_Ahead_init "Ahead.__init__" = true)
    (kAhead_init : PySem.W.keepIn K (.ref f_Ahead_init) = true)
    (aAhead_process : PySem.W.findIn K (.ref c_Ahead) "process" = some (some (.ref f_Ahead_process)))
    (iAhead_process : PySem.W.isFn K (.ref f_Ahead_process) = true)
    (lAhead_process : K.lookup f_Ahead_process = some ⟨oc_Ahead_process, od_Ahead_process, .func (PySem.W.fnOf "process" "Ahead.process" (defArgs s_Ahead_process) (defBody s_Ahead_process) (defScope s_Ahead_process) .none kV_Ahead_process dc_Ahead_process pm_Ahead_process an_Ahead_process cd_Ahead_process ct_Ahead_process), sl_Ahead_process⟩)
    (cAhead_process : PySem.W.codeIn K cd_Ahead_process "Ahead.process" = true)
    (kAhead_process : PySem.W.keepIn K (.ref f_Ahead_process) = true)
    (aAhead_state : PySem.W.findIn K (.ref c_Ahead) "state" = some (some (.ref f_Ahead_state)))
    (iAhead_state : PySem.W.isFn K (.ref f_Ahead_state) = true)
    (lAhead_state : K.lookup f_Ahead_state = some ⟨oc_Ahead_state, od_Ahead_state, .func (PySem.W.fnOf "state" "Ahead.state" (defArgs s_Ahead_state) (defBody s_Ahead_state) (defScope s_Ahead_state) .none kV_Ahead_state dc_Ahead_state pm_Ahead_state an_Ahead_state cd_Ahead_state ct_Ahead_state), sl_Ahead_state⟩)
    (cAhead_state : PySem.W.codeIn K cd_Ahead_state "Ahead.state" = true)
    (kAhead_state : PySem.W.keepIn K (.ref f_Ahead_state) = true)
    (aAhead_restore : PySem.W.findIn K (.ref c_Ahead) "restore" = some (some (.ref f_Ahead_restore)))
    (iAhead_restore : PySem.W.isFn K (.ref f_Ahead_restore) = true)
    (lAhead_restore : K.lookup f_Ahead_restore = some ⟨oc_Ahead_restore, od_Ahead_restore, .func (PySem.W.fnOf "restore" "Ahead.restore" (defArgs s_Ahead_restore) (defBody s_Ahead_restore) (defScope s_Ahead_restore) .none kV_Ahead_restore dc_Ahead_restore pm_Ahead_restore an_Ahead_restore cd_Ahead_restore ct_Ahead_restore), sl_Ahead_restore⟩)
    (cAhead_restore : PySem.W.codeIn K cd_Ahead_restore "Ahead.restore" = true)
    (kAhead_restore : PySem.W.keepIn K (.ref f_Ahead_restore) = true)
    (aeffect_of : PySem.W.nsIn K mainGlobals "effect_of" = some (some (.ref f_effect_of)))
    (leffect_of : K.lookup f_effect_of = some ⟨oc_effect_of, od_effect_of, .func (PySem.W.fnOf "effect_of" "effect_of" (defArgs s_effect_of) (defBody s_effect_of) (defScope s_effect_of) .none kV_effect_of dc_effect_of pm_effect_of an_effect_of cd_effect_of ct_effect_of), sl_effect_of⟩)
    (ceffect_of : PySem.W.codeIn K cd_effect_of "effect_of" = true)
    (keffect_of : PySem.W.keepIn K (.ref f_effect_of) = true)
    (al_deck : PySem.W.nsIn K mainGlobals "_law_deck" = some (some (.ref f_l_deck)))
    (ll_deck : K.lookup f_l_deck = some ⟨oc_l_deck, od_l_deck, .func (PySem.W.fnOf "_law_deck" "_law_deck" (defArgs s_l_deck) (defBody s_l_deck) (defScope s_l_deck) .none kV_l_deck dc_l_deck pm_l_deck an_l_deck cd_l_deck ct_l_deck), sl_l_deck⟩)
    (cl_deck : PySem.W.codeIn K cd_l_deck "_law_deck" = true)
    (kl_deck : PySem.W.keepIn K (.ref f_l_deck) = true)
    (al_draw : PySem.W.nsIn K mainGlobals "_law_draw" = some (some (.ref f_l_draw)))
    (ll_draw : K.lookup f_l_draw = some ⟨oc_l_draw, od_l_draw, .func (PySem.W.fnOf "_law_draw" "_law_draw" (defArgs s_l_draw) (defBody s_l_draw) (defScope s_l_draw) .none kV_l_draw dc_l_draw pm_l_draw an_l_draw cd_l_draw ct_l_draw), sl_l_draw⟩)
    (cl_draw : PySem.W.codeIn K cd_l_draw "_law_draw" = true)
    (kl_draw : PySem.W.keepIn K (.ref f_l_draw) = true)
    (al_sample : PySem.W.nsIn K mainGlobals "_law_sample" = some (some (.ref f_l_sample)))
    (ll_sample : K.lookup f_l_sample = some ⟨oc_l_sample, od_l_sample, .func (PySem.W.fnOf "_law_sample" "_law_sample" (defArgs s_l_sample) (defBody s_l_sample) (defScope s_l_sample) .none kV_l_sample dc_l_sample pm_l_sample an_l_sample cd_l_sample ct_l_sample), sl_l_sample⟩)
    (cl_sample : PySem.W.codeIn K cd_l_sample "_law_sample" = true)
    (kl_sample : PySem.W.keepIn K (.ref f_l_sample) = true)
    (al_samples : PySem.W.nsIn K mainGlobals "_law_samples" = some (some (.ref f_l_samples)))
    (ll_samples : K.lookup f_l_samples = some ⟨oc_l_samples, od_l_samples, .func (PySem.W.fnOf "_law_samples" "_law_samples" (defArgs s_l_samples) (defBody s_l_samples) (defScope s_l_samples) .none kV_l_samples dc_l_samples pm_l_samples an_l_samples cd_l_samples ct_l_samples), sl_l_samples⟩)
    (cl_samples : PySem.W.codeIn K cd_l_samples "_law_samples" = true)
    (kl_samples : PySem.W.keepIn K (.ref f_l_samples) = true)
    (al_gain : PySem.W.nsIn K mainGlobals "_law_gain" = some (some (.ref f_l_gain)))
    (ll_gain : K.lookup f_l_gain = some ⟨oc_l_gain, od_l_gain, .func (PySem.W.fnOf "_law_gain" "_law_gain" (defArgs s_l_gain) (defBody s_l_gain) (defScope s_l_gain) .none kV_l_gain dc_l_gain pm_l_gain an_l_gain cd_l_gain ct_l_gain), sl_l_gain⟩)
    (cl_gain : PySem.W.codeIn K cd_l_gain "_law_gain" = true)
    (kl_gain : PySem.W.keepIn K (.ref f_l_gain) = true)
    (al_tempo : PySem.W.nsIn K mainGlobals "_law_tempo" = some (some (.ref f_l_tempo)))
    (ll_tempo : K.lookup f_l_tempo = some ⟨oc_l_tempo, od_l_tempo, .func (PySem.W.fnOf "_law_tempo" "_law_tempo" (defArgs s_l_tempo) (defBody s_l_tempo) (defScope s_l_tempo) .none kV_l_tempo dc_l_tempo pm_l_tempo an_l_tempo cd_l_tempo ct_l_tempo), sl_l_tempo⟩)
    (cl_tempo : PySem.W.codeIn K cd_l_tempo "_law_tempo" = true)
    (kl_tempo : PySem.W.keepIn K (.ref f_l_tempo) = true)
    (al_points : PySem.W.nsIn K mainGlobals "_law_points" = some (some (.ref f_l_points)))
    (ll_points : K.lookup f_l_points = some ⟨oc_l_points, od_l_points, .func (PySem.W.fnOf "_law_points" "_law_points" (defArgs s_l_points) (defBody s_l_points) (defScope s_l_points) .none kV_l_points dc_l_points pm_l_points an_l_points cd_l_points ct_l_points), sl_l_points⟩)
    (cl_points : PySem.W.codeIn K cd_l_points "_law_points" = true)
    (kl_points : PySem.W.keepIn K (.ref f_l_points) = true)
    (al_spec : PySem.W.nsIn K mainGlobals "_law_spec" = some (some (.ref f_l_spec)))
    (ll_spec : K.lookup f_l_spec = some ⟨oc_l_spec, od_l_spec, .func (PySem.W.fnOf "_law_spec" "_law_spec" (defArgs s_l_spec) (defBody s_l_spec) (defScope s_l_spec) .none kV_l_spec dc_l_spec pm_l_spec an_l_spec cd_l_spec ct_l_spec), sl_l_spec⟩)
    (cl_spec : PySem.W.codeIn K cd_l_spec "_law_spec" = true)
    (kl_spec : PySem.W.keepIn K (.ref f_l_spec) = true)
    (al_cut : PySem.W.nsIn K mainGlobals "_law_cut" = some (some (.ref f_l_cut)))
    (ll_cut : K.lookup f_l_cut = some ⟨oc_l_cut, od_l_cut, .func (PySem.W.fnOf "_law_cut" "_law_cut" (defArgs s_l_cut) (defBody s_l_cut) (defScope s_l_cut) .none kV_l_cut dc_l_cut pm_l_cut an_l_cut cd_l_cut ct_l_cut), sl_l_cut⟩)
    (cl_cut : PySem.W.codeIn K cd_l_cut "_law_cut" = true)
    (kl_cut : PySem.W.keepIn K (.ref f_l_cut) = true)
    (al_through : PySem.W.nsIn K mainGlobals "_law_through" = some (some (.ref f_l_through)))
    (ll_through : K.lookup f_l_through = some ⟨oc_l_through, od_l_through, .func (PySem.W.fnOf "_law_through" "_law_through" (defArgs s_l_through) (defBody s_l_through) (defScope s_l_through) .none kV_l_through dc_l_through pm_l_through an_l_through cd_l_through ct_l_through), sl_l_through⟩)
    (cl_through : PySem.W.codeIn K cd_l_through "_law_through" = true)
    (kl_through : PySem.W.keepIn K (.ref f_l_through) = true)
    (al_frame : PySem.W.nsIn K mainGlobals "_law_frame" = some (some (.ref f_l_frame)))
    (ll_frame : K.lookup f_l_frame = some ⟨oc_l_frame, od_l_frame, .func (PySem.W.fnOf "_law_frame" "_law_frame" (defArgs s_l_frame) (defBody s_l_frame) (defScope s_l_frame) .none kV_l_frame dc_l_frame pm_l_frame an_l_frame cd_l_frame ct_l_frame), sl_l_frame⟩)
    (cl_frame : PySem.W.codeIn K cd_l_frame "_law_frame" = true)
    (kl_frame : PySem.W.keepIn K (.ref f_l_frame) = true)
    (al_value : PySem.W.nsIn K mainGlobals "_law_value" = some (some (.ref f_l_value)))
    (ll_value : K.lookup f_l_value = some ⟨oc_l_value, od_l_value, .func (PySem.W.fnOf "_law_value" "_law_value" (defArgs s_l_value) (defBody s_l_value) (defScope s_l_value) .none kV_l_value dc_l_value pm_l_value an_l_value cd_l_value ct_l_value), sl_l_value⟩)
    (cl_value : PySem.W.codeIn K cd_l_value "_law_value" = true)
    (kl_value : PySem.W.keepIn K (.ref f_l_value) = true)
    (al_before : PySem.W.nsIn K mainGlobals "_law_before" = some (some (.ref f_l_before)))
    (ll_before : K.lookup f_l_before = some ⟨oc_l_before, od_l_before, .func (PySem.W.fnOf "_law_before" "_law_before" (defArgs s_l_before) (defBody s_l_before) (defScope s_l_before) .none kV_l_before dc_l_before pm_l_before an_l_before cd_l_before ct_l_before), sl_l_before⟩)
    (cl_before : PySem.W.codeIn K cd_l_before "_law_before" = true)
    (kl_before : PySem.W.keepIn K (.ref f_l_before) = true)
    (al_smoothed : PySem.W.nsIn K mainGlobals "_law_smoothed" = some (some (.ref f_l_smoothed)))
    (ll_smoothed : K.lookup f_l_smoothed = some ⟨oc_l_smoothed, od_l_smoothed, .func (PySem.W.fnOf "_law_smoothed" "_law_smoothed" (defArgs s_l_smoothed) (defBody s_l_smoothed) (defScope s_l_smoothed) .none kV_l_smoothed dc_l_smoothed pm_l_smoothed an_l_smoothed cd_l_smoothed ct_l_smoothed), sl_l_smoothed⟩)
    (cl_smoothed : PySem.W.codeIn K cd_l_smoothed "_law_smoothed" = true)
    (kl_smoothed : PySem.W.keepIn K (.ref f_l_smoothed) = true)
    (al_meant : PySem.W.nsIn K mainGlobals "_law_meant" = some (some (.ref f_l_meant)))
    (ll_meant : K.lookup f_l_meant = some ⟨oc_l_meant, od_l_meant, .func (PySem.W.fnOf "_law_meant" "_law_meant" (defArgs s_l_meant) (defBody s_l_meant) (defScope s_l_meant) .none kV_l_meant dc_l_meant pm_l_meant an_l_meant cd_l_meant ct_l_meant), sl_l_meant⟩)
    (cl_meant : PySem.W.codeIn K cd_l_meant "_law_meant" = true)
    (kl_meant : PySem.W.keepIn K (.ref f_l_meant) = true)
    (al_is_row : PySem.W.nsIn K mainGlobals "_law_is_row" = some (some (.ref f_l_is_row)))
    (ll_is_row : K.lookup f_l_is_row = some ⟨oc_l_is_row, od_l_is_row, .func (PySem.W.fnOf "_law_is_row" "_law_is_row" (defArgs s_l_is_row) (defBody s_l_is_row) (defScope s_l_is_row) .none kV_l_is_row dc_l_is_row pm_l_is_row an_l_is_row cd_l_is_row ct_l_is_row), sl_l_is_row⟩)
    (cl_is_row : PySem.W.codeIn K cd_l_is_row "_law_is_row" = true)
    (kl_is_row : PySem.W.keepIn K (.ref f_l_is_row) = true)
    (al_blocks : PySem.W.nsIn K mainGlobals "_law_blocks" = some (some (.ref f_l_blocks)))
    (ll_blocks : K.lookup f_l_blocks = some ⟨oc_l_blocks, od_l_blocks, .func (PySem.W.fnOf "_law_blocks" "_law_blocks" (defArgs s_l_blocks) (defBody s_l_blocks) (defScope s_l_blocks) .none kV_l_blocks dc_l_blocks pm_l_blocks an_l_blocks cd_l_blocks ct_l_blocks), sl_l_blocks⟩)
    (cl_blocks : PySem.W.codeIn K cd_l_blocks "_law_blocks" = true)
    (kl_blocks : PySem.W.keepIn K (.ref f_l_blocks) = true)
    (al_part : PySem.W.nsIn K mainGlobals "_law_part" = some (some (.ref f_l_part)))
    (ll_part : K.lookup f_l_part = some ⟨oc_l_part, od_l_part, .func (PySem.W.fnOf "_law_part" "_law_part" (defArgs s_l_part) (defBody s_l_part) (defScope s_l_part) .none kV_l_part dc_l_part pm_l_part an_l_part cd_l_part ct_l_part), sl_l_part⟩)
    (cl_part : PySem.W.codeIn K cd_l_part "_law_part" = true)
    (kl_part : PySem.W.keepIn K (.ref f_l_part) = true)
    (al_made : PySem.W.nsIn K mainGlobals "_law_made" = some (some (.ref f_l_made)))
    (ll_made : K.lookup f_l_made = some ⟨oc_l_made, od_l_made, .func (PySem.W.fnOf "_law_made" "_law_made" (defArgs s_l_made) (defBody s_l_made) (defScope s_l_made) .none kV_l_made dc_l_made pm_l_made an_l_made cd_l_made ct_l_made), sl_l_made⟩)
    (cl_made : PySem.W.codeIn K cd_l_made "_law_made" = true)
    (kl_made : PySem.W.keepIn K (.ref f_l_made) = true)
    (al_late : PySem.W.nsIn K mainGlobals "_law_late" = some (some (.ref f_l_late)))
    (ll_late : K.lookup f_l_late = some ⟨oc_l_late, od_l_late, .func (PySem.W.fnOf "_law_late" "_law_late" (defArgs s_l_late) (defBody s_l_late) (defScope s_l_late) .none kV_l_late dc_l_late pm_l_late an_l_late cd_l_late ct_l_late), sl_l_late⟩)
    (cl_late : PySem.W.codeIn K cd_l_late "_law_late" = true)
    (kl_late : PySem.W.keepIn K (.ref f_l_late) = true)
    (al_sent : PySem.W.nsIn K mainGlobals "_law_sent" = some (some (.ref f_l_sent)))
    (ll_sent : K.lookup f_l_sent = some ⟨oc_l_sent, od_l_sent, .func (PySem.W.fnOf "_law_sent" "_law_sent" (defArgs s_l_sent) (defBody s_l_sent) (defScope s_l_sent) .none kV_l_sent dc_l_sent pm_l_sent an_l_sent cd_l_sent ct_l_sent), sl_l_sent⟩)
    (cl_sent : PySem.W.codeIn K cd_l_sent "_law_sent" = true)
    (kl_sent : PySem.W.keepIn K (.ref f_l_sent) = true)
    (alaw : PySem.W.nsIn K mainGlobals "law" = some (some (.ref f_law)))
    (llaw : K.lookup f_law = some ⟨oc_law, od_law, .func (PySem.W.fnOf "law" "law" (defArgs s_law) (defBody s_law) (defScope s_law) .none kV_law dc_law pm_law an_law cd_law ct_law), sl_law⟩)
    (claw : PySem.W.codeIn K cd_law "law" = true)
    (klaw : PySem.W.keepIn K (.ref f_law) = true)
    (pg_DelayLine : PySem.W.plainGet K c_DelayLine Str.empty = true)
    (hd_DelayLine : PySem.W.hasDictIn K c_DelayLine = true)
    (po_DelayLine : PySem.W.plainOver K c_DelayLine = true)
    (sa_DelayLine : PySem.W.findIn K (.ref c_DelayLine) "__setattr__" = some (some (.builtin "object.__setattr__")))
    (mk_DelayLine : PySem.W.makesIn K c_DelayLine = true)
    (kc_DelayLine : PySem.W.keepIn K (.ref c_DelayLine) = true)
    (n_DelayLine_frames : PySem.W.findIn K (.ref c_DelayLine) "frames" = some none)
    (n_DelayLine_past : PySem.W.findIn K (.ref c_DelayLine) "past" = some none)
    (pg_Pass : PySem.W.plainGet K c_Pass Str.empty = true)
    (hd_Pass : PySem.W.hasDictIn K c_Pass = true)
    (po_Pass : PySem.W.plainOver K c_Pass = true)
    (sa_Pass : PySem.W.findIn K (.ref c_Pass) "__setattr__" = some (some (.builtin "object.__setattr__")))
    (mk_Pass : PySem.W.makesIn K c_Pass = true)
    (kc_Pass : PySem.W.keepIn K (.ref c_Pass) = true)
    (oi_Pass : PySem.W.findIn K (.ref c_Pass) "__init__" = some (some (.builtin "object.__init__")))
    (pg_Gain : PySem.W.plainGet K c_Gain Str.empty = true)
    (hd_Gain : PySem.W.hasDictIn K c_Gain = true)
    (po_Gain : PySem.W.plainOver K c_Gain = true)
    (sa_Gain : PySem.W.findIn K (.ref c_Gain) "__setattr__" = some (some (.builtin "object.__setattr__")))
    (mk_Gain : PySem.W.makesIn K c_Gain = true)
    (kc_Gain : PySem.W.keepIn K (.ref c_Gain) = true)
    (n_Gain_points : PySem.W.findIn K (.ref c_Gain) "points" = some none)
    (pg_Delay : PySem.W.plainGet K c_Delay Str.empty = true)
    (hd_Delay : PySem.W.hasDictIn K c_Delay = true)
    (po_Delay : PySem.W.plainOver K c_Delay = true)
    (sa_Delay : PySem.W.findIn K (.ref c_Delay) "__setattr__" = some (some (.builtin "object.__setattr__")))
    (mk_Delay : PySem.W.makesIn K c_Delay = true)
    (kc_Delay : PySem.W.keepIn K (.ref c_Delay) = true)
    (n_Delay_frames : PySem.W.findIn K (.ref c_Delay) "frames" = some none)
    (n_Delay_feedback : PySem.W.findIn K (.ref c_Delay) "feedback" = some none)
    (n_Delay_own : PySem.W.findIn K (.ref c_Delay) "own" = some none)
    (n_Delay_past : PySem.W.findIn K (.ref c_Delay) "past" = some none)
    (pg_Smooth : PySem.W.plainGet K c_Smooth Str.empty = true)
    (hd_Smooth : PySem.W.hasDictIn K c_Smooth = true)
    (po_Smooth : PySem.W.plainOver K c_Smooth = true)
    (sa_Smooth : PySem.W.findIn K (.ref c_Smooth) "__setattr__" = some (some (.builtin "object.__setattr__")))
    (mk_Smooth : PySem.W.makesIn K c_Smooth = true)
    (kc_Smooth : PySem.W.keepIn K (.ref c_Smooth) = true)
    (n_Smooth_k : PySem.W.findIn K (.ref c_Smooth) "k" = some none)
    (n_Smooth_value : PySem.W.findIn K (.ref c_Smooth) "value" = some none)
    (pg_Ahead : PySem.W.plainGet K c_Ahead Str.empty = true)
    (hd_Ahead : PySem.W.hasDictIn K c_Ahead = true)
    (po_Ahead : PySem.W.plainOver K c_Ahead = true)
    (sa_Ahead : PySem.W.findIn K (.ref c_Ahead) "__setattr__" = some (some (.builtin "object.__setattr__")))
    (mk_Ahead : PySem.W.makesIn K c_Ahead = true)
    (kc_Ahead : PySem.W.keepIn K (.ref c_Ahead) = true)
    (n_Ahead_frames : PySem.W.findIn K (.ref c_Ahead) "frames" = some none)
    (n_Ahead_ceiling : PySem.W.findIn K (.ref c_Ahead) "ceiling" = some none)
    (n_Ahead_past : PySem.W.findIn K (.ref c_Ahead) "past" = some none)
    (z_len : PySem.W.nsIn K mainGlobals "len" = some none)
    (z_max : PySem.W.nsIn K mainGlobals "max" = some none)
    (z_min : PySem.W.nsIn K mainGlobals "min" = some none)
    (z_abs : PySem.W.nsIn K mainGlobals "abs" = some none)
    (z_isinstance : PySem.W.nsIn K mainGlobals "isinstance" = some none)
    (z_all : PySem.W.nsIn K mainGlobals "all" = some none)
    (z_int : PySem.W.nsIn K mainGlobals "int" = some none)
    (z_list : PySem.W.nsIn K mainGlobals "list" = some none)
    (z_tuple : PySem.W.nsIn K mainGlobals "tuple" = some none)
    (z_range : PySem.W.nsIn K mainGlobals "range" = some none)
    (z_enumerate : PySem.W.nsIn K mainGlobals "enumerate" = some none)
    (z_bool : PySem.W.nsIn K mainGlobals "bool" = some none)
    (g_SAMPLE_LEAST : PySem.W.nsIn K mainGlobals "SAMPLE_LEAST" = some (some (.int (-8388608) t_SAMPLE_LEAST)))
    (g_SAMPLE_MOST : PySem.W.nsIn K mainGlobals "SAMPLE_MOST" = some (some (.int (8388607) t_SAMPLE_MOST)))
    (g_GAIN_ONE : PySem.W.nsIn K mainGlobals "GAIN_ONE" = some (some (.int (65536) t_GAIN_ONE)))
    (g_PARTS : PySem.W.nsIn K mainGlobals "PARTS" = some (some (.ref a_PARTS)))
    (p_PARTS : K.lookup a_PARTS = some ⟨.type "tuple", od_PARTS, .seq its_PARTS n_PARTS, sl_PARTS⟩)
    (v_PARTS : Vals (PARTSV.map V.int) its_PARTS.toList)
    : Tx K mg where
  a_is_count := f_is_count
  d_is_count := PySem.W.fnOf "is_count" "is_count" (defArgs s_is_count) (defBody s_is_count) (defScope s_is_count) .none kV_is_count dc_is_count pm_is_count an_is_count cd_is_count ct_is_count
  F_is_count := fun_mk (st := s_is_count) lis_count cis_count kis_count
  g_is_count := PySem.W.mg_of X G ais_count
  b_is_count := (fun_mk (st := s_is_count) lis_count cis_count kis_count).binds (ps := P_is_count) fun _ _ _ _ _ _ us hl => match us, hl with | [_, _, _], _ => rfl
  a_is_sample := f_is_sample
  d_is_sample := PySem.W.fnOf "is_sample" "is_sample" (defArgs s_is_sample) (defBody s_is_sample) (defScope s_is_sample) .none kV_is_sample dc_is_sample pm_is_sample an_is_sample cd_is_sample ct_is_sample
  F_is_sample := fun_mk (st := s_is_sample) lis_sample cis_sample kis_sample
  g_is_sample := PySem.W.mg_of X G ais_sample
  b_is_sample := (fun_mk (st := s_is_sample) lis_sample cis_sample kis_sample).binds (ps := P_is_sample) fun _ _ _ _ _ _ us hl => match us, hl with | [_], _ => rfl
  a_cut := f_cut
  d_cut := PySem.W.fnOf "cut" "cut" (defArgs s_cut) (defBody s_cut) (defScope s_cut) .none kV_cut dc_cut pm_cut an_cut cd_cut ct_cut
  F_cut := fun_mk (st := s_cut) lcut ccut kcut
  g_cut := PySem.W.mg_of X G acut
  b_cut := (fun_mk (st := s_cut) lcut ccut kcut).binds (ps := P_cut) fun _ _ _ _ _ _ us hl => match us, hl with | [_], _ => rfl
  a_through := f_through
  d_through := PySem.W.fnOf "through" "through" (defArgs s_through) (defBody s_through) (defScope s_through) .none kV_through dc_through pm_through an_through cd_through ct_through
  F_through := fun_mk (st := s_through) lthrough cthrough kthrough
  g_through := PySem.W.mg_of X G athrough
  b_through := (fun_mk (st := s_through) lthrough cthrough kthrough).binds (ps := P_through) fun _ _ _ _ _ _ us hl => match us, hl with | [_, _], _ => rfl
  a_greatest_divisor := f_greatest_divisor
  d_greatest_divisor := PySem.W.fnOf "greatest_divisor" "greatest_divisor" (defArgs s_greatest_divisor) (defBody s_greatest_divisor) (defScope s_greatest_divisor) .none kV_greatest_divisor dc_greatest_divisor pm_greatest_divisor an_greatest_divisor cd_greatest_divisor ct_greatest_divisor
  F_greatest_divisor := fun_mk (st := s_greatest_divisor) lgreatest_divisor cgreatest_divisor kgreatest_divisor
  g_greatest_divisor := PySem.W.mg_of X G agreatest_divisor
  b_greatest_divisor := (fun_mk (st := s_greatest_divisor) lgreatest_divisor cgreatest_divisor kgreatest_divisor).binds (ps := P_greatest_divisor) fun _ _ _ _ _ _ us hl => match us, hl with | [_, _], _ => rfl
  a_common_denominator := f_common_denominator
  d_common_denominator := PySem.W.fnOf "common_denominator" "common_denominator" (defArgs s_common_denominator) (defBody s_common_denominator) (defScope s_common_denominator) .none kV_common_denominator dc_common_denominator pm_common_denominator an_common_denominator cd_common_denominator ct_common_denominator
  F_common_denominator := fun_mk (st := s_common_denominator) lcommon_denominator ccommon_denominator kcommon_denominator
  g_common_denominator := PySem.W.mg_of X G acommon_denominator
  b_common_denominator := (fun_mk (st := s_common_denominator) lcommon_denominator ccommon_denominator kcommon_denominator).binds (ps := P_common_denominator) fun _ _ _ _ _ _ us hl => match us, hl with | [_], _ => rfl
  a_units_of := f_units_of
  d_units_of := PySem.W.fnOf "units_of" "units_of" (defArgs s_units_of) (defBody s_units_of) (defScope s_units_of) .none kV_units_of dc_units_of pm_units_of an_units_of cd_units_of ct_units_of
  F_units_of := fun_mk (st := s_units_of) lunits_of cunits_of kunits_of
  g_units_of := PySem.W.mg_of X G aunits_of
  b_units_of := (fun_mk (st := s_units_of) lunits_of cunits_of kunits_of).binds (ps := P_units_of) fun _ _ _ _ _ _ us hl => match us, hl with | [_, _], _ => rfl
  a_frame_of := f_frame_of
  d_frame_of := PySem.W.fnOf "frame_of" "frame_of" (defArgs s_frame_of) (defBody s_frame_of) (defScope s_frame_of) .none kV_frame_of dc_frame_of pm_frame_of an_frame_of cd_frame_of ct_frame_of
  F_frame_of := fun_mk (st := s_frame_of) lframe_of cframe_of kframe_of
  g_frame_of := PySem.W.mg_of X G aframe_of
  b_frame_of := (fun_mk (st := s_frame_of) lframe_of cframe_of kframe_of).binds (ps := P_frame_of) fun _ _ _ _ _ _ us hl => match us, hl with | [_, _], _ => rfl
  a_in_frames := f_in_frames
  d_in_frames := PySem.W.fnOf "in_frames" "in_frames" (defArgs s_in_frames) (defBody s_in_frames) (defScope s_in_frames) .none kV_in_frames dc_in_frames pm_in_frames an_in_frames cd_in_frames ct_in_frames
  F_in_frames := fun_mk (st := s_in_frames) lin_frames cin_frames kin_frames
  g_in_frames := PySem.W.mg_of X G ain_frames
  b_in_frames := (fun_mk (st := s_in_frames) lin_frames cin_frames kin_frames).binds (ps := P_in_frames) fun _ _ _ _ _ _ us hl => match us, hl with | [_, _], _ => rfl
  a_value_at := f_value_at
  d_value_at := PySem.W.fnOf "value_at" "value_at" (defArgs s_value_at) (defBody s_value_at) (defScope s_value_at) .none kV_value_at dc_value_at pm_value_at an_value_at cd_value_at ct_value_at
  F_value_at := fun_mk (st := s_value_at) lvalue_at cvalue_at kvalue_at
  g_value_at := PySem.W.mg_of X G avalue_at
  b_value_at := (fun_mk (st := s_value_at) lvalue_at cvalue_at kvalue_at).binds (ps := P_value_at) fun _ _ _ _ _ _ us hl => match us, hl with | [_, _], _ => rfl
  a_is_past := f_is_past
  d_is_past := PySem.W.fnOf "is_past" "is_past" (defArgs s_is_past) (defBody s_is_past) (defScope s_is_past) .none kV_is_past dc_is_past pm_is_past an_is_past cd_is_past ct_is_past
  F_is_past := fun_mk (st := s_is_past) lis_past cis_past kis_past
  g_is_past := PySem.W.mg_of X G ais_past
  b_is_past := (fun_mk (st := s_is_past) lis_past cis_past kis_past).binds (ps := P_is_past) fun _ _ _ _ _ _ us hl => match us, hl with | [_, _], _ => rfl
  a_DelayLine_init := f_DelayLine_init
  d_DelayLine_init := PySem.W.fnOf "__init__" "DelayLine.__init__" (defArgs s_DelayLine_init) (defBody s_DelayLine_init) (defScope s_DelayLine_init) .none kV_DelayLine_init dc_DelayLine_init pm_DelayLine_init an_DelayLine_init cd_DelayLine_init ct_DelayLine_init
  F_DelayLine_init := fun_mk (st := s_DelayLine_init) lDelayLine_init cDelayLine_init kDelayLine_init
  b_DelayLine_init := (fun_mk (st := s_DelayLine_init) lDelayLine_init cDelayLine_init kDelayLine_init).binds (ps := P_DelayLine_init) fun _ _ _ _ _ _ us hl => match us, hl with | [_, _], _ => rfl
  a_DelayLine_process := f_DelayLine_process
  d_DelayLine_process := PySem.W.fnOf "process" "DelayLine.process" (defArgs s_DelayLine_process) (defBody s_DelayLine_process) (defScope s_DelayLine_process) .none kV_DelayLine_process dc_DelayLine_process pm_DelayLine_process an_DelayLine_process cd_DelayLine_process ct_DelayLine_process
  F_DelayLine_process := fun_mk (st := s_DelayLine_process) lDelayLine_process cDelayLine_process kDelayLine_process
  b_DelayLine_process := (fun_mk (st := s_DelayLine_process) lDelayLine_process cDelayLine_process kDelayLine_process).binds (ps := P_DelayLine_process) fun _ _ _ _ _ _ us hl => match us, hl with | [_, _], _ => rfl
  a_DelayLine_state := f_DelayLine_state
  d_DelayLine_state := PySem.W.fnOf "state" "DelayLine.state" (defArgs s_DelayLine_state) (defBody s_DelayLine_state) (defScope s_DelayLine_state) .none kV_DelayLine_state dc_DelayLine_state pm_DelayLine_state an_DelayLine_state cd_DelayLine_state ct_DelayLine_state
  F_DelayLine_state := fun_mk (st := s_DelayLine_state) lDelayLine_state cDelayLine_state kDelayLine_state
  b_DelayLine_state := (fun_mk (st := s_DelayLine_state) lDelayLine_state cDelayLine_state kDelayLine_state).binds (ps := P_DelayLine_state) fun _ _ _ _ _ _ us hl => match us, hl with | [_], _ => rfl
  a_DelayLine_restore := f_DelayLine_restore
  d_DelayLine_restore := PySem.W.fnOf "restore" "DelayLine.restore" (defArgs s_DelayLine_restore) (defBody s_DelayLine_restore) (defScope s_DelayLine_restore) .none kV_DelayLine_restore dc_DelayLine_restore pm_DelayLine_restore an_DelayLine_restore cd_DelayLine_restore ct_DelayLine_restore
  F_DelayLine_restore := fun_mk (st := s_DelayLine_restore) lDelayLine_restore cDelayLine_restore kDelayLine_restore
  b_DelayLine_restore := (fun_mk (st := s_DelayLine_restore) lDelayLine_restore cDelayLine_restore kDelayLine_restore).binds (ps := P_DelayLine_restore) fun _ _ _ _ _ _ us hl => match us, hl with | [_, _], _ => rfl
  a_latency_of := f_latency_of
  d_latency_of := PySem.W.fnOf "latency_of" "latency_of" (defArgs s_latency_of) (defBody s_latency_of) (defScope s_latency_of) .none kV_latency_of dc_latency_of pm_latency_of an_latency_of cd_latency_of ct_latency_of
  F_latency_of := fun_mk (st := s_latency_of) llatency_of clatency_of klatency_of
  g_latency_of := PySem.W.mg_of X G alatency_of
  b_latency_of := (fun_mk (st := s_latency_of) llatency_of clatency_of klatency_of).binds (ps := P_latency_of) fun _ _ _ _ _ _ us hl => match us, hl with | [_], _ => rfl
  a_toward := f_toward
  d_toward := PySem.W.fnOf "toward" "toward" (defArgs s_toward) (defBody s_toward) (defScope s_toward) .none kV_toward dc_toward pm_toward an_toward cd_toward ct_toward
  F_toward := fun_mk (st := s_toward) ltoward ctoward ktoward
  g_toward := PySem.W.mg_of X G atoward
  b_toward := (fun_mk (st := s_toward) ltoward ctoward ktoward).binds (ps := P_toward) fun _ _ _ _ _ _ us hl => match us, hl with | [_, _, _], _ => rfl
  a_turned_down := f_turned_down
  d_turned_down := PySem.W.fnOf "turned_down" "turned_down" (defArgs s_turned_down) (defBody s_turned_down) (defScope s_turned_down) .none kV_turned_down dc_turned_down pm_turned_down an_turned_down cd_turned_down ct_turned_down
  F_turned_down := fun_mk (st := s_turned_down) lturned_down cturned_down kturned_down
  g_turned_down := PySem.W.mg_of X G aturned_down
  b_turned_down := (fun_mk (st := s_turned_down) lturned_down cturned_down kturned_down).binds (ps := P_turned_down) fun _ _ _ _ _ _ us hl => match us, hl with | [_, _], _ => rfl
  a_Pass_process := f_Pass_process
  d_Pass_process := PySem.W.fnOf "process" "Pass.process" (defArgs s_Pass_process) (defBody s_Pass_process) (defScope s_Pass_process) .none kV_Pass_process dc_Pass_process pm_Pass_process an_Pass_process cd_Pass_process ct_Pass_process
  F_Pass_process := fun_mk (st := s_Pass_process) lPass_process cPass_process kPass_process
  b_Pass_process := (fun_mk (st := s_Pass_process) lPass_process cPass_process kPass_process).binds (ps := P_Pass_process) fun _ _ _ _ _ _ us hl => match us, hl with | [_, _, _], _ => rfl
  a_Pass_state := f_Pass_state
  d_Pass_state := PySem.W.fnOf "state" "Pass.state" (defArgs s_Pass_state) (defBody s_Pass_state) (defScope s_Pass_state) .none kV_Pass_state dc_Pass_state pm_Pass_state an_Pass_state cd_Pass_state ct_Pass_state
  F_Pass_state := fun_mk (st := s_Pass_state) lPass_state cPass_state kPass_state
  b_Pass_state := (fun_mk (st := s_Pass_state) lPass_state cPass_state kPass_state).binds (ps := P_Pass_state) fun _ _ _ _ _ _ us hl => match us, hl with | [_], _ => rfl
  a_Pass_restore := f_Pass_restore
  d_Pass_restore := PySem.W.fnOf "restore" "Pass.restore" (defArgs s_Pass_restore) (defBody s_Pass_restore) (defScope s_Pass_restore) .none kV_Pass_restore dc_Pass_restore pm_Pass_restore an_Pass_restore cd_Pass_restore ct_Pass_restore
  F_Pass_restore := fun_mk (st := s_Pass_restore) lPass_restore cPass_restore kPass_restore
  b_Pass_restore := (fun_mk (st := s_Pass_restore) lPass_restore cPass_restore kPass_restore).binds (ps := P_Pass_restore) fun _ _ _ _ _ _ us hl => match us, hl with | [_, _], _ => rfl
  a_Gain_init := f_Gain_init
  d_Gain_init := PySem.W.fnOf "__init__" "Gain.__init__" (defArgs s_Gain_init) (defBody s_Gain_init) (defScope s_Gain_init) .none kV_Gain_init dc_Gain_init pm_Gain_init an_Gain_init cd_Gain_init ct_Gain_init
  F_Gain_init := fun_mk (st := s_Gain_init) lGain_init cGain_init kGain_init
  b_Gain_init := (fun_mk (st := s_Gain_init) lGain_init cGain_init kGain_init).binds (ps := P_Gain_init) fun _ _ _ _ _ _ us hl => match us, hl with | [_, _], _ => rfl
  a_Gain_process := f_Gain_process
  d_Gain_process := PySem.W.fnOf "process" "Gain.process" (defArgs s_Gain_process) (defBody s_Gain_process) (defScope s_Gain_process) .none kV_Gain_process dc_Gain_process pm_Gain_process an_Gain_process cd_Gain_process ct_Gain_process
  F_Gain_process := fun_mk (st := s_Gain_process) lGain_process cGain_process kGain_process
  b_Gain_process := (fun_mk (st := s_Gain_process) lGain_process cGain_process kGain_process).binds (ps := P_Gain_process) fun _ _ _ _ _ _ us hl => match us, hl with | [_, _, _], _ => rfl
  a_Gain_state := f_Gain_state
  d_Gain_state := PySem.W.fnOf "state" "Gain.state" (defArgs s_Gain_state) (defBody s_Gain_state) (defScope s_Gain_state) .none kV_Gain_state dc_Gain_state pm_Gain_state an_Gain_state cd_Gain_state ct_Gain_state
  F_Gain_state := fun_mk (st := s_Gain_state) lGain_state cGain_state kGain_state
  b_Gain_state := (fun_mk (st := s_Gain_state) lGain_state cGain_state kGain_state).binds (ps := P_Gain_state) fun _ _ _ _ _ _ us hl => match us, hl with | [_], _ => rfl
  a_Gain_restore := f_Gain_restore
  d_Gain_restore := PySem.W.fnOf "restore" "Gain.restore" (defArgs s_Gain_restore) (defBody s_Gain_restore) (defScope s_Gain_restore) .none kV_Gain_restore dc_Gain_restore pm_Gain_restore an_Gain_restore cd_Gain_restore ct_Gain_restore
  F_Gain_restore := fun_mk (st := s_Gain_restore) lGain_restore cGain_restore kGain_restore
  b_Gain_restore := (fun_mk (st := s_Gain_restore) lGain_restore cGain_restore kGain_restore).binds (ps := P_Gain_restore) fun _ _ _ _ _ _ us hl => match us, hl with | [_, _], _ => rfl
  a_Delay_init := f_Delay_init
  d_Delay_init := PySem.W.fnOf "__init__" "Delay.__init__" (defArgs s_Delay_init) (defBody s_Delay_init) (defScope s_Delay_init) .none kV_Delay_init dc_Delay_init pm_Delay_init an_Delay_init cd_Delay_init ct_Delay_init
  F_Delay_init := fun_mk (st := s_Delay_init) lDelay_init cDelay_init kDelay_init
  b_Delay_init := (fun_mk (st := s_Delay_init) lDelay_init cDelay_init kDelay_init).binds (ps := P_Delay_init) fun _ _ _ _ _ _ us hl => match us, hl with | [_, _, _, _], _ => rfl
  a_Delay_process := f_Delay_process
  d_Delay_process := PySem.W.fnOf "process" "Delay.process" (defArgs s_Delay_process) (defBody s_Delay_process) (defScope s_Delay_process) .none kV_Delay_process dc_Delay_process pm_Delay_process an_Delay_process cd_Delay_process ct_Delay_process
  F_Delay_process := fun_mk (st := s_Delay_process) lDelay_process cDelay_process kDelay_process
  b_Delay_process := (fun_mk (st := s_Delay_process) lDelay_process cDelay_process kDelay_process).binds (ps := P_Delay_process) fun _ _ _ _ _ _ us hl => match us, hl with | [_, _, _], _ => rfl
  a_Delay_state := f_Delay_state
  d_Delay_state := PySem.W.fnOf "state" "Delay.state" (defArgs s_Delay_state) (defBody s_Delay_state) (defScope s_Delay_state) .none kV_Delay_state dc_Delay_state pm_Delay_state an_Delay_state cd_Delay_state ct_Delay_state
  F_Delay_state := fun_mk (st := s_Delay_state) lDelay_state cDelay_state kDelay_state
  b_Delay_state := (fun_mk (st := s_Delay_state) lDelay_state cDelay_state kDelay_state).binds (ps := P_Delay_state) fun _ _ _ _ _ _ us hl => match us, hl with | [_], _ => rfl
  a_Delay_restore := f_Delay_restore
  d_Delay_restore := PySem.W.fnOf "restore" "Delay.restore" (defArgs s_Delay_restore) (defBody s_Delay_restore) (defScope s_Delay_restore) .none kV_Delay_restore dc_Delay_restore pm_Delay_restore an_Delay_restore cd_Delay_restore ct_Delay_restore
  F_Delay_restore := fun_mk (st := s_Delay_restore) lDelay_restore cDelay_restore kDelay_restore
  b_Delay_restore := (fun_mk (st := s_Delay_restore) lDelay_restore cDelay_restore kDelay_restore).binds (ps := P_Delay_restore) fun _ _ _ _ _ _ us hl => match us, hl with | [_, _], _ => rfl
  a_Smooth_init := f_Smooth_init
  d_Smooth_init := PySem.W.fnOf "__init__" "Smooth.__init__" (defArgs s_Smooth_init) (defBody s_Smooth_init) (defScope s_Smooth_init) .none kV_Smooth_init dc_Smooth_init pm_Smooth_init an_Smooth_init cd_Smooth_init ct_Smooth_init
  F_Smooth_init := fun_mk (st := s_Smooth_init) lSmooth_init cSmooth_init kSmooth_init
  b_Smooth_init := (fun_mk (st := s_Smooth_init) lSmooth_init cSmooth_init kSmooth_init).binds (ps := P_Smooth_init) fun _ _ _ _ _ _ us hl => match us, hl with | [_, _], _ => rfl
  a_Smooth_process := f_Smooth_process
  d_Smooth_process := PySem.W.fnOf "process" "Smooth.process" (defArgs s_Smooth_process) (defBody s_Smooth_process) (defScope s_Smooth_process) .none kV_Smooth_process dc_Smooth_process pm_Smooth_process an_Smooth_process cd_Smooth_process ct_Smooth_process
  F_Smooth_process := fun_mk (st := s_Smooth_process) lSmooth_process cSmooth_process kSmooth_process
  b_Smooth_process := (fun_mk (st := s_Smooth_process) lSmooth_process cSmooth_process kSmooth_process).binds (ps := P_Smooth_process) fun _ _ _ _ _ _ us hl => match us, hl with | [_, _, _], _ => rfl
  a_Smooth_state := f_Smooth_state
  d_Smooth_state := PySem.W.fnOf "state" "Smooth.state" (defArgs s_Smooth_state) (defBody s_Smooth_state) (defScope s_Smooth_state) .none kV_Smooth_state dc_Smooth_state pm_Smooth_state an_Smooth_state cd_Smooth_state ct_Smooth_state
  F_Smooth_state := fun_mk (st := s_Smooth_state) lSmooth_state cSmooth_state kSmooth_state
  b_Smooth_state := (fun_mk (st := s_Smooth_state) lSmooth_state cSmooth_state kSmooth_state).binds (ps := P_Smooth_state) fun _ _ _ _ _ _ us hl => match us, hl with | [_], _ => rfl
  a_Smooth_restore := f_Smooth_restore
  d_Smooth_restore := PySem.W.fnOf "restore" "Smooth.restore" (defArgs s_Smooth_restore) (defBody s_Smooth_restore) (defScope s_Smooth_restore) .none kV_Smooth_restore dc_Smooth_restore pm_Smooth_restore an_Smooth_restore cd_Smooth_restore ct_Smooth_restore
  F_Smooth_restore := fun_mk (st := s_Smooth_restore) lSmooth_restore cSmooth_restore kSmooth_restore
  b_Smooth_restore := (fun_mk (st := s_Smooth_restore) lSmooth_restore cSmooth_restore kSmooth_restore).binds (ps := P_Smooth_restore) fun _ _ _ _ _ _ us hl => match us, hl with | [_, _], _ => rfl
  a_Ahead_init := f_Ahead_init
  d_Ahead_init := PySem.W.fnOf "__init__" "Ahead.__init__" (defArgs s_Ahead_init) (defBody s_Ahead_init) (defScope s_Ahead_init) .none kV_Ahead_init dc_Ahead_init pm_Ahead_init an_Ahead_init cd_Ahead_init ct_Ahead_init
  F_Ahead_init := fun_mk (st := s_Ahead_init) lAhead_init cAhead_init kAhead_init
  b_Ahead_init := (fun_mk (st := s_Ahead_init) lAhead_init cAhead_init kAhead_init).binds (ps := P_Ahead_init) fun _ _ _ _ _ _ us hl => match us, hl with | [_, _, _], _ => rfl
  a_Ahead_process := f_Ahead_process
  d_Ahead_process := PySem.W.fnOf "process" "Ahead.process" (defArgs s_Ahead_process) (defBody s_Ahead_process) (defScope s_Ahead_process) .none kV_Ahead_process dc_Ahead_process pm_Ahead_process an_Ahead_process cd_Ahead_process ct_Ahead_process
  F_Ahead_process := fun_mk (st := s_Ahead_process) lAhead_process cAhead_process kAhead_process
  b_Ahead_process := (fun_mk (st := s_Ahead_process) lAhead_process cAhead_process kAhead_process).binds (ps := P_Ahead_process) fun _ _ _ _ _ _ us hl => match us, hl with | [_, _, _], _ => rfl
  a_Ahead_state := f_Ahead_state
  d_Ahead_state := PySem.W.fnOf "state" "Ahead.state" (defArgs s_Ahead_state) (defBody s_Ahead_state) (defScope s_Ahead_state) .none kV_Ahead_state dc_Ahead_state pm_Ahead_state an_Ahead_state cd_Ahead_state ct_Ahead_state
  F_Ahead_state := fun_mk (st := s_Ahead_state) lAhead_state cAhead_state kAhead_state
  b_Ahead_state := (fun_mk (st := s_Ahead_state) lAhead_state cAhead_state kAhead_state).binds (ps := P_Ahead_state) fun _ _ _ _ _ _ us hl => match us, hl with | [_], _ => rfl
  a_Ahead_restore := f_Ahead_restore
  d_Ahead_restore := PySem.W.fnOf "restore" "Ahead.restore" (defArgs s_Ahead_restore) (defBody s_Ahead_restore) (defScope s_Ahead_restore) .none kV_Ahead_restore dc_Ahead_restore pm_Ahead_restore an_Ahead_restore cd_Ahead_restore ct_Ahead_restore
  F_Ahead_restore := fun_mk (st := s_Ahead_restore) lAhead_restore cAhead_restore kAhead_restore
  b_Ahead_restore := (fun_mk (st := s_Ahead_restore) lAhead_restore cAhead_restore kAhead_restore).binds (ps := P_Ahead_restore) fun _ _ _ _ _ _ us hl => match us, hl with | [_, _], _ => rfl
  a_effect_of := f_effect_of
  d_effect_of := PySem.W.fnOf "effect_of" "effect_of" (defArgs s_effect_of) (defBody s_effect_of) (defScope s_effect_of) .none kV_effect_of dc_effect_of pm_effect_of an_effect_of cd_effect_of ct_effect_of
  F_effect_of := fun_mk (st := s_effect_of) leffect_of ceffect_of keffect_of
  g_effect_of := PySem.W.mg_of X G aeffect_of
  b_effect_of := (fun_mk (st := s_effect_of) leffect_of ceffect_of keffect_of).binds (ps := P_effect_of) fun _ _ _ _ _ _ us hl => match us, hl with | [_, _], _ => rfl
  a_l_deck := f_l_deck
  d_l_deck := PySem.W.fnOf "_law_deck" "_law_deck" (defArgs s_l_deck) (defBody s_l_deck) (defScope s_l_deck) .none kV_l_deck dc_l_deck pm_l_deck an_l_deck cd_l_deck ct_l_deck
  F_l_deck := fun_mk (st := s_l_deck) ll_deck cl_deck kl_deck
  g_l_deck := PySem.W.mg_of X G al_deck
  b_l_deck := (fun_mk (st := s_l_deck) ll_deck cl_deck kl_deck).binds (ps := P_l_deck) fun _ _ _ _ _ _ us hl => match us, hl with | [_], _ => rfl
  a_l_draw := f_l_draw
  d_l_draw := PySem.W.fnOf "_law_draw" "_law_draw" (defArgs s_l_draw) (defBody s_l_draw) (defScope s_l_draw) .none kV_l_draw dc_l_draw pm_l_draw an_l_draw cd_l_draw ct_l_draw
  F_l_draw := fun_mk (st := s_l_draw) ll_draw cl_draw kl_draw
  g_l_draw := PySem.W.mg_of X G al_draw
  b_l_draw := (fun_mk (st := s_l_draw) ll_draw cl_draw kl_draw).binds (ps := P_l_draw) fun _ _ _ _ _ _ us hl => match us, hl with | [_, _], _ => rfl
  a_l_sample := f_l_sample
  d_l_sample := PySem.W.fnOf "_law_sample" "_law_sample" (defArgs s_l_sample) (defBody s_l_sample) (defScope s_l_sample) .none kV_l_sample dc_l_sample pm_l_sample an_l_sample cd_l_sample ct_l_sample
  F_l_sample := fun_mk (st := s_l_sample) ll_sample cl_sample kl_sample
  g_l_sample := PySem.W.mg_of X G al_sample
  b_l_sample := (fun_mk (st := s_l_sample) ll_sample cl_sample kl_sample).binds (ps := P_l_sample) fun _ _ _ _ _ _ us hl => match us, hl with | [_], _ => rfl
  a_l_samples := f_l_samples
  d_l_samples := PySem.W.fnOf "_law_samples" "_law_samples" (defArgs s_l_samples) (defBody s_l_samples) (defScope s_l_samples) .none kV_l_samples dc_l_samples pm_l_samples an_l_samples cd_l_samples ct_l_samples
  F_l_samples := fun_mk (st := s_l_samples) ll_samples cl_samples kl_samples
  g_l_samples := PySem.W.mg_of X G al_samples
  b_l_samples := (fun_mk (st := s_l_samples) ll_samples cl_samples kl_samples).binds (ps := P_l_samples) fun _ _ _ _ _ _ us hl => match us, hl with | [_, _], _ => rfl
  a_l_gain := f_l_gain
  d_l_gain := PySem.W.fnOf "_law_gain" "_law_gain" (defArgs s_l_gain) (defBody s_l_gain) (defScope s_l_gain) .none kV_l_gain dc_l_gain pm_l_gain an_l_gain cd_l_gain ct_l_gain
  F_l_gain := fun_mk (st := s_l_gain) ll_gain cl_gain kl_gain
  g_l_gain := PySem.W.mg_of X G al_gain
  b_l_gain := (fun_mk (st := s_l_gain) ll_gain cl_gain kl_gain).binds (ps := P_l_gain) fun _ _ _ _ _ _ us hl => match us, hl with | [_], _ => rfl
  a_l_tempo := f_l_tempo
  d_l_tempo := PySem.W.fnOf "_law_tempo" "_law_tempo" (defArgs s_l_tempo) (defBody s_l_tempo) (defScope s_l_tempo) .none kV_l_tempo dc_l_tempo pm_l_tempo an_l_tempo cd_l_tempo ct_l_tempo
  F_l_tempo := fun_mk (st := s_l_tempo) ll_tempo cl_tempo kl_tempo
  g_l_tempo := PySem.W.mg_of X G al_tempo
  b_l_tempo := (fun_mk (st := s_l_tempo) ll_tempo cl_tempo kl_tempo).binds (ps := P_l_tempo) fun _ _ _ _ _ _ us hl => match us, hl with | [_], _ => rfl
  a_l_points := f_l_points
  d_l_points := PySem.W.fnOf "_law_points" "_law_points" (defArgs s_l_points) (defBody s_l_points) (defScope s_l_points) .none kV_l_points dc_l_points pm_l_points an_l_points cd_l_points ct_l_points
  F_l_points := fun_mk (st := s_l_points) ll_points cl_points kl_points
  g_l_points := PySem.W.mg_of X G al_points
  b_l_points := (fun_mk (st := s_l_points) ll_points cl_points kl_points).binds (ps := P_l_points) fun _ _ _ _ _ _ us hl => match us, hl with | [_], _ => rfl
  a_l_spec := f_l_spec
  d_l_spec := PySem.W.fnOf "_law_spec" "_law_spec" (defArgs s_l_spec) (defBody s_l_spec) (defScope s_l_spec) .none kV_l_spec dc_l_spec pm_l_spec an_l_spec cd_l_spec ct_l_spec
  F_l_spec := fun_mk (st := s_l_spec) ll_spec cl_spec kl_spec
  g_l_spec := PySem.W.mg_of X G al_spec
  b_l_spec := (fun_mk (st := s_l_spec) ll_spec cl_spec kl_spec).binds (ps := P_l_spec) fun _ _ _ _ _ _ us hl => match us, hl with | [_], _ => rfl
  a_l_cut := f_l_cut
  d_l_cut := PySem.W.fnOf "_law_cut" "_law_cut" (defArgs s_l_cut) (defBody s_l_cut) (defScope s_l_cut) .none kV_l_cut dc_l_cut pm_l_cut an_l_cut cd_l_cut ct_l_cut
  F_l_cut := fun_mk (st := s_l_cut) ll_cut cl_cut kl_cut
  g_l_cut := PySem.W.mg_of X G al_cut
  b_l_cut := (fun_mk (st := s_l_cut) ll_cut cl_cut kl_cut).binds (ps := P_l_cut) fun _ _ _ _ _ _ us hl => match us, hl with | [_], _ => rfl
  a_l_through := f_l_through
  d_l_through := PySem.W.fnOf "_law_through" "_law_through" (defArgs s_l_through) (defBody s_l_through) (defScope s_l_through) .none kV_l_through dc_l_through pm_l_through an_l_through cd_l_through ct_l_through
  F_l_through := fun_mk (st := s_l_through) ll_through cl_through kl_through
  g_l_through := PySem.W.mg_of X G al_through
  b_l_through := (fun_mk (st := s_l_through) ll_through cl_through kl_through).binds (ps := P_l_through) fun _ _ _ _ _ _ us hl => match us, hl with | [_, _], _ => rfl
  a_l_frame := f_l_frame
  d_l_frame := PySem.W.fnOf "_law_frame" "_law_frame" (defArgs s_l_frame) (defBody s_l_frame) (defScope s_l_frame) .none kV_l_frame dc_l_frame pm_l_frame an_l_frame cd_l_frame ct_l_frame
  F_l_frame := fun_mk (st := s_l_frame) ll_frame cl_frame kl_frame
  g_l_frame := PySem.W.mg_of X G al_frame
  b_l_frame := (fun_mk (st := s_l_frame) ll_frame cl_frame kl_frame).binds (ps := P_l_frame) fun _ _ _ _ _ _ us hl => match us, hl with | [_, _], _ => rfl
  a_l_value := f_l_value
  d_l_value := PySem.W.fnOf "_law_value" "_law_value" (defArgs s_l_value) (defBody s_l_value) (defScope s_l_value) .none kV_l_value dc_l_value pm_l_value an_l_value cd_l_value ct_l_value
  F_l_value := fun_mk (st := s_l_value) ll_value cl_value kl_value
  g_l_value := PySem.W.mg_of X G al_value
  b_l_value := (fun_mk (st := s_l_value) ll_value cl_value kl_value).binds (ps := P_l_value) fun _ _ _ _ _ _ us hl => match us, hl with | [_, _], _ => rfl
  a_l_before := f_l_before
  d_l_before := PySem.W.fnOf "_law_before" "_law_before" (defArgs s_l_before) (defBody s_l_before) (defScope s_l_before) .none kV_l_before dc_l_before pm_l_before an_l_before cd_l_before ct_l_before
  F_l_before := fun_mk (st := s_l_before) ll_before cl_before kl_before
  g_l_before := PySem.W.mg_of X G al_before
  b_l_before := (fun_mk (st := s_l_before) ll_before cl_before kl_before).binds (ps := P_l_before) fun _ _ _ _ _ _ us hl => match us, hl with | [_, _], _ => rfl
  a_l_smoothed := f_l_smoothed
  d_l_smoothed := PySem.W.fnOf "_law_smoothed" "_law_smoothed" (defArgs s_l_smoothed) (defBody s_l_smoothed) (defScope s_l_smoothed) .none kV_l_smoothed dc_l_smoothed pm_l_smoothed an_l_smoothed cd_l_smoothed ct_l_smoothed
  F_l_smoothed := fun_mk (st := s_l_smoothed) ll_smoothed cl_smoothed kl_smoothed
  g_l_smoothed := PySem.W.mg_of X G al_smoothed
  b_l_smoothed := (fun_mk (st := s_l_smoothed) ll_smoothed cl_smoothed kl_smoothed).binds (ps := P_l_smoothed) fun _ _ _ _ _ _ us hl => match us, hl with | [_, _, _], _ => rfl
  a_l_meant := f_l_meant
  d_l_meant := PySem.W.fnOf "_law_meant" "_law_meant" (defArgs s_l_meant) (defBody s_l_meant) (defScope s_l_meant) .none kV_l_meant dc_l_meant pm_l_meant an_l_meant cd_l_meant ct_l_meant
  F_l_meant := fun_mk (st := s_l_meant) ll_meant cl_meant kl_meant
  g_l_meant := PySem.W.mg_of X G al_meant
  b_l_meant := (fun_mk (st := s_l_meant) ll_meant cl_meant kl_meant).binds (ps := P_l_meant) fun _ _ _ _ _ _ us hl => match us, hl with | [_, _, _, _], _ => rfl
  a_l_is_row := f_l_is_row
  d_l_is_row := PySem.W.fnOf "_law_is_row" "_law_is_row" (defArgs s_l_is_row) (defBody s_l_is_row) (defScope s_l_is_row) .none kV_l_is_row dc_l_is_row pm_l_is_row an_l_is_row cd_l_is_row ct_l_is_row
  F_l_is_row := fun_mk (st := s_l_is_row) ll_is_row cl_is_row kl_is_row
  g_l_is_row := PySem.W.mg_of X G al_is_row
  b_l_is_row := (fun_mk (st := s_l_is_row) ll_is_row cl_is_row kl_is_row).binds (ps := P_l_is_row) fun _ _ _ _ _ _ us hl => match us, hl with | [_, _], _ => rfl
  a_l_blocks := f_l_blocks
  d_l_blocks := PySem.W.fnOf "_law_blocks" "_law_blocks" (defArgs s_l_blocks) (defBody s_l_blocks) (defScope s_l_blocks) .none kV_l_blocks dc_l_blocks pm_l_blocks an_l_blocks cd_l_blocks ct_l_blocks
  F_l_blocks := fun_mk (st := s_l_blocks) ll_blocks cl_blocks kl_blocks
  g_l_blocks := PySem.W.mg_of X G al_blocks
  b_l_blocks := (fun_mk (st := s_l_blocks) ll_blocks cl_blocks kl_blocks).binds (ps := P_l_blocks) fun _ _ _ _ _ _ us hl => match us, hl with | [_, _], _ => rfl
  a_l_part := f_l_part
  d_l_part := PySem.W.fnOf "_law_part" "_law_part" (defArgs s_l_part) (defBody s_l_part) (defScope s_l_part) .none kV_l_part dc_l_part pm_l_part an_l_part cd_l_part ct_l_part
  F_l_part := fun_mk (st := s_l_part) ll_part cl_part kl_part
  g_l_part := PySem.W.mg_of X G al_part
  b_l_part := (fun_mk (st := s_l_part) ll_part cl_part kl_part).binds (ps := P_l_part) fun _ _ _ _ _ _ us hl => match us, hl with | [_], _ => rfl
  a_l_made := f_l_made
  d_l_made := PySem.W.fnOf "_law_made" "_law_made" (defArgs s_l_made) (defBody s_l_made) (defScope s_l_made) .none kV_l_made dc_l_made pm_l_made an_l_made cd_l_made ct_l_made
  F_l_made := fun_mk (st := s_l_made) ll_made cl_made kl_made
  g_l_made := PySem.W.mg_of X G al_made
  b_l_made := (fun_mk (st := s_l_made) ll_made cl_made kl_made).binds (ps := P_l_made) fun _ _ _ _ _ _ us hl => match us, hl with | [_, _], _ => rfl
  a_l_late := f_l_late
  d_l_late := PySem.W.fnOf "_law_late" "_law_late" (defArgs s_l_late) (defBody s_l_late) (defScope s_l_late) .none kV_l_late dc_l_late pm_l_late an_l_late cd_l_late ct_l_late
  F_l_late := fun_mk (st := s_l_late) ll_late cl_late kl_late
  g_l_late := PySem.W.mg_of X G al_late
  b_l_late := (fun_mk (st := s_l_late) ll_late cl_late kl_late).binds (ps := P_l_late) fun _ _ _ _ _ _ us hl => match us, hl with | [_], _ => rfl
  a_l_sent := f_l_sent
  d_l_sent := PySem.W.fnOf "_law_sent" "_law_sent" (defArgs s_l_sent) (defBody s_l_sent) (defScope s_l_sent) .none kV_l_sent dc_l_sent pm_l_sent an_l_sent cd_l_sent ct_l_sent
  F_l_sent := fun_mk (st := s_l_sent) ll_sent cl_sent kl_sent
  g_l_sent := PySem.W.mg_of X G al_sent
  b_l_sent := (fun_mk (st := s_l_sent) ll_sent cl_sent kl_sent).binds (ps := P_l_sent) fun _ _ _ _ _ _ us hl => match us, hl with | [_, _, _, _, _], _ => rfl
  a_law := f_law
  d_law := PySem.W.fnOf "law" "law" (defArgs s_law) (defBody s_law) (defScope s_law) .none kV_law dc_law pm_law an_law cd_law ct_law
  F_law := fun_mk (st := s_law) llaw claw klaw
  g_law := PySem.W.mg_of X G alaw
  b_law := (fun_mk (st := s_law) llaw claw klaw).binds (ps := P_law) fun _ _ _ _ _ _ us hl => match us, hl with | [_], _ => rfl
  c_DelayLine := c_DelayLine
  g_DelayLine := PySem.W.mg_of X G g_DelayLine
  cl_DelayLine := ⟨pg_DelayLine, hd_DelayLine, po_DelayLine, sa_DelayLine⟩
  mk_DelayLine := ⟨mk_DelayLine, aDelayLine_init, iDelayLine_init, kc_DelayLine⟩
  n_DelayLine_frames := n_DelayLine_frames
  n_DelayLine_past := n_DelayLine_past
  m_DelayLine_process := ⟨aDelayLine_process, iDelayLine_process, kDelayLine_process⟩
  m_DelayLine_state := ⟨aDelayLine_state, iDelayLine_state, kDelayLine_state⟩
  m_DelayLine_restore := ⟨aDelayLine_restore, iDelayLine_restore, kDelayLine_restore⟩
  c_Pass := c_Pass
  g_Pass := PySem.W.mg_of X G g_Pass
  cl_Pass := ⟨pg_Pass, hd_Pass, po_Pass, sa_Pass⟩
  mk_Pass := ⟨mk_Pass, oi_Pass, kc_Pass⟩
  m_Pass_process := ⟨aPass_process, iPass_process, kPass_process⟩
  m_Pass_state := ⟨aPass_state, iPass_state, kPass_state⟩
  m_Pass_restore := ⟨aPass_restore, iPass_restore, kPass_restore⟩
  c_Gain := c_Gain
  g_Gain := PySem.W.mg_of X G g_Gain
  cl_Gain := ⟨pg_Gain, hd_Gain, po_Gain, sa_Gain⟩
  mk_Gain := ⟨mk_Gain, aGain_init, iGain_init, kc_Gain⟩
  n_Gain_points := n_Gain_points
  m_Gain_process := ⟨aGain_process, iGain_process, kGain_process⟩
  m_Gain_state := ⟨aGain_state, iGain_state, kGain_state⟩
  m_Gain_restore := ⟨aGain_restore, iGain_restore, kGain_restore⟩
  c_Delay := c_Delay
  g_Delay := PySem.W.mg_of X G g_Delay
  cl_Delay := ⟨pg_Delay, hd_Delay, po_Delay, sa_Delay⟩
  mk_Delay := ⟨mk_Delay, aDelay_init, iDelay_init, kc_Delay⟩
  n_Delay_frames := n_Delay_frames
  n_Delay_feedback := n_Delay_feedback
  n_Delay_own := n_Delay_own
  n_Delay_past := n_Delay_past
  m_Delay_process := ⟨aDelay_process, iDelay_process, kDelay_process⟩
  m_Delay_state := ⟨aDelay_state, iDelay_state, kDelay_state⟩
  m_Delay_restore := ⟨aDelay_restore, iDelay_restore, kDelay_restore⟩
  c_Smooth := c_Smooth
  g_Smooth := PySem.W.mg_of X G g_Smooth
  cl_Smooth := ⟨pg_Smooth, hd_Smooth, po_Smooth, sa_Smooth⟩
  mk_Smooth := ⟨mk_Smooth, aSmooth_init, iSmooth_init, kc_Smooth⟩
  n_Smooth_k := n_Smooth_k
  n_Smooth_value := n_Smooth_value
  m_Smooth_process := ⟨aSmooth_process, iSmooth_process, kSmooth_process⟩
  m_Smooth_state := ⟨aSmooth_state, iSmooth_state, kSmooth_state⟩
  m_Smooth_restore := ⟨aSmooth_restore, iSmooth_restore, kSmooth_restore⟩
  c_Ahead := c_Ahead
  g_Ahead := PySem.W.mg_of X G g_Ahead
  cl_Ahead := ⟨pg_Ahead, hd_Ahead, po_Ahead, sa_Ahead⟩
  mk_Ahead := ⟨mk_Ahead, aAhead_init, iAhead_init, kc_Ahead⟩
  n_Ahead_frames := n_Ahead_frames
  n_Ahead_ceiling := n_Ahead_ceiling
  n_Ahead_past := n_Ahead_past
  m_Ahead_process := ⟨aAhead_process, iAhead_process, kAhead_process⟩
  m_Ahead_state := ⟨aAhead_state, iAhead_state, kAhead_state⟩
  m_Ahead_restore := ⟨aAhead_restore, iAhead_restore, kAhead_restore⟩
  z_len := PySem.W.mg_none_of X G z_len
  z_max := PySem.W.mg_none_of X G z_max
  z_min := PySem.W.mg_none_of X G z_min
  z_abs := PySem.W.mg_none_of X G z_abs
  z_isinstance := PySem.W.mg_none_of X G z_isinstance
  z_all := PySem.W.mg_none_of X G z_all
  z_int := PySem.W.mg_none_of X G z_int
  z_list := PySem.W.mg_none_of X G z_list
  z_tuple := PySem.W.mg_none_of X G z_tuple
  z_range := PySem.W.mg_none_of X G z_range
  z_enumerate := PySem.W.mg_none_of X G z_enumerate
  z_bool := PySem.W.mg_none_of X G z_bool
  t_SAMPLE_LEAST := t_SAMPLE_LEAST
  g_SAMPLE_LEAST := PySem.W.mg_of X G g_SAMPLE_LEAST
  t_SAMPLE_MOST := t_SAMPLE_MOST
  g_SAMPLE_MOST := PySem.W.mg_of X G g_SAMPLE_MOST
  t_GAIN_ONE := t_GAIN_ONE
  g_GAIN_ONE := PySem.W.mg_of X G g_GAIN_ONE
  a_PARTS := a_PARTS
  g_PARTS := PySem.W.mg_of X G g_PARTS
  p_PARTS := fun H => sqT_of_K p_PARTS v_PARTS (by show its_PARTS.toList.length ≤ 1000; rw [← v_PARTS.length]; decide)
theorem all_mk {l : PySem.W.OpenLaw} {w : World} {K : PySem.W.Frag} {h : Heap} {mg : Str → Option Value} {fa : Addr} (X : K.In h) (G : h.Ns mainGlobals mg) (hfa : mg "law" = some (.ref fa))
    {f_is_count f_is_sample f_cut f_through f_greatest_divisor f_common_denominator f_units_of f_frame_of f_in_frames f_value_at f_is_past f_DelayLine_init f_DelayLine_process f_DelayLine_state f_DelayLine_restore f_latency_of f_toward f_turned_down f_Pass_process f_Pass_state f_Pass_restore f_Gain_init f_Gain_process f_Gain_state f_Gain_restore f_Delay_init f_Delay_process f_Delay_state f_Delay_restore f_Smooth_init f_Smooth_process f_Smooth_state f_Smooth_restore f_Ahead_init f_Ahead_process f_Ahead_state f_Ahead_restore f_effect_of f_l_deck f_l_draw f_l_sample f_l_samples f_l_gain f_l_tempo f_l_points f_l_spec f_l_cut f_l_through f_l_frame f_l_value f_l_before f_l_smoothed f_l_meant f_l_is_row f_l_blocks f_l_part f_l_made f_l_late f_l_sent f_law c_DelayLine c_Pass c_Gain c_Delay c_Smooth c_Ahead a_PARTS : Addr}
    {od_is_count an_is_count od_is_sample an_is_sample od_cut an_cut od_through an_through od_greatest_divisor an_greatest_divisor od_common_denominator an_common_denominator od_units_of an_units_of od_frame_of an_frame_of od_in_frames an_in_frames od_value_at an_value_at od_is_past an_is_past od_DelayLine_init an_DelayLine_init od_DelayLine_process an_DelayLine_process od_DelayLine_state an_DelayLine_state od_DelayLine_restore an_DelayLine_restore od_latency_of an_latency_of od_toward an_toward od_turned_down an_turned_down od_Pass_process an_Pass_process od_Pass_state an_Pass_state od_Pass_restore an_Pass_restore od_Gain_init an_Gain_init od_Gain_process an_Gain_process od_Gain_state an_Gain_state od_Gain_restore an_Gain_restore od_Delay_init an_Delay_init od_Delay_process an_Delay_process od_Delay_state an_Delay_state od_Delay_restore an_Delay_restore od_Smooth_init an_Smooth_init od_Smooth_process an_Smooth_process od_Smooth_state an_Smooth_state od_Smooth_restore an_Smooth_restore od_Ahead_init an_Ahead_init od_Ahead_process an_Ahead_process od_Ahead_state an_Ahead_state od_Ahead_restore an_Ahead_restore od_effect_of an_effect_of od_l_deck an_l_deck od_l_draw an_l_draw od_l_sample an_l_sample od_l_samples an_l_samples od_l_gain an_l_gain od_l_tempo an_l_tempo od_l_points an_l_points od_l_spec an_l_spec od_l_cut an_l_cut od_l_through an_l_through od_l_frame an_l_frame od_l_value an_l_value od_l_before an_l_before od_l_smoothed an_l_smoothed od_l_meant an_l_meant od_l_is_row an_l_is_row od_l_blocks an_l_blocks od_l_part an_l_part od_l_made an_l_made od_l_late an_l_late od_l_sent an_l_sent od_law an_law od_PARTS : Option Addr}
    {sl_is_count sl_is_sample sl_cut sl_through sl_greatest_divisor sl_common_denominator sl_units_of sl_frame_of sl_in_frames sl_value_at sl_is_past sl_DelayLine_init sl_DelayLine_process sl_DelayLine_state sl_DelayLine_restore sl_latency_of sl_toward sl_turned_down sl_Pass_process sl_Pass_state sl_Pass_restore sl_Gain_init sl_Gain_process sl_Gain_state sl_Gain_restore sl_Delay_init sl_Delay_process sl_Delay_state sl_Delay_restore sl_Smooth_init sl_Smooth_process sl_Smooth_state sl_Smooth_restore sl_Ahead_init sl_Ahead_process sl_Ahead_state sl_Ahead_restore sl_effect_of sl_l_deck sl_l_draw sl_l_sample sl_l_samples sl_l_gain sl_l_tempo sl_l_points sl_l_spec sl_l_cut sl_l_through sl_l_frame sl_l_value sl_l_before sl_l_smoothed sl_l_meant sl_l_is_row sl_l_blocks sl_l_part sl_l_made sl_l_late sl_l_sent sl_law sl_PARTS : Array (Option Value)} {its_PARTS : Array Value} {n_PARTS : Nat}
    {oc_is_count kV_is_count dc_is_count pm_is_count cd_is_count ct_is_count oc_is_sample kV_is_sample dc_is_sample pm_is_sample cd_is_sample ct_is_sample oc_cut kV_cut dc_cut pm_cut cd_cut ct_cut oc_through kV_through dc_through pm_through cd_through ct_through oc_greatest_divisor kV_greatest_divisor dc_greatest_divisor pm_greatest_divisor cd_greatest_divisor ct_greatest_divisor oc_common_denominator kV_common_denominator dc_common_denominator pm_common_denominator cd_common_denominator ct_common_denominator oc_units_of kV_units_of dc_units_of pm_units_of cd_units_of ct_units_of oc_frame_of kV_frame_of dc_frame_of pm_frame_of cd_frame_of ct_frame_of oc_in_frames kV_in_frames dc_in_frames pm_in_frames cd_in_frames ct_in_frames oc_value_at kV_value_at dc_value_at pm_value_at cd_value_at ct_value_at oc_is_past kV_is_past dc_is_past pm_is_past cd_is_past ct_is_past oc_DelayLine_init kV_DelayLine_init dc_DelayLine_init pm_DelayLine_init cd_DelayLine_init ct_DelayLine_init oc_DelayLine_process kV_DelayLine_process dc_DelayLine_process pm_DelayLine_process cd_DelayLine_process ct_DelayLine_process oc_DelayLine_state kV_DelayLine_state dc_DelayLine_state pm_DelayLine_state cd_DelayLine_state ct_DelayLine_state oc_DelayLine_restore kV_DelayLine_restore dc_DelayLine_restore pm_DelayLine_restore cd_DelayLine_restore ct_DelayLine_restore oc_latency_of kV_latency_of dc_latency_of pm_latency_of cd_latency_of ct_latency_of oc_toward kV_toward dc_toward pm_toward cd_toward ct_toward oc_turned_down kV_turned_down dc_turned_down pm_turned_down cd_turned_down ct_turned_down oc_Pass_process kV_Pass_process dc_Pass_process pm_Pass_process cd_Pass_process ct_Pass_process oc_Pass_state kV_Pass_state dc_Pass_state pm_Pass_state cd_Pass_state ct_Pass_state oc_Pass_restore kV_Pass_restore dc_Pass_restore pm_Pass_restore cd_Pass_restore ct_Pass_restore oc_Gain_init kV_Gain_init dc_Gain_init pm_Gain_init cd_Gain_init ct_Gain_init oc_Gain_process kV_Gain_process dc_Gain_process pm_Gain_process cd_Gain_process ct_Gain_process oc_Gain_state kV_Gain_state dc_Gain_state pm_Gain_state cd_Gain_state ct_Gain_state oc_Gain_restore kV_Gain_restore dc_Gain_restore pm_Gain_restore cd_Gain_restore ct_Gain_restore oc_Delay_init kV_Delay_init dc_Delay_init pm_Delay_init cd_Delay_init ct_Delay_init oc_Delay_process kV_Delay_process dc_Delay_process pm_Delay_process cd_Delay_process ct_Delay_process oc_Delay_state kV_Delay_state dc_Delay_state pm_Delay_state cd_Delay_state ct_Delay_state oc_Delay_restore kV_Delay_restore dc_Delay_restore pm_Delay_restore cd_Delay_restore ct_Delay_restore oc_Smooth_init kV_Smooth_init dc_Smooth_init pm_Smooth_init cd_Smooth_init ct_Smooth_init oc_Smooth_process kV_Smooth_process dc_Smooth_process pm_Smooth_process cd_Smooth_process ct_Smooth_process oc_Smooth_state kV_Smooth_state dc_Smooth_state pm_Smooth_state cd_Smooth_state ct_Smooth_state oc_Smooth_restore kV_Smooth_restore dc_Smooth_restore pm_Smooth_restore cd_Smooth_restore ct_Smooth_restore oc_Ahead_init kV_Ahead_init dc_Ahead_init pm_Ahead_init cd_Ahead_init ct_Ahead_init oc_Ahead_process kV_Ahead_process dc_Ahead_process pm_Ahead_process cd_Ahead_process ct_Ahead_process oc_Ahead_state kV_Ahead_state dc_Ahead_state pm_Ahead_state cd_Ahead_state ct_Ahead_state oc_Ahead_restore kV_Ahead_restore dc_Ahead_restore pm_Ahead_restore cd_Ahead_restore ct_Ahead_restore oc_effect_of kV_effect_of dc_effect_of pm_effect_of cd_effect_of ct_effect_of oc_l_deck kV_l_deck dc_l_deck pm_l_deck cd_l_deck ct_l_deck oc_l_draw kV_l_draw dc_l_draw pm_l_draw cd_l_draw ct_l_draw oc_l_sample kV_l_sample dc_l_sample pm_l_sample cd_l_sample ct_l_sample oc_l_samples kV_l_samples dc_l_samples pm_l_samples cd_l_samples ct_l_samples oc_l_gain kV_l_gain dc_l_gain pm_l_gain cd_l_gain ct_l_gain oc_l_tempo kV_l_tempo dc_l_tempo pm_l_tempo cd_l_tempo ct_l_tempo oc_l_points kV_l_points dc_l_points pm_l_points cd_l_points ct_l_points oc_l_spec kV_l_spec dc_l_spec pm_l_spec cd_l_spec ct_l_spec oc_l_cut kV_l_cut dc_l_cut pm_l_cut cd_l_cut ct_l_cut oc_l_through kV_l_through dc_l_through pm_l_through cd_l_through ct_l_through oc_l_frame kV_l_frame dc_l_frame pm_l_frame cd_l_frame ct_l_frame oc_l_value kV_l_value dc_l_value pm_l_value cd_l_value ct_l_value oc_l_before kV_l_before dc_l_before pm_l_before cd_l_before ct_l_before oc_l_smoothed kV_l_smoothed dc_l_smoothed pm_l_smoothed cd_l_smoothed ct_l_smoothed oc_l_meant kV_l_meant dc_l_meant pm_l_meant cd_l_meant ct_l_meant oc_l_is_row kV_l_is_row dc_l_is_row pm_l_is_row cd_l_is_row ct_l_is_row oc_l_blocks kV_l_blocks dc_l_blocks pm_l_blocks cd_l_blocks ct_l_blocks oc_l_part kV_l_part dc_l_part pm_l_part cd_l_part ct_l_part oc_l_made kV_l_made dc_l_made pm_l_made cd_l_made ct_l_made oc_l_late kV_l_late dc_l_late pm_l_late cd_l_late ct_l_late oc_l_sent kV_l_sent dc_l_sent pm_l_sent cd_l_sent ct_l_sent oc_law kV_law dc_law pm_law cd_law ct_law : Value}
    {t_SAMPLE_LEAST t_SAMPLE_MOST t_GAIN_ONE : Tok}
    (g_DelayLine : PySem.W.nsIn K mainGlobals "DelayLine" = some (some (.ref c_DelayLine)))
    (g_Pass : PySem.W.nsIn K mainGlobals "Pass" = some (some (.ref c_Pass)))
    (g_Gain : PySem.W.nsIn K mainGlobals "Gain" = some (some (.ref c_Gain)))
    (g_Delay : PySem.W.nsIn K mainGlobals "Delay" = some (some (.ref c_Delay)))
    (g_Smooth : PySem.W.nsIn K mainGlobals "Smooth" = some (some (.ref c_Smooth)))
    (g_Ahead : PySem.W.nsIn K mainGlobals "Ahead" = some (some (.ref c_Ahead)))
    (ais_count : PySem.W.nsIn K mainGlobals "is_count" = some (some (.ref f_is_count)))
    (lis_count : K.lookup f_is_count = some ⟨oc_is_count, od_is_count, .func (PySem.W.fnOf "is_count" "is_count" (defArgs s_is_count) (defBody s_is_count) (defScope s_is_count) .none kV_is_count dc_is_count pm_is_count an_is_count cd_is_count ct_is_count), sl_is_count⟩)
    (cis_count : PySem.W.codeIn K cd_is_count "is_count" = true)
    (kis_count : PySem.W.keepIn K (.ref f_is_count) = true)
    (ais_sample : PySem.W.nsIn K mainGlobals "is_sample" = some (some (.ref f_is_sample)))
    (lis_sample : K.lookup f_is_sample = some ⟨oc_is_sample, od_is_sample, .func (PySem.W.fnOf "is_sample" "is_sample" (defArgs s_is_sample) (defBody s_is_sample) (defScope s_is_sample) .none kV_is_sample dc_is_sample pm_is_sample an_is_sample cd_is_sample ct_is_sample), sl_is_sample⟩)
    (cis_sample : PySem.W.codeIn K cd_is_sample "is_sample" = true)
    (kis_sample : PySem.W.keepIn K (.ref f_is_sample) = true)
    (acut : PySem.W.nsIn K mainGlobals "cut" = some (some (.ref f_cut)))
    (lcut : K.lookup f_cut = some ⟨oc_cut, od_cut, .func (PySem.W.fnOf "cut" "cut" (defArgs s_cut) (defBody s_cut) (defScope s_cut) .none kV_cut dc_cut pm_cut an_cut cd_cut ct_cut), sl_cut⟩)
    (ccut : PySem.W.codeIn K cd_cut "cut" = true)
    (kcut : PySem.W.keepIn K (.ref f_cut) = true)
    (athrough : PySem.W.nsIn K mainGlobals "through" = some (some (.ref f_through)))
    (lthrough : K.lookup f_through = some ⟨oc_through, od_through, .func (PySem.W.fnOf "through" "through" (defArgs s_through) (defBody s_through) (defScope s_through) .none kV_through dc_through pm_through an_through cd_through ct_through), sl_through⟩)
    (cthrough : PySem.W.codeIn K cd_through "through" = true)
    (kthrough : PySem.W.keepIn K (.ref f_through) = true)
    (agreatest_divisor : PySem.W.nsIn K mainGlobals "greatest_divisor" = some (some (.ref f_greatest_divisor)))
    (lgreatest_divisor : K.lookup f_greatest_divisor = some ⟨oc_greatest_divisor, od_greatest_divisor, .func (PySem.W.fnOf "greatest_divisor" "greatest_divisor" (defArgs s_greatest_divisor) (defBody s_greatest_divisor) (defScope s_greatest_divisor) .none kV_greatest_divisor dc_greatest_divisor pm_greatest_divisor an_greatest_divisor cd_greatest_divisor ct_greatest_divisor), sl_greatest_divisor⟩)
    (cgreatest_divisor : PySem.W.codeIn K cd_greatest_divisor "greatest_divisor" = true)
    (kgreatest_divisor : PySem.W.keepIn K (.ref f_greatest_divisor) = true)
    (acommon_denominator : PySem.W.nsIn K mainGlobals "common_denominator" = some (some (.ref f_common_denominator)))
    (lcommon_denominator : K.lookup f_common_denominator = some ⟨oc_common_denominator, od_common_denominator, .func (PySem.W.fnOf "common_denominator" "common_denominator" (defArgs s_common_denominator) (defBody s_common_denominator) (defScope s_common_denominator) .none kV_common_denominator dc_common_denominator pm_common_denominator an_common_denominator cd_common_denominator ct_common_denominator), sl_common_denominator⟩)
    (ccommon_denominator : PySem.W.codeIn K cd_common_denominator "common_denominator" = true)
    (kcommon_denominator : PySem.W.keepIn K (.ref f_common_denominator) = true)
    (aunits_of : PySem.W.nsIn K mainGlobals "units_of" = some (some (.ref f_units_of)))
    (lunits_of : K.lookup f_units_of = some ⟨oc_units_of, od_units_of, .func (PySem.W.fnOf "units_of" "units_of" (defArgs s_units_of) (defBody s_units_of) (defScope s_units_of) .none kV_units_of dc_units_of pm_units_of an_units_of cd_units_of ct_units_of), sl_units_of⟩)
    (cunits_of : PySem.W.codeIn K cd_units_of "units_of" = true)
    (kunits_of : PySem.W.keepIn K (.ref f_units_of) = true)
    (aframe_of : PySem.W.nsIn K mainGlobals "frame_of" = some (some (.ref f_frame_of)))
    (lframe_of : K.lookup f_frame_of = some ⟨oc_frame_of, od_frame_of, .func (PySem.W.fnOf "frame_of" "frame_of" (defArgs s_frame_of) (defBody s_frame_of) (defScope s_frame_of) .none kV_frame_of dc_frame_of pm_frame_of an_frame_of cd_frame_of ct_frame_of), sl_frame_of⟩)
    (cframe_of : PySem.W.codeIn K cd_frame_of "frame_of" = true)
    (kframe_of : PySem.W.keepIn K (.ref f_frame_of) = true)
    (ain_frames : PySem.W.nsIn K mainGlobals "in_frames" = some (some (.ref f_in_frames)))
    (lin_frames : K.lookup f_in_frames = some ⟨oc_in_frames, od_in_frames, .func (PySem.W.fnOf "in_frames" "in_frames" (defArgs s_in_frames) (defBody s_in_frames) (defScope s_in_frames) .none kV_in_frames dc_in_frames pm_in_frames an_in_frames cd_in_frames ct_in_frames), sl_in_frames⟩)
    (cin_frames : PySem.W.codeIn K cd_in_frames "in_frames" = true)
    (kin_frames : PySem.W.keepIn K (.ref f_in_frames) = true)
    (avalue_at : PySem.W.nsIn K mainGlobals "value_at" = some (some (.ref f_value_at)))
    (lvalue_at : K.lookup f_value_at = some ⟨oc_value_at, od_value_at, .func (PySem.W.fnOf "value_at" "value_at" (defArgs s_value_at) (defBody s_value_at) (defScope s_value_at) .none kV_value_at dc_value_at pm_value_at an_value_at cd_value_at ct_value_at), sl_value_at⟩)
    (cvalue_at : PySem.W.codeIn K cd_value_at "value_at" = true)
    (kvalue_at : PySem.W.keepIn K (.ref f_value_at) = true)
    (ais_past : PySem.W.nsIn K mainGlobals "is_past" = some (some (.ref f_is_past)))
    (lis_past : K.lookup f_is_past = some ⟨oc_is_past, od_is_past, .func (PySem.W.fnOf "is_past" "is_past" (defArgs s_is_past) (defBody s_is_past) (defScope s_is_past) .none kV_is_past dc_is_past pm_is_past an_is_past cd_is_past ct_is_past), sl_is_past⟩)
    (cis_past : PySem.W.codeIn K cd_is_past "is_past" = true)
    (kis_past : PySem.W.keepIn K (.ref f_is_past) = true)
    (aDelayLine_init : PySem.W.findIn K (.ref c_DelayLine) "__init__" = some (some (.ref f_DelayLine_init)))
    (iDelayLine_init : PySem.W.isFn K (.ref f_DelayLine_init) = true)
    (lDelayLine_init : K.lookup f_DelayLine_init = some ⟨oc_DelayLine_init, od_DelayLine_init, .func (PySem.W.fnOf "__init__" "DelayLine.__init__" (defArgs s_DelayLine_init) (defBody s_DelayLine_init) (defScope s_DelayLine_init) .none kV_DelayLine_init dc_DelayLine_init pm_DelayLine_init an_DelayLine_init cd_DelayLine_init ct_DelayLine_init), sl_DelayLine_init⟩)
    (cDelayLine_init : PySem.W.codeIn K cd_DelayLine_init "DelayLine.__init__" = true)
    (kDelayLine_init : PySem.W.keepIn K (.ref f_DelayLine_init) = true)
    (aDelayLine_process : PySem.W.findIn K (.ref c_DelayLine) "process" = some (some (.ref f_DelayLine_process)))
    (iDelayLine_process : PySem.W.isFn K (.ref f_DelayLine_process) = true)
    (lDelayLine_process : K.lookup f_DelayLine_process = some ⟨oc_DelayLine_process, od_DelayLine_process, .func (PySem.W.fnOf "process" "DelayLine.process" (defArgs s_DelayLine_process) (defBody s_DelayLine_process) (defScope s_DelayLine_process) .none kV_DelayLine_process dc_DelayLine_process pm_DelayLine_process an_DelayLine_process cd_DelayLine_process ct_DelayLine_process), sl_DelayLine_process⟩)
    (cDelayLine_process : PySem.W.codeIn K cd_DelayLine_process "DelayLine.process" = true)
    (kDelayLine_process : PySem.W.keepIn K (.ref f_DelayLine_process) = true)
    (aDelayLine_state : PySem.W.findIn K (.ref c_DelayLine) "state" = some (some (.ref f_DelayLine_state)))
    (iDelayLine_state : PySem.W.isFn K (.ref f_DelayLine_state) = true)
    (lDelayLine_state : K.lookup f_DelayLine_state = some ⟨oc_DelayLine_state, od_DelayLine_state, .func (PySem.W.fnOf "state" "DelayLine.state" (defArgs s_DelayLine_state) (defBody s_DelayLine_state) (defScope s_DelayLine_state) .none kV_DelayLine_state dc_DelayLine_state pm_DelayLine_state an_DelayLine_state cd_DelayLine_state ct_DelayLine_state), sl_DelayLine_state⟩)
    (cDelayLine_state : PySem.W.codeIn K cd_DelayLine_state "DelayLine.state" = true)
    (kDelayLine_state : PySem.W.keepIn K (.ref f_DelayLine_state) = true)
    (aDelayLine_restore : PySem.W.findIn K (.ref c_DelayLine) "restore" = some (some (.ref f_DelayLine_restore)))
    (iDelayLine_restore : PySem.W.isFn K (.ref f_DelayLine_restore) = true)
    (lDelayLine_restore : K.lookup f_DelayLine_restore = some ⟨oc_DelayLine_restore, od_DelayLine_restore, .func (PySem.W.fnOf "restore" "DelayLine.restore" (defArgs s_DelayLine_restore) (defBody s_DelayLine_restore) (defScope s_DelayLine_restore) .none kV_DelayLine_restore dc_DelayLine_restore pm_DelayLine_restore an_DelayLine_restore cd_DelayLine_restore ct_DelayLine_restore), sl_DelayLine_restore⟩)
    (cDelayLine_restore : PySem.W.codeIn K cd_DelayLine_restore "DelayLine.restore" = true)
    (kDelayLine_restore : PySem.W.keepIn K (.ref f_DelayLine_restore) = true)
    (alatency_of : PySem.W.nsIn K mainGlobals "latency_of" = some (some (.ref f_latency_of)))
    (llatency_of : K.lookup f_latency_of = some ⟨oc_latency_of, od_latency_of, .func (PySem.W.fnOf "latency_of" "latency_of" (defArgs s_latency_of) (defBody s_latency_of) (defScope s_latency_of) .none kV_latency_of dc_latency_of pm_latency_of an_latency_of cd_latency_of ct_latency_of), sl_latency_of⟩)
    (clatency_of : PySem.W.codeIn K cd_latency_of "latency_of" = true)
    (klatency_of : PySem.W.keepIn K (.ref f_latency_of) = true)
    (atoward : PySem.W.nsIn K mainGlobals "toward" = some (some (.ref f_toward)))
    (ltoward : K.lookup f_toward = some ⟨oc_toward, od_toward, .func (PySem.W.fnOf "toward" "toward" (defArgs s_toward) (defBody s_toward) (defScope s_toward) .none kV_toward dc_toward pm_toward an_toward cd_toward ct_toward), sl_toward⟩)
    (ctoward : PySem.W.codeIn K cd_toward "toward" = true)
    (ktoward : PySem.W.keepIn K (.ref f_toward) = true)
    (aturned_down : PySem.W.nsIn K mainGlobals "turned_down" = some (some (.ref f_turned_down)))
    (lturned_down : K.lookup f_turned_down = some ⟨oc_turned_down, od_turned_down, .func (PySem.W.fnOf "turned_down" "turned_down" (defArgs s_turned_down) (defBody s_turned_down) (defScope s_turned_down) .none kV_turned_down dc_turned_down pm_turned_down an_turned_down cd_turned_down ct_turned_down), sl_turned_down⟩)
    (cturned_down : PySem.W.codeIn K cd_turned_down "turned_down" = true)
    (kturned_down : PySem.W.keepIn K (.ref f_turned_down) = true)
    (aPass_process : PySem.W.findIn K (.ref c_Pass) "process" = some (some (.ref f_Pass_process)))
    (iPass_process : PySem.W.isFn K (.ref f_Pass_process) = true)
    (lPass_process : K.lookup f_Pass_process = some ⟨oc_Pass_process, od_Pass_process, .func (PySem.W.fnOf "process" "Pass.process" (defArgs s_Pass_process) (defBody s_Pass_process) (defScope s_Pass_process) .none kV_Pass_process dc_Pass_process pm_Pass_process an_Pass_process cd_Pass_process ct_Pass_process), sl_Pass_process⟩)
    (cPass_process : PySem.W.codeIn K cd_Pass_process "Pass.process" = true)
    (kPass_process : PySem.W.keepIn K (.ref f_Pass_process) = true)
    (aPass_state : PySem.W.findIn K (.ref c_Pass) "state" = some (some (.ref f_Pass_state)))
    (iPass_state : PySem.W.isFn K (.ref f_Pass_state) = true)
    (lPass_state : K.lookup f_Pass_state = some ⟨oc_Pass_state, od_Pass_state, .func (PySem.W.fnOf "state" "Pass.state" (defArgs s_Pass_state) (defBody s_Pass_state) (defScope s_Pass_state) .none kV_Pass_state dc_Pass_state pm_Pass_state an_Pass_state cd_Pass_state ct_Pass_state), sl_Pass_state⟩)
    (cPass_state : PySem.W.codeIn K cd_Pass_state "Pass.state" = true)
    (kPass_state : PySem.W.keepIn K (.ref f_Pass_state) = true)
    (aPass_restore : PySem.W.findIn K (.ref c_Pass) "restore" = some (some (.ref f_Pass_restore)))
    (iPass_restore : PySem.W.isFn K (.ref f_Pass_restore) = true)
    (lPass_restore : K.lookup f_Pass_restore = some ⟨oc_Pass_restore, od_Pass_restore, .func (PySem.W.fnOf "restore" "Pass.restore" (defArgs s_Pass_restore) (defBody s_Pass_restore) (defScope s_Pass_restore) .none kV_Pass_restore dc_Pass_restore pm_Pass_restore an_Pass_restore cd_Pass_restore ct_Pass_restore), sl_Pass_restore⟩)
    (cPass_restore : PySem.W.codeIn K cd_Pass_restore "Pass.restore" = true)
    (kPass_restore : PySem.W.keepIn K (.ref f_Pass_restore) = true)
    (aGain_init : PySem.W.findIn K (.ref c_Gain) "__init__" = some (some (.ref f_Gain_init)))
    (iGain_init : PySem.W.isFn K (.ref f_Gain_init) = true)
    (lGain_init : K.lookup f_Gain_init = some ⟨oc_Gain_init, od_Gain_init, .func (PySem.W.fnOf "__init__" "Gain.__init__" (defArgs s_Gain_init) (defBody s_Gain_init) (defScope s_Gain_init) .none kV_Gain_init dc_Gain_init pm_Gain_init an_Gain_init cd_Gain_init ct_Gain_init), sl_Gain_init⟩)
    (cGain_init : PySem.W.codeIn K cd_Gain_init "Gain.__init__" = true)
    (kGain_init : PySem.W.keepIn K (.ref f_Gain_init) = true)
    (aGain_process : PySem.W.findIn K (.ref c_Gain) "process" = some (some (.ref f_Gain_process)))
    (iGain_process : PySem.W.isFn K (.ref f_Gain_process) = true)
    (lGain_process : K.lookup f_Gain_process = some ⟨oc_Gain_process, od_Gain_process, .func (PySem.W.fnOf "process" "Gain.process" (defArgs s_Gain_process) (defBody s_Gain_process) (defScope s_Gain_process) .none kV_Gain_process dc_Gain_process pm_Gain_process an_Gain_process cd_Gain_process ct_Gain_process), sl_Gain_process⟩)
    (cGain_process : PySem.W.codeIn K cd_Gain_process "Gain.process" = true)
    (kGain_process : PySem.W.keepIn K (.ref f_Gain_process) = true)
    (aGain_state : PySem.W.findIn K (.ref c_Gain) "state" = some (some (.ref f_Gain_state)))
    (iGain_state : PySem.W.isFn K (.ref f_Gain_state) = true)
    (lGain_state : K.lookup f_Gain_state = some ⟨oc_Gain_state, od_Gain_state, .func (PySem.W.fnOf "state" "Gain.state" (defArgs s_Gain_state) (defBody s_Gain_state) (defScope s_Gain_state) .none kV_Gain_state dc_Gain_state pm_Gain_state an_Gain_state cd_Gain_state ct_Gain_state), sl_Gain_state⟩)
    (cGain_state : PySem.W.codeIn K cd_Gain_state "Gain.state" = true)
    (kGain_state : PySem.W.keepIn K (.ref f_Gain_state) = true)
    (aGain_restore : PySem.W.findIn K (.ref c_Gain) "restore" = some (some (.ref f_Gain_restore)))
    (iGain_restore : PySem.W.isFn K (.ref f_Gain_restore) = true)
    (lGain_restore : K.lookup f_Gain_restore = some ⟨oc_Gain_restore, od_Gain_restore, .func (PySem.W.fnOf "restore" "Gain.restore" (defArgs s_Gain_restore) (defBody s_Gain_restore) (defScope s_Gain_restore) .none kV_Gain_restore dc_Gain_restore pm_Gain_restore an_Gain_restore cd_Gain_restore ct_Gain_restore), sl_Gain_restore⟩)
    (cGain_restore : PySem.W.codeIn K cd_Gain_restore "Gain.restore" = true)
    (kGain_restore : PySem.W.keepIn K (.ref f_Gain_restore) = true)
    (aDelay_init : PySem.W.findIn K (.ref c_Delay) "__init__" = some (some (.ref f_Delay_init)))
    (iDelay_init : PySem.W.isFn K (.ref f_Delay_init) = true)
    (lDelay_init : K.lookup f_Delay_init = some ⟨oc_Delay_init, od_Delay_init, .func (PySem.W.fnOf "__init__" "Delay.__init__" (defArgs s_Delay_init) (defBody s_Delay_init) (defScope s_Delay_init) .none kV_Delay_init dc_Delay_init pm_Delay_init an_Delay_init cd_Delay_init ct_Delay_init), sl_Delay_init⟩)
    (cDelay_init : PySem.W.codeIn K cd_Delay_init "Delay.__init__" = true)
    (kDelay_init : PySem.W.keepIn K (.ref f_Delay_init) = true)
    (aDelay_process : PySem.W.findIn K (.ref c_Delay) "process" = some (some (.ref f_Delay_process)))
    (iDelay_process : PySem.W.isFn K (.ref f_Delay_process) = true)
    (lDelay_process : K.lookup f_Delay_process = some ⟨oc_Delay_process, od_Delay_process, .func (PySem.W.fnOf "process" "Delay.process" (defArgs s_Delay_process) (defBody s_Delay_process) (defScope s_Delay_process) .none kV_Delay_process dc_Delay_process pm_Delay_process an_Delay_process cd_Delay_process ct_Delay_process), sl_Delay_process⟩)
    (cDelay_process : PySem.W.codeIn K cd_Delay_process "Delay.process" = true)
    (kDelay_process : PySem.W.keepIn K (.ref f_Delay_process) = true)
    (aDelay_state : PySem.W.findIn K (.ref c_Delay) "state" = some (some (.ref f_Delay_state)))
    (iDelay_state : PySem.W.isFn K (.ref f_Delay_state) = true)
    (lDelay_state : K.lookup f_Delay_state = some ⟨oc_Delay_state, od_Delay_state, .func (PySem.W.fnOf "state" "Delay.state" (defArgs s_Delay_state) (defBody s_Delay_state) (defScope s_Delay_state) .none kV_Delay_state dc_Delay_state pm_Delay_state an_Delay_state cd_Delay_state ct_Delay_state), sl_Delay_state⟩)
    (cDelay_state : PySem.W.codeIn K cd_Delay_state "Delay.state" = true)
    (kDelay_state : PySem.W.keepIn K (.ref f_Delay_state) = true)
    (aDelay_restore : PySem.W.findIn K (.ref c_Delay) "restore" = some (some (.ref f_Delay_restore)))
    (iDelay_restore : PySem.W.isFn K (.ref f_Delay_restore) = true)
    (lDelay_restore : K.lookup f_Delay_restore = some ⟨oc_Delay_restore, od_Delay_restore, .func (PySem.W.fnOf "restore" "Delay.restore" (defArgs s_Delay_restore) (defBody s_Delay_restore) (defScope s_Delay_restore) .none kV_Delay_restore dc_Delay_restore pm_Delay_restore an_Delay_restore cd_Delay_restore ct_Delay_restore), sl_Delay_restore⟩)
    (cDelay_restore : PySem.W.codeIn K cd_Delay_restore "Delay.restore" = true)
    (kDelay_restore : PySem.W.keepIn K (.ref f_Delay_restore) = true)
    (aSmooth_init : PySem.W.findIn K (.ref c_Smooth) "__init__" = some (some (.ref f_Smooth_init)))
    (iSmooth_init : PySem.W.isFn K (.ref f_Smooth_init) = true)
    (lSmooth_init : K.lookup f_Smooth_init = some ⟨oc_Smooth_init, od_Smooth_init, .func (PySem.W.fnOf "__init__" "Smooth.__init__" (defArgs s_Smooth_init) (defBody s_Smooth_init) (defScope s_Smooth_init) .none kV_Smooth_init dc_Smooth_init pm_Smooth_init an_Smooth_init cd_Smooth_init ct_Smooth_init), sl_Smooth_init⟩)
    (cSmooth_init : PySem.W.codeIn K cd_Smooth_init "Smooth.__init__" = true)
    (kSmooth_init : PySem.W.keepIn K (.ref f_Smooth_init) = true)
    (aSmooth_process : PySem.W.findIn K (.ref c_Smooth) "process" = some (some (.ref f_Smooth_process)))
    (iSmooth_process : PySem.W.isFn K (.ref f_Smooth_process) = true)
    (lSmooth_process : K.lookup f_Smooth_process = some ⟨oc_Smooth_process, od_Smooth_process, .func (PySem.W.fnOf "process" "Smooth.process" (defArgs s_Smooth_process) (defBody s_Smooth_process) (defScope s_Smooth_process) .none kV_Smooth_process dc_Smooth_process pm_Smooth_process an_Smooth_process cd_Smooth_process ct_Smooth_process), sl_Smooth_process⟩)
    (cSmooth_process : PySem.W.codeIn K cd_Smooth_process "Smooth.process" = true)
    (kSmooth_process : PySem.W.keepIn K (.ref f_Smooth_process) = true)
    (aSmooth_state : PySem.W.findIn K (.ref c_Smooth) "state" = some (some (.ref f_Smooth_state)))
    (iSmooth_state : PySem.W.isFn K (.ref f_Smooth_state) = true)
    (lSmooth_state : K.lookup f_Smooth_state = some ⟨oc_Smooth_state, od_Smooth_state, .func (PySem.W.fnOf "state" "Smooth.state" (defArgs s_Smooth_state) (defBody s_Smooth_state) (defScope s_Smooth_state) .none kV_Smooth_state dc_Smooth_state pm_Smooth_state an_Smooth_state cd_Smooth_state ct_Smooth_state), sl_Smooth_state⟩)
    (cSmooth_state : PySem.W.codeIn K cd_Smooth_state "Smooth.state" = true)
    (kSmooth_state : PySem.W.keepIn K (.ref f_Smooth_state) = true)
    (aSmooth_restore : PySem.W.findIn K (.ref c_Smooth) "restore" = some (some (.ref f_Smooth_restore)))
    (iSmooth_restore : PySem.W.isFn K (.ref f_Smooth_restore) = true)
    (lSmooth_restore : K.lookup f_Smooth_restore = some ⟨oc_Smooth_restore, od_Smooth_restore, .func (PySem.W.fnOf "restore" "Smooth.restore" (defArgs s_Smooth_restore) (defBody s_Smooth_restore) (defScope s_Smooth_restore) .none kV_Smooth_restore dc_Smooth_restore pm_Smooth_restore an_Smooth_restore cd_Smooth_restore ct_Smooth_restore), sl_Smooth_restore⟩)
    (cSmooth_restore : PySem.W.codeIn K cd_Smooth_restore "Smooth.restore" = true)
    (kSmooth_restore : PySem.W.keepIn K (.ref f_Smooth_restore) = true)
    (aAhead_init : PySem.W.findIn K (.ref c_Ahead) "__init__" = some (some (.ref f_Ahead_init)))
    (iAhead_init : PySem.W.isFn K (.ref f_Ahead_init) = true)
    (lAhead_init : K.lookup f_Ahead_init = some ⟨oc_Ahead_init, od_Ahead_init, .func (PySem.W.fnOf "__init__" "Ahead.__init__" (defArgs s_Ahead_init) (defBody s_Ahead_init) (defScope s_Ahead_init) .none kV_Ahead_init dc_Ahead_init pm_Ahead_init an_Ahead_init cd_Ahead_init ct_Ahead_init), sl_Ahead_init⟩)
    (cAhead_init : PySem.W.codeIn K cd_Ahead_init "Ahead.__init__" = true)
    (kAhead_init : PySem.W.keepIn K (.ref f_Ahead_init) = true)
    (aAhead_process : PySem.W.findIn K (.ref c_Ahead) "process" = some (some (.ref f_Ahead_process)))
    (iAhead_process : PySem.W.isFn K (.ref f_Ahead_process) = true)
    (lAhead_process : K.lookup f_Ahead_process = some ⟨oc_Ahead_process, od_Ahead_process, .func (PySem.W.fnOf "process" "Ahead.process" (defArgs s_Ahead_process) (defBody s_Ahead_process) (defScope s_Ahead_process) .none kV_Ahead_process dc_Ahead_process pm_Ahead_process an_Ahead_process cd_Ahead_process ct_Ahead_process), sl_Ahead_process⟩)
    (cAhead_process : PySem.W.codeIn K cd_Ahead_process "Ahead.process" = true)
    (kAhead_process : PySem.W.keepIn K (.ref f_Ahead_process) = true)
    (aAhead_state : PySem.W.findIn K (.ref c_Ahead) "state" = some (some (.ref f_Ahead_state)))
    (iAhead_state : PySem.W.isFn K (.ref f_Ahead_state) = true)
    (lAhead_state : K.lookup f_Ahead_state = some ⟨oc_Ahead_state, od_Ahead_state, .func (PySem.W.fnOf "state" "Ahead.state" (defArgs s_Ahead_state) (defBody s_Ahead_state) (defScope s_Ahead_state) .none kV_Ahead_state dc_Ahead_state pm_Ahead_state an_Ahead_state cd_Ahead_state ct_Ahead_state), sl_Ahead_state⟩)
    (cAhead_state : PySem.W.codeIn K cd_Ahead_state "Ahead.state" = true)
    (kAhead_state : PySem.W.keepIn K (.ref f_Ahead_state) = true)
    (aAhead_restore : PySem.W.findIn K (.ref c_Ahead) "restore" = some (some (.ref f_Ahead_restore)))
    (iAhead_restore : PySem.W.isFn K (.ref f_Ahead_restore) = true)
    (lAhead_restore : K.lookup f_Ahead_restore = some ⟨oc_Ahead_restore, od_Ahead_restore, .func (PySem.W.fnOf "restore" "Ahead.restore" (defArgs s_Ahead_restore) (defBody s_Ahead_restore) (defScope s_Ahead_restore) .none kV_Ahead_restore dc_Ahead_restore pm_Ahead_restore an_Ahead_restore cd_Ahead_restore ct_Ahead_restore), sl_Ahead_restore⟩)
    (cAhead_restore : PySem.W.codeIn K cd_Ahead_restore "Ahead.restore" = true)
    (kAhead_restore : PySem.W.keepIn K (.ref f_Ahead_restore) = true)
    (aeffect_of : PySem.W.nsIn K mainGlobals "effect_of" = some (some (.ref f_effect_of)))
    (leffect_of : K.lookup f_effect_of = some ⟨oc_effect_of, od_effect_of, .func (PySem.W.fnOf "effect_of" "effect_of" (defArgs s_effect_of) (defBody s_effect_of) (defScope s_effect_of) .none kV_effect_of dc_effect_of pm_effect_of an_effect_of cd_effect_of ct_effect_of), sl_effect_of⟩)
    (ceffect_of : PySem.W.codeIn K cd_effect_of "effect_of" = true)
    (keffect_of : PySem.W.keepIn K (.ref f_effect_of) = true)
    (al_deck : PySem.W.nsIn K mainGlobals "_law_deck" = some (some (.ref f_l_deck)))
    (ll_deck : K.lookup f_l_deck = some ⟨oc_l_deck, od_l_deck, .func (PySem.W.fnOf "_law_deck" "_law_deck" (defArgs s_l_deck) (defBody s_l_deck) (defScope s_l_deck) .none kV_l_deck dc_l_deck pm_l_deck an_l_deck cd_l_deck ct_l_deck), sl_l_deck⟩)
    (cl_deck : PySem.W.codeIn K cd_l_deck "_law_deck" = true)
    (kl_deck : PySem.W.keepIn K (.ref f_l_deck) = true)
    (al_draw : PySem.W.nsIn K mainGlobals "_law_draw" = some (some (.ref f_l_draw)))
    (ll_draw : K.lookup f_l_draw = some ⟨oc_l_draw, od_l_draw, .func (PySem.W.fnOf "_law_draw" "_law_draw" (defArgs s_l_draw) (defBody s_l_draw) (defScope s_l_draw) .none kV_l_draw dc_l_draw pm_l_draw an_l_draw cd_l_draw ct_l_draw), sl_l_draw⟩)
    (cl_draw : PySem.W.codeIn K cd_l_draw "_law_draw" = true)
    (kl_draw : PySem.W.keepIn K (.ref f_l_draw) = true)
    (al_sample : PySem.W.nsIn K mainGlobals "_law_sample" = some (some (.ref f_l_sample)))
    (ll_sample : K.lookup f_l_sample = some ⟨oc_l_sample, od_l_sample, .func (PySem.W.fnOf "_law_sample" "_law_sample" (defArgs s_l_sample) (defBody s_l_sample) (defScope s_l_sample) .none kV_l_sample dc_l_sample pm_l_sample an_l_sample cd_l_sample ct_l_sample), sl_l_sample⟩)
    (cl_sample : PySem.W.codeIn K cd_l_sample "_law_sample" = true)
    (kl_sample : PySem.W.keepIn K (.ref f_l_sample) = true)
    (al_samples : PySem.W.nsIn K mainGlobals "_law_samples" = some (some (.ref f_l_samples)))
    (ll_samples : K.lookup f_l_samples = some ⟨oc_l_samples, od_l_samples, .func (PySem.W.fnOf "_law_samples" "_law_samples" (defArgs s_l_samples) (defBody s_l_samples) (defScope s_l_samples) .none kV_l_samples dc_l_samples pm_l_samples an_l_samples cd_l_samples ct_l_samples), sl_l_samples⟩)
    (cl_samples : PySem.W.codeIn K cd_l_samples "_law_samples" = true)
    (kl_samples : PySem.W.keepIn K (.ref f_l_samples) = true)
    (al_gain : PySem.W.nsIn K mainGlobals "_law_gain" = some (some (.ref f_l_gain)))
    (ll_gain : K.lookup f_l_gain = some ⟨oc_l_gain, od_l_gain, .func (PySem.W.fnOf "_law_gain" "_law_gain" (defArgs s_l_gain) (defBody s_l_gain) (defScope s_l_gain) .none kV_l_gain dc_l_gain pm_l_gain an_l_gain cd_l_gain ct_l_gain), sl_l_gain⟩)
    (cl_gain : PySem.W.codeIn K cd_l_gain "_law_gain" = true)
    (kl_gain : PySem.W.keepIn K (.ref f_l_gain) = true)
    (al_tempo : PySem.W.nsIn K mainGlobals "_law_tempo" = some (some (.ref f_l_tempo)))
    (ll_tempo : K.lookup f_l_tempo = some ⟨oc_l_tempo, od_l_tempo, .func (PySem.W.fnOf "_law_tempo" "_law_tempo" (defArgs s_l_tempo) (defBody s_l_tempo) (defScope s_l_tempo) .none kV_l_tempo dc_l_tempo pm_l_tempo an_l_tempo cd_l_tempo ct_l_tempo), sl_l_tempo⟩)
    (cl_tempo : PySem.W.codeIn K cd_l_tempo "_law_tempo" = true)
    (kl_tempo : PySem.W.keepIn K (.ref f_l_tempo) = true)
    (al_points : PySem.W.nsIn K mainGlobals "_law_points" = some (some (.ref f_l_points)))
    (ll_points : K.lookup f_l_points = some ⟨oc_l_points, od_l_points, .func (PySem.W.fnOf "_law_points" "_law_points" (defArgs s_l_points) (defBody s_l_points) (defScope s_l_points) .none kV_l_points dc_l_points pm_l_points an_l_points cd_l_points ct_l_points), sl_l_points⟩)
    (cl_points : PySem.W.codeIn K cd_l_points "_law_points" = true)
    (kl_points : PySem.W.keepIn K (.ref f_l_points) = true)
    (al_spec : PySem.W.nsIn K mainGlobals "_law_spec" = some (some (.ref f_l_spec)))
    (ll_spec : K.lookup f_l_spec = some ⟨oc_l_spec, od_l_spec, .func (PySem.W.fnOf "_law_spec" "_law_spec" (defArgs s_l_spec) (defBody s_l_spec) (defScope s_l_spec) .none kV_l_spec dc_l_spec pm_l_spec an_l_spec cd_l_spec ct_l_spec), sl_l_spec⟩)
    (cl_spec : PySem.W.codeIn K cd_l_spec "_law_spec" = true)
    (kl_spec : PySem.W.keepIn K (.ref f_l_spec) = true)
    (al_cut : PySem.W.nsIn K mainGlobals "_law_cut" = some (some (.ref f_l_cut)))
    (ll_cut : K.lookup f_l_cut = some ⟨oc_l_cut, od_l_cut, .func (PySem.W.fnOf "_law_cut" "_law_cut" (defArgs s_l_cut) (defBody s_l_cut) (defScope s_l_cut) .none kV_l_cut dc_l_cut pm_l_cut an_l_cut cd_l_cut ct_l_cut), sl_l_cut⟩)
    (cl_cut : PySem.W.codeIn K cd_l_cut "_law_cut" = true)
    (kl_cut : PySem.W.keepIn K (.ref f_l_cut) = true)
    (al_through : PySem.W.nsIn K mainGlobals "_law_through" = some (some (.ref f_l_through)))
    (ll_through : K.lookup f_l_through = some ⟨oc_l_through, od_l_through, .func (PySem.W.fnOf "_law_through" "_law_through" (defArgs s_l_through) (defBody s_l_through) (defScope s_l_through) .none kV_l_through dc_l_through pm_l_through an_l_through cd_l_through ct_l_through), sl_l_through⟩)
    (cl_through : PySem.W.codeIn K cd_l_through "_law_through" = true)
    (kl_through : PySem.W.keepIn K (.ref f_l_through) = true)
    (al_frame : PySem.W.nsIn K mainGlobals "_law_frame" = some (some (.ref f_l_frame)))
    (ll_frame : K.lookup f_l_frame = some ⟨oc_l_frame, od_l_frame, .func (PySem.W.fnOf "_law_frame" "_law_frame" (defArgs s_l_frame) (defBody s_l_frame) (defScope s_l_frame) .none kV_l_frame dc_l_frame pm_l_frame an_l_frame cd_l_frame ct_l_frame), sl_l_frame⟩)
    (cl_frame : PySem.W.codeIn K cd_l_frame "_law_frame" = true)
    (kl_frame : PySem.W.keepIn K (.ref f_l_frame) = true)
    (al_value : PySem.W.nsIn K mainGlobals "_law_value" = some (some (.ref f_l_value)))
    (ll_value : K.lookup f_l_value = some ⟨oc_l_value, od_l_value, .func (PySem.W.fnOf "_law_value" "_law_value" (defArgs s_l_value) (defBody s_l_value) (defScope s_l_value) .none kV_l_value dc_l_value pm_l_value an_l_value cd_l_value ct_l_value), sl_l_value⟩)
    (cl_value : PySem.W.codeIn K cd_l_value "_law_value" = true)
    (kl_value : PySem.W.keepIn K (.ref f_l_value) = true)
    (al_before : PySem.W.nsIn K mainGlobals "_law_before" = some (some (.ref f_l_before)))
    (ll_before : K.lookup f_l_before = some ⟨oc_l_before, od_l_before, .func (PySem.W.fnOf "_law_before" "_law_before" (defArgs s_l_before) (defBody s_l_before) (defScope s_l_before) .none kV_l_before dc_l_before pm_l_before an_l_before cd_l_before ct_l_before), sl_l_before⟩)
    (cl_before : PySem.W.codeIn K cd_l_before "_law_before" = true)
    (kl_before : PySem.W.keepIn K (.ref f_l_before) = true)
    (al_smoothed : PySem.W.nsIn K mainGlobals "_law_smoothed" = some (some (.ref f_l_smoothed)))
    (ll_smoothed : K.lookup f_l_smoothed = some ⟨oc_l_smoothed, od_l_smoothed, .func (PySem.W.fnOf "_law_smoothed" "_law_smoothed" (defArgs s_l_smoothed) (defBody s_l_smoothed) (defScope s_l_smoothed) .none kV_l_smoothed dc_l_smoothed pm_l_smoothed an_l_smoothed cd_l_smoothed ct_l_smoothed), sl_l_smoothed⟩)
    (cl_smoothed : PySem.W.codeIn K cd_l_smoothed "_law_smoothed" = true)
    (kl_smoothed : PySem.W.keepIn K (.ref f_l_smoothed) = true)
    (al_meant : PySem.W.nsIn K mainGlobals "_law_meant" = some (some (.ref f_l_meant)))
    (ll_meant : K.lookup f_l_meant = some ⟨oc_l_meant, od_l_meant, .func (PySem.W.fnOf "_law_meant" "_law_meant" (defArgs s_l_meant) (defBody s_l_meant) (defScope s_l_meant) .none kV_l_meant dc_l_meant pm_l_meant an_l_meant cd_l_meant ct_l_meant), sl_l_meant⟩)
    (cl_meant : PySem.W.codeIn K cd_l_meant "_law_meant" = true)
    (kl_meant : PySem.W.keepIn K (.ref f_l_meant) = true)
    (al_is_row : PySem.W.nsIn K mainGlobals "_law_is_row" = some (some (.ref f_l_is_row)))
    (ll_is_row : K.lookup f_l_is_row = some ⟨oc_l_is_row, od_l_is_row, .func (PySem.W.fnOf "_law_is_row" "_law_is_row" (defArgs s_l_is_row) (defBody s_l_is_row) (defScope s_l_is_row) .none kV_l_is_row dc_l_is_row pm_l_is_row an_l_is_row cd_l_is_row ct_l_is_row), sl_l_is_row⟩)
    (cl_is_row : PySem.W.codeIn K cd_l_is_row "_law_is_row" = true)
    (kl_is_row : PySem.W.keepIn K (.ref f_l_is_row) = true)
    (al_blocks : PySem.W.nsIn K mainGlobals "_law_blocks" = some (some (.ref f_l_blocks)))
    (ll_blocks : K.lookup f_l_blocks = some ⟨oc_l_blocks, od_l_blocks, .func (PySem.W.fnOf "_law_blocks" "_law_blocks" (defArgs s_l_blocks) (defBody s_l_blocks) (defScope s_l_blocks) .none kV_l_blocks dc_l_blocks pm_l_blocks an_l_blocks cd_l_blocks ct_l_blocks), sl_l_blocks⟩)
    (cl_blocks : PySem.W.codeIn K cd_l_blocks "_law_blocks" = true)
    (kl_blocks : PySem.W.keepIn K (.ref f_l_blocks) = true)
    (al_part : PySem.W.nsIn K mainGlobals "_law_part" = some (some (.ref f_l_part)))
    (ll_part : K.lookup f_l_part = some ⟨oc_l_part, od_l_part, .func (PySem.W.fnOf "_law_part" "_law_part" (defArgs s_l_part) (defBody s_l_part) (defScope s_l_part) .none kV_l_part dc_l_part pm_l_part an_l_part cd_l_part ct_l_part), sl_l_part⟩)
    (cl_part : PySem.W.codeIn K cd_l_part "_law_part" = true)
    (kl_part : PySem.W.keepIn K (.ref f_l_part) = true)
    (al_made : PySem.W.nsIn K mainGlobals "_law_made" = some (some (.ref f_l_made)))
    (ll_made : K.lookup f_l_made = some ⟨oc_l_made, od_l_made, .func (PySem.W.fnOf "_law_made" "_law_made" (defArgs s_l_made) (defBody s_l_made) (defScope s_l_made) .none kV_l_made dc_l_made pm_l_made an_l_made cd_l_made ct_l_made), sl_l_made⟩)
    (cl_made : PySem.W.codeIn K cd_l_made "_law_made" = true)
    (kl_made : PySem.W.keepIn K (.ref f_l_made) = true)
    (al_late : PySem.W.nsIn K mainGlobals "_law_late" = some (some (.ref f_l_late)))
    (ll_late : K.lookup f_l_late = some ⟨oc_l_late, od_l_late, .func (PySem.W.fnOf "_law_late" "_law_late" (defArgs s_l_late) (defBody s_l_late) (defScope s_l_late) .none kV_l_late dc_l_late pm_l_late an_l_late cd_l_late ct_l_late), sl_l_late⟩)
    (cl_late : PySem.W.codeIn K cd_l_late "_law_late" = true)
    (kl_late : PySem.W.keepIn K (.ref f_l_late) = true)
    (al_sent : PySem.W.nsIn K mainGlobals "_law_sent" = some (some (.ref f_l_sent)))
    (ll_sent : K.lookup f_l_sent = some ⟨oc_l_sent, od_l_sent, .func (PySem.W.fnOf "_law_sent" "_law_sent" (defArgs s_l_sent) (defBody s_l_sent) (defScope s_l_sent) .none kV_l_sent dc_l_sent pm_l_sent an_l_sent cd_l_sent ct_l_sent), sl_l_sent⟩)
    (cl_sent : PySem.W.codeIn K cd_l_sent "_law_sent" = true)
    (kl_sent : PySem.W.keepIn K (.ref f_l_sent) = true)
    (alaw : PySem.W.nsIn K mainGlobals "law" = some (some (.ref f_law)))
    (llaw : K.lookup f_law = some ⟨oc_law, od_law, .func (PySem.W.fnOf "law" "law" (defArgs s_law) (defBody s_law) (defScope s_law) .none kV_law dc_law pm_law an_law cd_law ct_law), sl_law⟩)
    (claw : PySem.W.codeIn K cd_law "law" = true)
    (klaw : PySem.W.keepIn K (.ref f_law) = true)
    (pg_DelayLine : PySem.W.plainGet K c_DelayLine Str.empty = true)
    (hd_DelayLine : PySem.W.hasDictIn K c_DelayLine = true)
    (po_DelayLine : PySem.W.plainOver K c_DelayLine = true)
    (sa_DelayLine : PySem.W.findIn K (.ref c_DelayLine) "__setattr__" = some (some (.builtin "object.__setattr__")))
    (mk_DelayLine : PySem.W.makesIn K c_DelayLine = true)
    (kc_DelayLine : PySem.W.keepIn K (.ref c_DelayLine) = true)
    (n_DelayLine_frames : PySem.W.findIn K (.ref c_DelayLine) "frames" = some none)
    (n_DelayLine_past : PySem.W.findIn K (.ref c_DelayLine) "past" = some none)
    (pg_Pass : PySem.W.plainGet K c_Pass Str.empty = true)
    (hd_Pass : PySem.W.hasDictIn K c_Pass = true)
    (po_Pass : PySem.W.plainOver K c_Pass = true)
    (sa_Pass : PySem.W.findIn K (.ref c_Pass) "__setattr__" = some (some (.builtin "object.__setattr__")))
    (mk_Pass : PySem.W.makesIn K c_Pass = true)
    (kc_Pass : PySem.W.keepIn K (.ref c_Pass) = true)
    (oi_Pass : PySem.W.findIn K (.ref c_Pass) "__init__" = some (some (.builtin "object.__init__")))
    (pg_Gain : PySem.W.plainGet K c_Gain Str.empty = true)
    (hd_Gain : PySem.W.hasDictIn K c_Gain = true)
    (po_Gain : PySem.W.plainOver K c_Gain = true)
    (sa_Gain : PySem.W.findIn K (.ref c_Gain) "__setattr__" = some (some (.builtin "object.__setattr__")))
    (mk_Gain : PySem.W.makesIn K c_Gain = true)
    (kc_Gain : PySem.W.keepIn K (.ref c_Gain) = true)
    (n_Gain_points : PySem.W.findIn K (.ref c_Gain) "points" = some none)
    (pg_Delay : PySem.W.plainGet K c_Delay Str.empty = true)
    (hd_Delay : PySem.W.hasDictIn K c_Delay = true)
    (po_Delay : PySem.W.plainOver K c_Delay = true)
    (sa_Delay : PySem.W.findIn K (.ref c_Delay) "__setattr__" = some (some (.builtin "object.__setattr__")))
    (mk_Delay : PySem.W.makesIn K c_Delay = true)
    (kc_Delay : PySem.W.keepIn K (.ref c_Delay) = true)
    (n_Delay_frames : PySem.W.findIn K (.ref c_Delay) "frames" = some none)
    (n_Delay_feedback : PySem.W.findIn K (.ref c_Delay) "feedback" = some none)
    (n_Delay_own : PySem.W.findIn K (.ref c_Delay) "own" = some none)
    (n_Delay_past : PySem.W.findIn K (.ref c_Delay) "past" = some none)
    (pg_Smooth : PySem.W.plainGet K c_Smooth Str.empty = true)
    (hd_Smooth : PySem.W.hasDictIn K c_Smooth = true)
    (po_Smooth : PySem.W.plainOver K c_Smooth = true)
    (sa_Smooth : PySem.W.findIn K (.ref c_Smooth) "__setattr__" = some (some (.builtin "object.__setattr__")))
    (mk_Smooth : PySem.W.makesIn K c_Smooth = true)
    (kc_Smooth : PySem.W.keepIn K (.ref c_Smooth) = true)
    (n_Smooth_k : PySem.W.findIn K (.ref c_Smooth) "k" = some none)
    (n_Smooth_value : PySem.W.findIn K (.ref c_Smooth) "value" = some none)
    (pg_Ahead : PySem.W.plainGet K c_Ahead Str.empty = true)
    (hd_Ahead : PySem.W.hasDictIn K c_Ahead = true)
    (po_Ahead : PySem.W.plainOver K c_Ahead = true)
    (sa_Ahead : PySem.W.findIn K (.ref c_Ahead) "__setattr__" = some (some (.builtin "object.__setattr__")))
    (mk_Ahead : PySem.W.makesIn K c_Ahead = true)
    (kc_Ahead : PySem.W.keepIn K (.ref c_Ahead) = true)
    (n_Ahead_frames : PySem.W.findIn K (.ref c_Ahead) "frames" = some none)
    (n_Ahead_ceiling : PySem.W.findIn K (.ref c_Ahead) "ceiling" = some none)
    (n_Ahead_past : PySem.W.findIn K (.ref c_Ahead) "past" = some none)
    (z_len : PySem.W.nsIn K mainGlobals "len" = some none)
    (z_max : PySem.W.nsIn K mainGlobals "max" = some none)
    (z_min : PySem.W.nsIn K mainGlobals "min" = some none)
    (z_abs : PySem.W.nsIn K mainGlobals "abs" = some none)
    (z_isinstance : PySem.W.nsIn K mainGlobals "isinstance" = some none)
    (z_all : PySem.W.nsIn K mainGlobals "all" = some none)
    (z_int : PySem.W.nsIn K mainGlobals "int" = some none)
    (z_list : PySem.W.nsIn K mainGlobals "list" = some none)
    (z_tuple : PySem.W.nsIn K mainGlobals "tuple" = some none)
    (z_range : PySem.W.nsIn K mainGlobals "range" = some none)
    (z_enumerate : PySem.W.nsIn K mainGlobals "enumerate" = some none)
    (z_bool : PySem.W.nsIn K mainGlobals "bool" = some none)
    (g_SAMPLE_LEAST : PySem.W.nsIn K mainGlobals "SAMPLE_LEAST" = some (some (.int (-8388608) t_SAMPLE_LEAST)))
    (g_SAMPLE_MOST : PySem.W.nsIn K mainGlobals "SAMPLE_MOST" = some (some (.int (8388607) t_SAMPLE_MOST)))
    (g_GAIN_ONE : PySem.W.nsIn K mainGlobals "GAIN_ONE" = some (some (.int (65536) t_GAIN_ONE)))
    (g_PARTS : PySem.W.nsIn K mainGlobals "PARTS" = some (some (.ref a_PARTS)))
    (p_PARTS : K.lookup a_PARTS = some ⟨.type "tuple", od_PARTS, .seq its_PARTS n_PARTS, sl_PARTS⟩)
    (v_PARTS : Vals (PARTSV.map V.int) its_PARTS.toList)
    : LawAt l w K mg fa :=
  law_of X G hfa (tx_mk X G g_DelayLine g_Pass g_Gain g_Delay g_Smooth g_Ahead ais_count lis_count cis_count kis_count ais_sample lis_sample cis_sample kis_sample acut lcut ccut kcut athrough lthrough cthrough kthrough agreatest_divisor lgreatest_divisor cgreatest_divisor kgreatest_divisor acommon_denominator lcommon_denominator ccommon_denominator kcommon_denominator aunits_of lunits_of cunits_of kunits_of aframe_of lframe_of cframe_of kframe_of ain_frames lin_frames cin_frames kin_frames avalue_at lvalue_at cvalue_at kvalue_at ais_past lis_past cis_past kis_past aDelayLine_init iDelayLine_init lDelayLine_init cDelayLine_init kDelayLine_init aDelayLine_process iDelayLine_process lDelayLine_process cDelayLine_process kDelayLine_process aDelayLine_state iDelayLine_state lDelayLine_state cDelayLine_state kDelayLine_state aDelayLine_restore iDelayLine_restore lDelayLine_restore cDelayLine_restore kDelayLine_restore alatency_of llatency_of clatency_of klatency_of atoward ltoward ctoward ktoward aturned_down lturned_down cturned_down kturned_down aPass_process iPass_process lPass_process cPass_process kPass_process aPass_state iPass_state lPass_state cPass_state kPass_state aPass_restore iPass_restore lPass_restore cPass_restore kPass_restore aGain_init iGain_init lGain_init cGain_init kGain_init aGain_process iGain_process lGain_process cGain_process kGain_process aGain_state iGain_state lGain_state cGain_state kGain_state aGain_restore iGain_restore lGain_restore cGain_restore kGain_restore aDelay_init iDelay_init lDelay_init cDelay_init kDelay_init aDelay_process iDelay_process lDelay_process cDelay_process kDelay_process aDelay_state iDelay_state lDelay_state cDelay_state kDelay_state aDelay_restore iDelay_restore lDelay_restore cDelay_restore kDelay_restore aSmooth_init iSmooth_init lSmooth_init cSmooth_init kSmooth_init aSmooth_process iSmooth_process lSmooth_process cSmooth_process kSmooth_process aSmooth_state iSmooth_state lSmooth_state cSmooth_state kSmooth_state aSmooth_restore iSmooth_restore lSmooth_restore cSmooth_restore kSmooth_restore aAhead_init iAhead_init lAhead_init cAhead_init kAhead_init aAhead_process iAhead_process lAhead_process cAhead_process kAhead_process aAhead_state iAhead_state lAhead_state cAhead_state kAhead_state aAhead_restore iAhead_restore lAhead_restore cAhead_restore kAhead_restore aeffect_of leffect_of ceffect_of keffect_of al_deck ll_deck cl_deck kl_deck al_draw ll_draw cl_draw kl_draw al_sample ll_sample cl_sample kl_sample al_samples ll_samples cl_samples kl_samples al_gain ll_gain cl_gain kl_gain al_tempo ll_tempo cl_tempo kl_tempo al_points ll_points cl_points kl_points al_spec ll_spec cl_spec kl_spec al_cut ll_cut cl_cut kl_cut al_through ll_through cl_through kl_through al_frame ll_frame cl_frame kl_frame al_value ll_value cl_value kl_value al_before ll_before cl_before kl_before al_smoothed ll_smoothed cl_smoothed kl_smoothed al_meant ll_meant cl_meant kl_meant al_is_row ll_is_row cl_is_row kl_is_row al_blocks ll_blocks cl_blocks kl_blocks al_part ll_part cl_part kl_part al_made ll_made cl_made kl_made al_late ll_late cl_late kl_late al_sent ll_sent cl_sent kl_sent alaw llaw claw klaw pg_DelayLine hd_DelayLine po_DelayLine sa_DelayLine mk_DelayLine kc_DelayLine n_DelayLine_frames n_DelayLine_past pg_Pass hd_Pass po_Pass sa_Pass mk_Pass kc_Pass oi_Pass pg_Gain hd_Gain po_Gain sa_Gain mk_Gain kc_Gain n_Gain_points pg_Delay hd_Delay po_Delay sa_Delay mk_Delay kc_Delay n_Delay_frames n_Delay_feedback n_Delay_own n_Delay_past pg_Smooth hd_Smooth po_Smooth sa_Smooth mk_Smooth kc_Smooth n_Smooth_k n_Smooth_value pg_Ahead hd_Ahead po_Ahead sa_Ahead mk_Ahead kc_Ahead n_Ahead_frames n_Ahead_ceiling n_Ahead_past z_len z_max z_min z_abs z_isinstance z_all z_int z_list z_tuple z_range z_enumerate z_bool g_SAMPLE_LEAST g_SAMPLE_MOST g_GAIN_ONE g_PARTS p_PARTS v_PARTS) fun s v => .of_eq rfl
theorem walk {l : PySem.W.OpenLaw} {q : Program} {loose : List Str} {XP : (Str → Option Value) → Heap → Prop} {YP : World → Heap → Prop} {d : DefRec} {K : Params → PySem.W.Frag} (hn : l.most = some 63) (hdf : d.params.defaults = [])
    (hY : ∀ (w : World) (h : Heap), YP w h → (K w.params).In h)
    (F : ∀ (w : World) (mg : Str → Option Value) (fa : Addr) (h : Heap), (K w.params).In h → h.Ns mainGlobals mg → mg d.name = some (.ref fa) → LawAt l w (K w.params) mg fa) :
    PySem.W.WalkO q loose XP YP l.row.toRowW d [] (fun f vs => PySem.call f vs) :=
  L2.walk_of (n := 63) (k := 7) (x := "_law_script") (CX := fun _ => CX0) (sp := fun w => spLawK (K w.params)) hn (by decide) hdf ⟨rfl, by decide, by decide⟩ hY F (fun _ _ a ns hl _ hS => ⟨a, ns, rfl, hS, hl, fun _ => rfl⟩) fun _ _ _ _ _ z => z
end K37

/-! K37, part 18: the head. -/
open PySem PySem.W PyProof.Rows in
set_option maxRecDepth 100000 in
set_option maxHeartbeats 0 in
theorem PySem.Challenge.cw_everyblock_k37_whole_chain_holds : PySem.Challenge.rw_everyblock_k37_whole_chain.Holds := by
  w_on; o_law; k_head; (case hw => w_witness2)
  k_fill
  refine K37.walk (l := PySem.Challenge.rw_everyblock_k37_whole_chain) rfl rfl (fun w h Y => PySem.W.kIn_of Y) ?F
  case F =>
    intro w mg fa h KX G hmg
    refine' K37.all_mk KX G hmg ?g_DelayLine ?g_Pass ?g_Gain ?g_Delay ?g_Smooth ?g_Ahead ?ais_count ?lis_count ?cis_count ?kis_count ?ais_sample ?lis_sample ?cis_sample ?kis_sample ?acut ?lcut ?ccut ?kcut ?athrough ?lthrough ?cthrough ?kthrough ?agreatest_divisor ?lgreatest_divisor ?cgreatest_divisor ?kgreatest_divisor ?acommon_denominator ?lcommon_denominator ?ccommon_denominator ?kcommon_denominator ?aunits_of ?lunits_of ?cunits_of ?kunits_of ?aframe_of ?lframe_of ?cframe_of ?kframe_of ?ain_frames ?lin_frames ?cin_frames ?kin_frames ?avalue_at ?lvalue_at ?cvalue_at ?kvalue_at ?ais_past ?lis_past ?cis_past ?kis_past ?aDelayLine_init ?iDelayLine_init ?lDelayLine_init ?cDelayLine_init ?kDelayLine_init ?aDelayLine_process ?iDelayLine_process ?lDelayLine_process ?cDelayLine_process ?kDelayLine_process ?aDelayLine_state ?iDelayLine_state ?lDelayLine_state ?cDelayLine_state ?kDelayLine_state ?aDelayLine_restore ?iDelayLine_restore ?lDelayLine_restore ?cDelayLine_restore ?kDelayLine_restore ?alatency_of ?llatency_of ?clatency_of ?klatency_of ?atoward ?ltoward ?ctoward ?ktoward ?aturned_down ?lturned_down ?cturned_down ?kturned_down ?aPass_process ?iPass_process ?lPass_process ?cPass_process ?kPass_process ?aPass_state ?iPass_state ?lPass_state ?cPass_state ?kPass_state ?aPass_restore ?iPass_restore ?lPass_restore ?cPass_restore ?kPass_restore ?aGain_init ?iGain_init ?lGain_init ?cGain_init ?kGain_init ?aGain_process ?iGain_process ?lGain_process ?cGain_process ?kGain_process ?aGain_state ?iGain_state ?lGain_state ?cGain_state ?kGain_state ?aGain_restore ?iGain_restore ?lGain_restore ?cGain_restore ?kGain_restore ?aDelay_init ?iDelay_init ?lDelay_init ?cDelay_init ?kDelay_init ?aDelay_process ?iDelay_process ?lDelay_process ?cDelay_process ?kDelay_process ?aDelay_state ?iDelay_state ?lDelay_state ?cDelay_state ?kDelay_state ?aDelay_restore ?iDelay_restore ?lDelay_restore ?cDelay_restore ?kDelay_restore ?aSmooth_init ?iSmooth_init ?lSmooth_init ?cSmooth_init ?kSmooth_init ?aSmooth_process ?iSmooth_process ?lSmooth_process ?cSmooth_process ?kSmooth_process ?aSmooth_state ?iSmooth_state ?lSmooth_state ?cSmooth_state ?kSmooth_state ?aSmooth_restore ?iSmooth_restore ?lSmooth_restore ?cSmooth_restore ?kSmooth_restore ?aAhead_init ?iAhead_init ?lAhead_init ?cAhead_init ?kAhead_init ?aAhead_process ?iAhead_process ?lAhead_process ?cAhead_process ?kAhead_process ?aAhead_state ?iAhead_state ?lAhead_state ?cAhead_state ?kAhead_state ?aAhead_restore ?iAhead_restore ?lAhead_restore ?cAhead_restore ?kAhead_restore ?aeffect_of ?leffect_of ?ceffect_of ?keffect_of ?al_deck ?ll_deck ?cl_deck ?kl_deck ?al_draw ?ll_draw ?cl_draw ?kl_draw ?al_sample ?ll_sample ?cl_sample ?kl_sample ?al_samples ?ll_samples ?cl_samples ?kl_samples ?al_gain ?ll_gain ?cl_gain ?kl_gain ?al_tempo ?ll_tempo ?cl_tempo ?kl_tempo ?al_points ?ll_points ?cl_points ?kl_points ?al_spec ?ll_spec ?cl_spec ?kl_spec ?al_cut ?ll_cut ?cl_cut ?kl_cut ?al_through ?ll_through ?cl_through ?kl_through ?al_frame ?ll_frame ?cl_frame ?kl_frame ?al_value ?ll_value ?cl_value ?kl_value ?al_before ?ll_before ?cl_before ?kl_before ?al_smoothed ?ll_smoothed ?cl_smoothed ?kl_smoothed ?al_meant ?ll_meant ?cl_meant ?kl_meant ?al_is_row ?ll_is_row ?cl_is_row ?kl_is_row ?al_blocks ?ll_blocks ?cl_blocks ?kl_blocks ?al_part ?ll_part ?cl_part ?kl_part ?al_made ?ll_made ?cl_made ?kl_made ?al_late ?ll_late ?cl_late ?kl_late ?al_sent ?ll_sent ?cl_sent ?kl_sent ?alaw ?llaw ?claw ?klaw ?pg_DelayLine ?hd_DelayLine ?po_DelayLine ?sa_DelayLine ?mk_DelayLine ?kc_DelayLine ?n_DelayLine_frames ?n_DelayLine_past ?pg_Pass ?hd_Pass ?po_Pass ?sa_Pass ?mk_Pass ?kc_Pass ?oi_Pass ?pg_Gain ?hd_Gain ?po_Gain ?sa_Gain ?mk_Gain ?kc_Gain ?n_Gain_points ?pg_Delay ?hd_Delay ?po_Delay ?sa_Delay ?mk_Delay ?kc_Delay ?n_Delay_frames ?n_Delay_feedback ?n_Delay_own ?n_Delay_past ?pg_Smooth ?hd_Smooth ?po_Smooth ?sa_Smooth ?mk_Smooth ?kc_Smooth ?n_Smooth_k ?n_Smooth_value ?pg_Ahead ?hd_Ahead ?po_Ahead ?sa_Ahead ?mk_Ahead ?kc_Ahead ?n_Ahead_frames ?n_Ahead_ceiling ?n_Ahead_past ?z_len ?z_max ?z_min ?z_abs ?z_isinstance ?z_all ?z_int ?z_list ?z_tuple ?z_range ?z_enumerate ?z_bool ?g_SAMPLE_LEAST ?g_SAMPLE_MOST ?g_GAIN_ONE ?g_PARTS ?p_PARTS ?v_PARTS
    (case g_DelayLine => k_is)
    (case g_Pass => k_is)
    (case g_Gain => k_is)
    (case g_Delay => k_is)
    (case g_Smooth => k_is)
    (case g_Ahead => k_is)
    (case ais_count => k_is)
    (case lis_count => k_is)
    (case cis_count => k_is)
    (case kis_count => k_is)
    (case ais_sample => k_is)
    (case lis_sample => k_is)
    (case cis_sample => k_is)
    (case kis_sample => k_is)
    (case acut => k_is)
    (case lcut => k_is)
    (case ccut => k_is)
    (case kcut => k_is)
    (case athrough => k_is)
    (case lthrough => k_is)
    (case cthrough => k_is)
    (case kthrough => k_is)
    (case agreatest_divisor => k_is)
    (case lgreatest_divisor => k_is)
    (case cgreatest_divisor => k_is)
    (case kgreatest_divisor => k_is)
    (case acommon_denominator => k_is)
    (case lcommon_denominator => k_is)
    (case ccommon_denominator => k_is)
    (case kcommon_denominator => k_is)
    (case aunits_of => k_is)
    (case lunits_of => k_is)
    (case cunits_of => k_is)
    (case kunits_of => k_is)
    (case aframe_of => k_is)
    (case lframe_of => k_is)
    (case cframe_of => k_is)
    (case kframe_of => k_is)
    (case ain_frames => k_is)
    (case lin_frames => k_is)
    (case cin_frames => k_is)
    (case kin_frames => k_is)
    (case avalue_at => k_is)
    (case lvalue_at => k_is)
    (case cvalue_at => k_is)
    (case kvalue_at => k_is)
    (case ais_past => k_is)
    (case lis_past => k_is)
    (case cis_past => k_is)
    (case kis_past => k_is)
    (case aDelayLine_init => k_is)
    (case iDelayLine_init => k_is)
    (case lDelayLine_init => k_is)
    (case cDelayLine_init => k_is)
    (case kDelayLine_init => k_is)
    (case aDelayLine_process => k_is)
    (case iDelayLine_process => k_is)
    (case lDelayLine_process => k_is)
    (case cDelayLine_process => k_is)
    (case kDelayLine_process => k_is)
    (case aDelayLine_state => k_is)
    (case iDelayLine_state => k_is)
    (case lDelayLine_state => k_is)
    (case cDelayLine_state => k_is)
    (case kDelayLine_state => k_is)
    (case aDelayLine_restore => k_is)
    (case iDelayLine_restore => k_is)
    (case lDelayLine_restore => k_is)
    (case cDelayLine_restore => k_is)
    (case kDelayLine_restore => k_is)
    (case alatency_of => k_is)
    (case llatency_of => k_is)
    (case clatency_of => k_is)
    (case klatency_of => k_is)
    (case atoward => k_is)
    (case ltoward => k_is)
    (case ctoward => k_is)
    (case ktoward => k_is)
    (case aturned_down => k_is)
    (case lturned_down => k_is)
    (case cturned_down => k_is)
    (case kturned_down => k_is)
    (case aPass_process => k_is)
    (case iPass_process => k_is)
    (case lPass_process => k_is)
    (case cPass_process => k_is)
    (case kPass_process => k_is)
    (case aPass_state => k_is)
    (case iPass_state => k_is)
    (case lPass_state => k_is)
    (case cPass_state => k_is)
    (case kPass_state => k_is)
    (case aPass_restore => k_is)
    (case iPass_restore => k_is)
    (case lPass_restore => k_is)
    (case cPass_restore => k_is)
    (case kPass_restore => k_is)
    (case aGain_init => k_is)
    (case iGain_init => k_is)
    (case lGain_init => k_is)
    (case cGain_init => k_is)
    (case kGain_init => k_is)
    (case aGain_process => k_is)
    (case iGain_process => k_is)
    (case lGain_process => k_is)
    (case cGain_process => k_is)
    (case kGain_process => k_is)
    (case aGain_state => k_is)
    (case iGain_state => k_is)
    (case lGain_state => k_is)
    (case cGain_state => k_is)
    (case kGain_state => k_is)
    (case aGain_restore => k_is)
    (case iGain_restore => k_is)
    (case lGain_restore => k_is)
    (case cGain_restore => k_is)
    (case kGain_restore => k_is)
    (case aDelay_init => k_is)
    (case iDelay_init => k_is)
    (case lDelay_init => k_is)
    (case cDelay_init => k_is)
    (case kDelay_init => k_is)
    (case aDelay_process => k_is)
    (case iDelay_process => k_is)
    (case lDelay_process => k_is)
    (case cDelay_process => k_is)
    (case kDelay_process => k_is)
    (case aDelay_state => k_is)
    (case iDelay_state => k_is)
    (case lDelay_state => k_is)
    (case cDelay_state => k_is)
    (case kDelay_state => k_is)
    (case aDelay_restore => k_is)
    (case iDelay_restore => k_is)
    (case lDelay_restore => k_is)
    (case cDelay_restore => k_is)
    (case kDelay_restore => k_is)
    (case aSmooth_init => k_is)
    (case iSmooth_init => k_is)
    (case lSmooth_init => k_is)
    (case cSmooth_init => k_is)
    (case kSmooth_init => k_is)
    (case aSmooth_process => k_is)
    (case iSmooth_process => k_is)
    (case lSmooth_process => k_is)
    (case cSmooth_process => k_is)
    (case kSmooth_process => k_is)
    (case aSmooth_state => k_is)
    (case iSmooth_state => k_is)
    (case lSmooth_state => k_is)
    (case cSmooth_state => k_is)
    (case kSmooth_state => k_is)
    (case aSmooth_restore => k_is)
    (case iSmooth_restore => k_is)
    (case lSmooth_restore => k_is)
    (case cSmooth_restore => k_is)
    (case kSmooth_restore => k_is)
    (case aAhead_init => k_is)
    (case iAhead_init => k_is)
    (case lAhead_init => k_is)
    (case cAhead_init => k_is)
    (case kAhead_init => k_is)
    (case aAhead_process => k_is)
    (case iAhead_process => k_is)
    (case lAhead_process => k_is)
    (case cAhead_process => k_is)
    (case kAhead_process => k_is)
    (case aAhead_state => k_is)
    (case iAhead_state => k_is)
    (case lAhead_state => k_is)
    (case cAhead_state => k_is)
    (case kAhead_state => k_is)
    (case aAhead_restore => k_is)
    (case iAhead_restore => k_is)
    (case lAhead_restore => k_is)
    (case cAhead_restore => k_is)
    (case kAhead_restore => k_is)
    (case aeffect_of => k_is)
    (case leffect_of => k_is)
    (case ceffect_of => k_is)
    (case keffect_of => k_is)
    (case al_deck => k_is)
    (case ll_deck => k_is)
    (case cl_deck => k_is)
    (case kl_deck => k_is)
    (case al_draw => k_is)
    (case ll_draw => k_is)
    (case cl_draw => k_is)
    (case kl_draw => k_is)
    (case al_sample => k_is)
    (case ll_sample => k_is)
    (case cl_sample => k_is)
    (case kl_sample => k_is)
    (case al_samples => k_is)
    (case ll_samples => k_is)
    (case cl_samples => k_is)
    (case kl_samples => k_is)
    (case al_gain => k_is)
    (case ll_gain => k_is)
    (case cl_gain => k_is)
    (case kl_gain => k_is)
    (case al_tempo => k_is)
    (case ll_tempo => k_is)
    (case cl_tempo => k_is)
    (case kl_tempo => k_is)
    (case al_points => k_is)
    (case ll_points => k_is)
    (case cl_points => k_is)
    (case kl_points => k_is)
    (case al_spec => k_is)
    (case ll_spec => k_is)
    (case cl_spec => k_is)
    (case kl_spec => k_is)
    (case al_cut => k_is)
    (case ll_cut => k_is)
    (case cl_cut => k_is)
    (case kl_cut => k_is)
    (case al_through => k_is)
    (case ll_through => k_is)
    (case cl_through => k_is)
    (case kl_through => k_is)
    (case al_frame => k_is)
    (case ll_frame => k_is)
    (case cl_frame => k_is)
    (case kl_frame => k_is)
    (case al_value => k_is)
    (case ll_value => k_is)
    (case cl_value => k_is)
    (case kl_value => k_is)
    (case al_before => k_is)
    (case ll_before => k_is)
    (case cl_before => k_is)
    (case kl_before => k_is)
    (case al_smoothed => k_is)
    (case ll_smoothed => k_is)
    (case cl_smoothed => k_is)
    (case kl_smoothed => k_is)
    (case al_meant => k_is)
    (case ll_meant => k_is)
    (case cl_meant => k_is)
    (case kl_meant => k_is)
    (case al_is_row => k_is)
    (case ll_is_row => k_is)
    (case cl_is_row => k_is)
    (case kl_is_row => k_is)
    (case al_blocks => k_is)
    (case ll_blocks => k_is)
    (case cl_blocks => k_is)
    (case kl_blocks => k_is)
    (case al_part => k_is)
    (case ll_part => k_is)
    (case cl_part => k_is)
    (case kl_part => k_is)
    (case al_made => k_is)
    (case ll_made => k_is)
    (case cl_made => k_is)
    (case kl_made => k_is)
    (case al_late => k_is)
    (case ll_late => k_is)
    (case cl_late => k_is)
    (case kl_late => k_is)
    (case al_sent => k_is)
    (case ll_sent => k_is)
    (case cl_sent => k_is)
    (case kl_sent => k_is)
    (case alaw => k_is)
    (case llaw => k_is)
    (case claw => k_is)
    (case klaw => k_is)
    (case pg_DelayLine => k_is)
    (case hd_DelayLine => k_is)
    (case po_DelayLine => k_is)
    (case sa_DelayLine => k_is)
    (case mk_DelayLine => k_is)
    (case kc_DelayLine => k_is)
    (case n_DelayLine_frames => k_is)
    (case n_DelayLine_past => k_is)
    (case pg_Pass => k_is)
    (case hd_Pass => k_is)
    (case po_Pass => k_is)
    (case sa_Pass => k_is)
    (case mk_Pass => k_is)
    (case kc_Pass => k_is)
    (case oi_Pass => k_is)
    (case pg_Gain => k_is)
    (case hd_Gain => k_is)
    (case po_Gain => k_is)
    (case sa_Gain => k_is)
    (case mk_Gain => k_is)
    (case kc_Gain => k_is)
    (case n_Gain_points => k_is)
    (case pg_Delay => k_is)
    (case hd_Delay => k_is)
    (case po_Delay => k_is)
    (case sa_Delay => k_is)
    (case mk_Delay => k_is)
    (case kc_Delay => k_is)
    (case n_Delay_frames => k_is)
    (case n_Delay_feedback => k_is)
    (case n_Delay_own => k_is)
    (case n_Delay_past => k_is)
    (case pg_Smooth => k_is)
    (case hd_Smooth => k_is)
    (case po_Smooth => k_is)
    (case sa_Smooth => k_is)
    (case mk_Smooth => k_is)
    (case kc_Smooth => k_is)
    (case n_Smooth_k => k_is)
    (case n_Smooth_value => k_is)
    (case pg_Ahead => k_is)
    (case hd_Ahead => k_is)
    (case po_Ahead => k_is)
    (case sa_Ahead => k_is)
    (case mk_Ahead => k_is)
    (case kc_Ahead => k_is)
    (case n_Ahead_frames => k_is)
    (case n_Ahead_ceiling => k_is)
    (case n_Ahead_past => k_is)
    (case z_len => k_is)
    (case z_max => k_is)
    (case z_min => k_is)
    (case z_abs => k_is)
    (case z_isinstance => k_is)
    (case z_all => k_is)
    (case z_int => k_is)
    (case z_list => k_is)
    (case z_tuple => k_is)
    (case z_range => k_is)
    (case z_enumerate => k_is)
    (case z_bool => k_is)
    (case g_SAMPLE_LEAST => k_is)
    (case g_SAMPLE_MOST => k_is)
    (case g_GAIN_ONE => k_is)
    (case g_PARTS => k_is)
    (case p_PARTS => k_is)
    (case v_PARTS => exact K37.vals_one (K37.vals_one (K37.vals_one (K37.vals_one (K37.vals_one (K37.vals_one (K37.vals_one (K37.vals_one (K37.vals_one (.nil))))))))))
