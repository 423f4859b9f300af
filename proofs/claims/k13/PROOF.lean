import PyProof.Rows.All
import Wide.All
import OpenK.AllK
import Wide.FinOn
import KE.KStateDown
import KE.KExcSuper
import HandS.ForMost
import HandS.ForExc
import HandS.Conv
import HandS.Style
import HandS.IsInst
import HandS.Wide
import HandS.Evl
import HandS.Defaults
import HandS.ExcInit
import HandS.TryMany
import HandS.Head0
import HandS.Head1
import HandS.Head2
import HandS.HeadEnd
import HandS.HeadHook1
import HandS.HeadHook2
import HandS.HeadHook3
import HandS.HeadHook4
import PyProof.ReprReads
import PySem.Challenge.RW_bodyforbody_k13_whole_bodies_done_severa
import KE.GoesMore
import KE.GoesEnum
import HandS.TupLen
import HandS.Small
import PyProof.ReprRoads
import HandS.Ends
import KE.KSuper
import HandS.ExcSuper
import KE.KDictKeyed
import HandS.TupAny
set_option Elab.async false
set_option linter.all false
set_option maxRecDepth 100000
set_option maxHeartbeats 4000000
namespace Kx

/-! ### a sequence that comes round -/
def Rho {α : Type} (x : Nat → α) (t r : Nat) : Prop := 0 < r ∧ ∀ i k, x i = x (i + k) ↔ (k = 0 ∨ (t ≤ i ∧ r ∣ k))
def RhoE (E : Nat → Nat → Prop) (t r : Nat) : Prop := 0 < r ∧ ∀ i k, E i (i + k) ↔ (k = 0 ∨ (t ≤ i ∧ r ∣ k))
def Dist {α : Type} (x : Nat → α) (n : Nat) : Prop := ∀ i j, i < j → j < n → x i ≠ x j
def Det {α : Type} (x : Nat → α) : Prop := ∀ i j, x i = x j → x (i + 1) = x (j + 1)

theorem Rho.toE {α : Type} {x : Nat → α} {t r : Nat} (h : Rho x t r) : RhoE (fun i j => x i = x j) t r := h

theorem RhoE.le_dvd {E : Nat → Nat → Prop} {t r t' r' : Nat} (h : RhoE E t r) (h' : RhoE E t' r') : t ≤ t' ∧ r ∣ r' := by
  have e : E t' (t' + r') := (h'.2 t' r').mpr (.inr ⟨Nat.le_refl _, Nat.dvd_refl _⟩)
  have p := h'.1
  rcases (h.2 t' r').mp e with z | z
  · omega
  · exact z
theorem RhoE.uniq {E : Nat → Nat → Prop} {t r t' r' : Nat} (h : RhoE E t r) (h' : RhoE E t' r') : t = t' ∧ r = r' := by
  have a := h.le_dvd h'
  have b := h'.le_dvd h
  exact ⟨Nat.le_antisymm a.1 b.1, Nat.dvd_antisymm a.2 b.2⟩
theorem RhoE.and {E F : Nat → Nat → Prop} {t r t' r' : Nat} (h : RhoE E t r) (h' : RhoE F t' r') :
    RhoE (fun i j => E i j ∧ F i j) (max t t') (Nat.lcm r r') := by
  refine ⟨Nat.lcm_pos h.1 h'.1, fun i k => ?_⟩
  show (E i (i + k) ∧ F i (i + k)) ↔ _
  rw [h.2 i k, h'.2 i k]
  constructor
  · rintro ⟨a, b⟩
    rcases a with a | ⟨a1, a2⟩
    · exact .inl a
    · rcases b with b | ⟨b1, b2⟩
      · exact .inl b
      · exact .inr ⟨by omega, Nat.lcm_dvd a2 b2⟩
  · rintro (a | ⟨a1, a2⟩)
    · exact ⟨.inl a, .inl a⟩
    · exact ⟨.inr ⟨by omega, Nat.dvd_trans (Nat.dvd_lcm_left _ _) a2⟩, .inr ⟨by omega, Nat.dvd_trans (Nat.dvd_lcm_right _ _) a2⟩⟩
theorem RhoE.congr {E F : Nat → Nat → Prop} {t r : Nat} (h : RhoE E t r) (e : ∀ i j, E i j ↔ F i j) : RhoE F t r :=
  ⟨h.1, fun i k => (e i (i + k)).symm.trans (h.2 i k)⟩
theorem RhoE.all : RhoE (fun _ _ => True) 0 1 := by
  refine ⟨Nat.one_pos, fun i k => ?_⟩
  show True ↔ _
  refine ⟨fun _ => .inr ⟨Nat.zero_le _, Nat.one_dvd _⟩, fun _ => trivial⟩

theorem Det.add {α : Type} {x : Nat → α} (d : Det x) {i j : Nat} (h : x i = x j) : ∀ k, x (i + k) = x (j + k)
  | 0 => h
  | k + 1 => d _ _ (d.add h k)
theorem per_mul {α : Type} {x : Nat → α} {m r : Nat} (h : ∀ j, x (m + j) = x (m + j + r)) : ∀ q j, x (m + j) = x (m + j + r * q)
  | 0, j => by rw [Nat.mul_zero, Nat.add_zero]
  | q + 1, j => by
    rw [per_mul h q j]
    have e := h (j + r * q)
    have e1 : m + j + r * q = m + (j + r * q) := by omega
    have e2 : m + j + r * (q + 1) = m + (j + r * q) + r := by rw [Nat.mul_add]; omega
    rw [e1, e2]
    exact e
/-- the first repetition tells the tail and the ring -/
theorem first_rep {α : Type} {x : Nat → α} {n m : Nat} (d : Det x) (ds : Dist x n) (hm : m < n) (e : x m = x n) : Rho x m (n - m) := by
  obtain ⟨r, hr⟩ : ∃ r, n = m + r := ⟨n - m, by omega⟩
  have r0 : 0 < r := by omega
  rw [show n - m = r by omega]
  have per : ∀ j, x (m + j) = x (m + j + r) := fun j => by
    have z := d.add (show x m = x (m + r) by rw [← hr]; exact e) j
    rw [z, show m + r + j = m + j + r by omega]
  have red : ∀ i, m ≤ i → x i = x (m + (i - m) % r) := fun i hi => by
    have z := per_mul per ((i - m) / r) ((i - m) % r)
    rw [z]
    have q := Nat.mod_add_div (i - m) r
    rw [show m + (i - m) % r + r * ((i - m) / r) = i by omega]
  have inj : ∀ i j, i < n → j < n → x i = x j → i = j := fun i j hi hj h => by
    rcases Nat.lt_trichotomy i j with z | z | z
    · exact absurd h (ds i j z hj)
    · exact z
    · exact absurd h.symm (ds j i z hi)
  refine ⟨r0, fun i k => ⟨fun h => ?_, fun h => ?_⟩⟩
  · by_cases hk : k = 0
    · exact .inl hk
    refine .inr ?_
    by_cases him : m ≤ i
    · refine ⟨him, ?_⟩
      have h2 := red i him
      have h3 := red (i + k) (by omega)
      rw [h2, h3] at h
      have l1 := Nat.mod_lt (i - m) r0
      have l2 := Nat.mod_lt (i + k - m) r0
      have q := inj _ _ (by omega) (by omega) h
      have q2 : (i - m) % r = (i + k - m) % r := by omega
      rw [show i + k - m = (i - m) + k by omega] at q2
      have q3 : ((i - m) + k) % r = (i - m) % r := q2.symm
      have a1 := Nat.mod_add_div (i - m) r
      have a2 := Nat.mod_add_div ((i - m) + k) r
      rw [q3] at a2
      refine ⟨((i - m) + k) / r - (i - m) / r, ?_⟩
      have e3 : r * (((i - m) + k) / r - (i - m) / r) = r * (((i - m) + k) / r) - r * ((i - m) / r) := Nat.mul_sub _ _ _
      omega
    · exfalso
      by_cases hk2 : i + k < n
      · exact absurd (inj _ _ (by omega) hk2 h) (by omega)
      · have h3 := red (i + k) (by omega)
        rw [h3] at h
        have l2 := Nat.mod_lt (i + k - m) r0
        exact absurd (inj _ _ (by omega) (by omega) h) (by omega)
  · rcases h with rfl | ⟨h1, q, rfl⟩
    · rfl
    · have z := per_mul per q (i - m)
      rw [show m + (i - m) = i by omega] at z
      exact z

/-! ### pigeons -/
theorem nodup_le : ∀ (n : Nat) (l : List Nat), l.Nodup → (∀ x ∈ l, x < n) → l.length ≤ n
  | 0, l, _, h => by
    cases l with
    | nil => exact Nat.le_refl _
    | cons a r => exact absurd (h a List.mem_cons_self) (Nat.not_lt_zero _)
  | n + 1, l, nd, h => by
    by_cases hn : n ∈ l
    · have e1 := nodup_le n (l.erase n) (nd.erase n) (fun x hx => by
        have h1 := h x (List.mem_of_mem_erase hx)
        have h2 : x ≠ n := fun z => by
          subst z
          exact absurd hx (List.Nodup.not_mem_erase nd)
        omega)
      have e2 := List.length_erase_of_mem hn
      have e3 : 0 < l.length := List.length_pos_of_mem hn
      omega
    · have e1 := nodup_le n l nd (fun x hx => by
        have h1 := h x hx
        have h2 : x ≠ n := fun z => hn (z ▸ hx)
        omega)
      omega
theorem nodup_seq {x : Nat → Nat} {n : Nat} (d : Dist x n) : ((List.range n).map x).Nodup := by
  rw [List.nodup_iff_pairwise_ne, List.pairwise_map]
  have h := @List.pairwise_lt_range n
  refine List.Pairwise.imp_of_mem ?_ h
  intro a b ha hb hab
  exact d a b hab (List.mem_range.mp hb)
theorem dist_le {x : Nat → Nat} {n N : Nat} (d : Dist x N) (h : ∀ i, i < N → x i < n) : N ≤ n := by
  have z := nodup_le n _ (nodup_seq d) (fun y hy => by
    obtain ⟨i, hi, rfl⟩ := List.mem_map.mp hy
    exact h i (List.mem_range.mp hi))
  simpa using z
theorem dist_or {α : Type} (x : Nat → α) : ∀ N, Dist x N ∨ ∃ n, n < N ∧ Dist x n ∧ ∃ m, m < n ∧ x m = x n
  | 0 => .inl fun _ j _ hj => absurd hj (Nat.not_lt_zero _)
  | N + 1 => by
    rcases dist_or x N with h | ⟨n, h1, h2, h3⟩
    · by_cases q : ∃ m, m < N ∧ x m = x N
      · exact .inr ⟨N, Nat.lt_succ_self _, h, q⟩
      · refine .inl fun i j hij hj e => ?_
        by_cases z : j = N
        · subst z
          exact q ⟨i, hij, e⟩
        · exact h i j hij (by omega) e
    · exact .inr ⟨n, by omega, h2, h3⟩
/-- a sequence below n that goes its way comes round -/
theorem rho_ex {x : Nat → Nat} {n : Nat} (d : Det x) (h : ∀ i, x i < n) : ∃ t r, Rho x t r ∧ t + r ≤ n := by
  rcases dist_or x (n + 1) with q | ⟨N, h1, h2, m, h3, h4⟩
  · exact absurd (dist_le q fun i _ => h i) (by omega)
  · exact ⟨m, N - m, first_rep d h2 h3 h4, by omega⟩

/-! ### functions done again and again -/
def it (f : Nat → Nat) : Nat → Nat → Nat
  | 0, s => s
  | k + 1, s => f (it f k s)
theorem it_add (f : Nat → Nat) (s a : Nat) : ∀ b, it f (a + b) s = it f b (it f a s)
  | 0 => rfl
  | b + 1 => congrArg f (it_add f s a b)
theorem it_lt {f : Nat → Nat} {n : Nat} (hf : ∀ s, s < n → f s < n) {s : Nat} (hs : s < n) : ∀ k, it f k s < n
  | 0 => hs
  | k + 1 => hf _ (it_lt hf hs k)
theorem it_det (f : Nat → Nat) (s : Nat) : Det (fun k => it f k s) := fun _ _ h => congrArg f h

theorem cube (b : Nat) : b * b * b ≤ 3 ^ b := by
  have key : ∀ d, (d + 3) * (d + 3) * (d + 3) ≤ 3 ^ (d + 3) := by
    intro d
    induction d with
    | zero => decide
    | succ d ih =>
      have e : 3 ^ (d + 1 + 3) = 3 * 3 ^ (d + 3) := by rw [show d + 1 + 3 = (d + 3) + 1 by omega, Nat.pow_succ, Nat.mul_comm]
      rw [e]
      refine Nat.le_trans ?_ (Nat.mul_le_mul_left 3 ih)
      have x1 : (d + 1 + 3) * (d + 1 + 3) * (d + 1 + 3) = d * d * d + 12 * (d * d) + 48 * d + 64 := by
        grind
      have x2 : 3 * ((d + 3) * (d + 3) * (d + 3)) = 3 * (d * d * d) + 27 * (d * d) + 81 * d + 81 := by
        grind
      rw [x1, x2]
      omega
  match b with
  | 0 => decide
  | 1 => decide
  | 2 => decide
  | d + 3 => exact key d

theorem Rho.shift {x : Nat → Nat} {t r : Nat} (h : Rho x t r) {a : Nat} (ha : t ≤ a) : Rho (fun k => x (a + k)) 0 r := by
  refine ⟨h.1, fun i k => ?_⟩
  show x (a + i) = x (a + (i + k)) ↔ _
  rw [← Nat.add_assoc, h.2 (a + i) k]
  constructor
  · rintro (z | ⟨_, z⟩)
    · exact .inl z
    · exact .inr ⟨Nat.zero_le _, z⟩
  · rintro (z | ⟨_, z⟩)
    · exact .inl z
    · exact .inr ⟨by omega, z⟩

/-- all states at once: a tail, a ring, and the ring is small -/
theorem joint {f : Nat → Nat} {n : Nat} (hf : ∀ s, s < n → f s < n) : ∀ m, m ≤ n → ∃ t r, ∃ U : List Nat,
    RhoE (fun i j => ∀ s, s < m → it f i s = it f j s) t r ∧ t ≤ n ∧ r * r * r ≤ 3 ^ U.length ∧ U.Nodup ∧
      ∀ u ∈ U, u < n ∧ ∃ b, Rho (fun k => it f k u) 0 b ∧ b ∣ r
  | 0, _ => ⟨0, 1, [], RhoE.all.congr (fun i j => ⟨fun _ s hs => absurd hs (Nat.not_lt_zero _), fun _ => trivial⟩), Nat.zero_le _, by decide, List.nodup_nil, fun _ h => absurd h (by simp)⟩
  | m + 1, hm => by
    obtain ⟨t, r, U, h1, h2, h3, h4, h5⟩ := joint hf m (by omega)
    obtain ⟨a, b, hab, hn⟩ := rho_ex (it_det f m) (it_lt hf (show m < n by omega))
    have step : RhoE (fun i j => ∀ s, s < m + 1 → it f i s = it f j s) (max t a) (Nat.lcm r b) :=
      (h1.and hab.toE).congr fun i j => ⟨fun ⟨p, q⟩ s hs => by
        by_cases z : s = m
        · rw [z]; exact q
        · exact p s (by omega), fun p => ⟨fun s hs => p s (by omega), p m (by omega)⟩⟩
    by_cases hd : b ∣ r
    · have e : Nat.lcm r b = r := Nat.dvd_antisymm (Nat.lcm_dvd (Nat.dvd_refl _) hd) (Nat.dvd_lcm_left _ _)
      rw [e] at step
      exact ⟨_, _, U, step, by omega, h3, h4, h5⟩
    · refine ⟨_, _, U ++ (List.range b).map (fun k => it f (a + k) m), step, by omega, ?_, ?_, ?_⟩
      · have l1 : Nat.lcm r b ≤ r * b := Nat.le_of_dvd (Nat.mul_pos h1.1 hab.1) (Nat.lcm_dvd (Nat.dvd_mul_right _ _) (Nat.dvd_mul_left _ _))
        have l2 : Nat.lcm r b * Nat.lcm r b * Nat.lcm r b ≤ (r * b) * (r * b) * (r * b) := Nat.mul_le_mul (Nat.mul_le_mul l1 l1) l1
        refine Nat.le_trans l2 ?_
        rw [List.length_append, List.length_map, List.length_range, Nat.pow_add]
        have e : (r * b) * (r * b) * (r * b) = (r * r * r) * (b * b * b) := by
          simp only [Nat.mul_comm, Nat.mul_left_comm]
        rw [e]
        exact Nat.mul_le_mul h3 (cube b)
      · refine List.nodup_append.mpr ⟨h4, ?_, ?_⟩
        · refine nodup_seq (x := fun k => it f (a + k) m) fun i j hij hj e => ?_
          have z := (hab.2 (a + i) (j - i)).mp (by rw [show a + i + (j - i) = a + j by omega]; exact e)
          rcases z with z | ⟨_, z⟩
          · omega
          · have := Nat.le_of_dvd (by omega) z
            omega
        · intro u hu v hv e
          subst e
          obtain ⟨k, hk, rfl⟩ := List.mem_map.mp hv
          obtain ⟨_, b', hb, hb2⟩ := h5 _ hu
          have q : Rho (fun j => it f j (it f (a + k) m)) 0 b := by
            have z := hab.shift (a := a + k) (by omega)
            refine ⟨z.1, fun i j => ?_⟩
            have w := z.2 i j
            simp only [it_add] at w ⊢
            exact w
          have w := (hb.toE.uniq q.toE).2
          rw [w] at hb2
          exact hd hb2
      · intro u hu
        rcases List.mem_append.mp hu with hu | hu
        · obtain ⟨p, b', q1, q2⟩ := h5 u hu
          exact ⟨p, b', q1, Nat.dvd_trans q2 (Nat.dvd_lcm_left _ _)⟩
        · obtain ⟨k, hk, rfl⟩ := List.mem_map.mp hu
          refine ⟨it_lt hf (by omega) _, b, ?_, Nat.dvd_lcm_right _ _⟩
          have z := hab.shift (a := a + k) (by omega)
          refine ⟨z.1, fun i j => ?_⟩
          have w := z.2 i j
          simp only [it_add] at w ⊢
          exact w
theorem small_cube {r : Nat} (h : r * r * r ≤ 3 ^ 24) : r ≤ 6561 := by
  refine Nat.le_of_not_lt fun q => ?_
  have h1 : 6562 * 6562 * 6562 ≤ r * r * r := Nat.mul_le_mul (Nat.mul_le_mul q q) q
  have h2 : ¬ (6562 * 6562 * 6562 ≤ 3 ^ 24) := by decide
  exact h2 (Nat.le_trans h1 h)
theorem joint_small {f : Nat → Nat} {n : Nat} (hf : ∀ s, s < n → f s < n) (hn : n ≤ 24) :
    ∃ t r, RhoE (fun i j => ∀ s, s < n → it f i s = it f j s) t r ∧ t ≤ n ∧ r ≤ 6561 := by
  obtain ⟨t, r, U, h1, h2, h3, h4, h5⟩ := joint hf n (Nat.le_refl _)
  refine ⟨t, r, h1, h2, small_cube (Nat.le_trans h3 (Nat.pow_le_pow_right (by decide) ?_))⟩
  exact Nat.le_trans (nodup_le n U h4 fun u hu => (h5 u hu).1) hn
end Kx
namespace Kx
open PySem PySem.Spec PyProof.Rows L2 Evl

/-! ### the text by places -/
abbrev PRG : Program := PySem.Challenge.pw_bodyforbody_k13_whole_bodies_done_severa
def top (i : Nat) : Stmt := PRG.main.body.getD i (.Pass ⟨0, 0, 0, 0⟩)

/-- a def of the module as it stands behind the top -/
structure DefAt (K : PySem.W.Frag) (mg : Str → Option Value) (x : Str) (st : Stmt) : Prop where
  ex : ∃ f fd, mg x = some (.ref f) ∧ FunD K x x (defArgs st) (defBody st) (defScope st) [] [] f fd
/-- a def that keeps a promise, with all that a call of it by its name wants -/
structure Cal (P : Program) (w : World) (K : PySem.W.Frag) (mg : Str → Option Value) (base : Heap) (CX : CXT) (k : Nat) (x : Str) (ps : List Str) (sp : Sp) : Prop where
  ex : ∃ f fd, mg x = some (.ref f) ∧ PySem.W.keepIn K (.ref f) = true ∧ Binds K fd ps [] ∧ FnOk P w K mg base CX k f fd ps sp ∧ ∃ (oc : Value) (od : Option Addr) (osl : Array (Option Value)), K.lookup f = some ⟨oc, od, .func fd, osl⟩
section
variable {P : Program} {w : World} {K : PySem.W.Frag} {mg : Str → Option Value} {base : Heap}
theorem cal_of {CX : CXT} {k : Nat} {x : Str} {st : Stmt} {N ps : List Str} {sp : Sp} (D : DefAt K mg x st) (S : FnScope N ps (defScope st))
    (hb : ∀ (kV doc pm : Value) (an : Option Addr) (cdv ct : Value) (us : List Value), us.length = ps.length → bindArgs (PySem.W.fnOf x x (defArgs st) (defBody st) (defScope st) .none kV doc pm an cdv ct) ⟨us, []⟩ = pure (ps.zip us))
    (len : ∀ vs H Q E, sp vs H Q E → vs.length = ps.length)
    (body : ∀ (f : Addr) (cdv : Value) (A : Around) (outer : List Env) (s : Shared) (H : Hp) (vs : List V) (Q : VK) (E : XK), Room k (A.deeper (envOfC x (defScope st) s.heap.objs.size f cdv)) → sp vs H Q E →
      ∃ t, PSs (cxOf CX P w K mg base N x (defScope st) f cdv A outer s H E) (defBody st) t ∧ t { nx := fun _ H' => Q .non H', rt := Q } (start N vs) H) :
    Cal P w K mg base CX (k + 1) x ps sp := by
  obtain ⟨f, fd, hm, F⟩ := D.ex
  obtain ⟨oc, od, _, _, _, _, _, _, _, osl, _, lk, _⟩ := F.ex
  exact ⟨f, fd, hm, F.kp, F.bindsN hb, F.ok S len fun cdv A outer s H vs Q E hr h => body f cdv A outer s H vs Q E hr h, oc, od, osl, lk⟩
theorem cal_mono {CX : CXT} {j k : Nat} {x : Str} {ps : List Str} {sp : Sp} (C : Cal P w K mg base CX j x ps sp) (h : j ≤ k) : Cal P w K mg base CX k x ps sp := by
  obtain ⟨f, fd, h1, h2, h3, h4, h5⟩ := C.ex
  exact ⟨f, fd, h1, h2, h3, h4.mono h, h5⟩
end
section
variable {X : Cx} {CX : CXT} {k : Nat} {x : Str} {ps : List Str} {sp : Sp} {E : XK} {p pos : Pos} {e : Expr} {es : List Expr} {t : TA}
/-- x(e, ..) -/
theorem pe_cal (C : Cal X.prog X.w X.K X.mg X.base CX k x ps sp) (hr : Room k X.A) (hx : Passes CX X E) (ha : PA X (e :: es) t) (hg : Gl X x := by rfl) (hdb : (x == ("__debug__" : Str)) = false := by decide)
    (he : starEach (e :: es) X.env = (false, eval e X.env) :: starEach es X.env := by rfl) (hpl : (backTo pos (starEach es X.env)).any (·.1) = false := by rfl) : PE X (.Call (.Name x p) (e :: es) [] pos) (tCall sp [] E t) := by
  obtain ⟨f, fd, h1, h2, h3, h4, _⟩ := C.ex
  exact pe_call h4 hr hg h1 h2 h3 .nil hx ha hdb he hpl
end
theorem pss_nox {X : Cx} {st : List Stmt} {t : TS} (h : PSs X.nox st t) : PSs X st t := h.nox
end Kx

namespace PySem
open Sem (wp)
open AutoSeq1 (wpAny_loadPart')
/-- enumerate of what begins an iterator, from 0 -/
theorem kx_enum_new {v : Value} {o : Obj} {H : Heap → Prop} (B : Begins v o H) :
    Meets (Builtin.«enumerate.__new__» ⟨[.type "enumerate", v], []⟩) (fun _ R s => H s.heap ∧
      R (.ok (.ret (.ref (s.heap.push o).objs.size))) { s with heap := (s.heap.push o).push { cls := .type "enumerate", data := .fields #[.none, .bool false, .ref s.heap.objs.size, rawInt 0, .none, .none] } }) :=
  .of_wp fun prog w A R s h => by
    obtain ⟨hp, g, d, tk, os⟩ := s
    obtain ⟨h1, h⟩ := h
    have hsub := sub_enumerate
    have q1 : ∀ {A' : Around} {E : Value → Shared → Prop} {Q : Value → Shared → Prop}, Q (.ref hp.objs.size) ⟨hp.push o, g, d, tk, os⟩ → wpAny (model prog w) A' (pyIter v) Q E ⟨hp, g, d, tk, os⟩ :=
      fun q => B.iter prog w _ _ ⟨hp, g, d, tk, os⟩ _ h1 q
    wp_walk using q1
    refine wpAny_stack_any fun st => wpAny_pure ?_
    split
    · rename_i c _ _ _ _ _
      cases (c == Value.type "enumerate") <;> (wp_walk using q1; exact ⟨_, rfl, h⟩)
    · wp_walk using q1
      exact ⟨_, rfl, h⟩
theorem kx_enum_call {prog : Program} {w : World} {A : Around} {E : Value → Shared → Prop} {s : Shared} {v : Value} {o : Obj} {H : Heap → Prop} {Q : Value → Shared → Prop} (B : Begins v o H) (h1 : H s.heap)
    (h : ∀ h', IsEnum h' (s.heap.objs.size + 1) s.heap.objs.size 0 .none → h'.get? s.heap.objs.size = some o → (∀ b u, s.heap.get? b = some u → h'.get? b = some u) → Q (.ref (s.heap.objs.size + 1)) { s with heap := h' }) :
    wpAny (model prog w) A (call (.type "enumerate") [v]) Q E s := by
  refine callType_new F.called_enumerate (by decide) (F.typeCall_enumerate_1 _) (F.newCall_enumerate_1 _) (fun obj => F.args_object_init_2 obj _) F.entry_enumerate_new (kx_enum_new B) ⟨h1, ?_⟩
  have z : (s.heap.push o).objs.size = s.heap.objs.size + 1 := Heap.size_push ..
  show _ ∧ _
  rw [z]
  have he : IsEnum ((s.heap.push o).push { cls := .type "enumerate", data := .fields #[.none, .bool false, .ref s.heap.objs.size, rawInt 0, .none, .none] }) (s.heap.objs.size + 1) s.heap.objs.size 0 .none := by
    have q := Heap.get?_push_size (s.heap.push o) (o := { cls := .type "enumerate", data := .fields #[.none, .bool false, .ref s.heap.objs.size, rawInt 0, .none, .none] }) rfl
    rw [z] at q
    exact q
  exact ⟨⟨_, he, rfl⟩, h _ he (Heap.get?_push_of_some _ (Heap.get?_push_size _ B.free)) fun b u x => Heap.get?_push_of_some _ (Heap.get?_push_of_some _ x)⟩
end PySem

namespace Kx
open PySem PySem.Spec PyProof.Rows L2 Evl

/-! ### enumerate(a tuple): each item in a new pair -/
def IteT (K : PySem.W.Frag) (a : Addr) : It :=
  ⟨fun i H => ∃ (xs : List V) (x : V), SqT K H a xs ∧ xs[i]? = some x, fun i H v H' => ∃ T x, v = .ref T ∧ H T = none ∧ H' = upd H T (.tup [.int (i : Nat), x]) ∧ ∀ xs, SqT K H a xs → xs[i]? = some x, fun i H => ∃ xs : List V, SqT K H a xs ∧ xs.length ≤ i⟩
theorem turn_enumT {P : Program} {w : World} {K : PySem.W.Frag} {elts : List Expr} {kk : Nat} {tpos : Pos} {a e it : Addr} {its : Array Value} (hai : a ≠ it) (hae : a ≠ e) (hei : e ≠ it) :
    Turn P w K (.Tuple elts kk tpos) (IteT K a) [e, it] e (fun i h => (∃ old, IsEnum h e it ((i : Nat) : Int) old) ∧ h.IsTupleIter it a i) where
  mem := by simp
  obj := fun i h st b hb => by
    obtain ⟨⟨old, he⟩, o, ho, hc, hd⟩ := st
    have e' : b = e ∨ b = it := by simpa using hb
    rcases e' with z | z
    · rw [z]; exact ⟨_, he, fun v q => nomatch q⟩
    · rw [z]; exact ⟨o, ho, fun v q => by rw [hd] at q; cases q⟩
  keep := fun i h h' st k => ⟨st.1.imp fun old he => k e (by simp) _ he, st.2.at fun o q => k it (by simp) o q⟩
  item := by
    intro X hP hw hK hc i pins s σ H E I hf st hg
    subst hP hw hK
    obtain ⟨⟨old, he⟩, hit⟩ := st
    obtain ⟨xs, x, hq, hx⟩ := hg
    obtain ⟨ys, rv, p, hz⟩ := I.tuple hq
    have hel : e < s.heap.objs.size := Heap.lt_size he
    have hil : it < s.heap.objs.size := by obtain ⟨_, q, _⟩ := hit; exact Heap.lt_size q
    have D := Draws.tuple (prog := X.prog) (w := X.w) (A := X.A.in1) (I.ok.hd hc) it a hai ys.toArray
    have hlt : i < ys.toArray.size := by
      have := (List.getElem?_eq_some_iff.mp hx).1
      rw [List.size_toArray, ← rv.length]; exact this
    refine wpAny_pyNext_enum_itemC D he ⟨hit, p⟩ hlt hei (by simp; exact ⟨hei, fun z => hae z.symm⟩) fun u h' tk hu ho hst hT hsz hk => ?_
    obtain ⟨u', hu', ru⟩ := rv.get hx
    have hu2 : ys.toArray[i]? = some u := hu
    obtain rfl : u' = u := by
      have q : ys[i]? = some u := by simpa using hu2
      rw [hu'] at q
      exact Option.some.inj q
    refine ⟨_, rfl, wpAny_letOwnedTupleGo_enum (s := { s with heap := h', toks := tk + 1 }) ho fun h'' he' sb => ?_⟩
    have hT2 : h''.get? s.heap.objs.size = some { cls := .type "tuple", data := .seq #[.int i tk, u'] } := (sb.2 _ (Nat.ne_of_gt hel)).trans hT
    have new : ObjOk X.prog X.w (upd H s.heap.objs.size (.tup [.int (i : Nat), x])) h'' s.heap.objs.size (.tup [.int (i : Nat), x]) :=
      ⟨by show 2 ≤ sizeLine; decide, [.int i tk, u'], .cons ⟨_, rfl⟩ (.cons ru .nil), ⟨_, hT2, rfl, _, rfl⟩⟩
    have I1 : Inv X pins σ (upd H s.heap.objs.size (.tup [.int (i : Nat), x])) { s with heap := h'', toks := tk + 1 } :=
      I.turnedNew (ch := [e, it]) (fun b ob hb q => (sb.2 b (fun z => hb (by simp [z]))).trans (hk b ob (fun z => hb (by simp [z])) (fun z => hb (by simp [z])) q)) hf (Nat.le_refl _) new
    refine ⟨.ref s.heap.objs.size, _, I1, rfl, ⟨_, x, rfl, I.hok.fresh (Nat.le_refl _), rfl, fun zs hy => by rw [I.tuple_inj hy hq]; exact hx⟩, ⟨⟨u', ?_⟩, hst.1.at fun o q => (sb.2 it (Ne.symm hei)).trans q⟩, fun b hb => ?_⟩
    · have e1 : ((i + 1 : Nat) : Int) = (i : Int) + 1 := by omega
      rw [e1]; exact he'
    · have hb' : b < s.heap.objs.size := by
        have e' : b = e ∨ b = it := by simpa using hb
        rcases e' with z | z
        · rw [z]; exact hel
        · rw [z]; exact hil
      rw [upd_ne (Nat.ne_of_lt hb')]
      exact (hf b hb).1
  done := by
    intro X hP hw hK hc i pins s σ H E I hf st hg
    subst hP hw hK
    obtain ⟨⟨old, he⟩, hit⟩ := st
    obtain ⟨xs, hq, hx⟩ := hg
    obtain ⟨ys, rv, p, hz⟩ := I.tuple hq
    obtain ⟨f0, f1, f2, f3, f4, f5⟩ := hf it (by simp)
    have hT : s.TypeIs (.ref e) "enumerate" := ⟨_, he, rfl⟩
    unfold pyNext
    refine wpAny_bind (wpAny_attempt (wpAny_callSpecial?_slot (name := Str.ofString "__next__") hT F.slot_enumerate_next (wpAny_call_entry F.slot_enumerate_next hT F.entry_enumerate_next ?_ (F.args_enumerate_next_1 _))))
    show wpAny _ _ (field (.ref e) 2 >>= _) _ _ _
    refine wpAny_bind (wpAny_field he rfl (x := .ref it) rfl ?_)
    refine wpAny_bind (wpAny_nextOf_tuple_end (I.ok.hd hc) hit p (by have := rv.length; simp; omega) fun h' x he' hx' => ?_)
    obtain ⟨o, ho, hcl⟩ := hx'
    refine wpAny_bind (wpAny_isInstance (T := "StopIteration") (b := true) ⟨o, ho, hcl⟩ isSubtype_stop ?_)
    exact wpAny_pure ⟨rfl, I.turned (t' := s.toks) (fun b o hb q => he' b o hb q) f0 f1 f3 f4 f5⟩
  self := fun A i s Q E st h => let ⟨⟨_, he⟩, _⟩ := st; wpAny_pyIter_enum he h
def iEnumT (K : PySem.W.Frag) (ta : TA) : TI := fun σ H R => ta σ H fun vs H1 => ∃ a xs, vs = [.ref a] ∧ SqT K H1 a xs ∧ R (IteT K a) H1
theorem pi_enumT {X : Cx} {e : Expr} {ta : TA} {p pos tpos : Pos} {elts : List Expr} {kk : Nat} (hg : Gl X "enumerate") (hm : X.mg "enumerate" = none) (ha : PA X [e] ta) (hs : starEach [e] X.env = [(false, eval e X.env)] := by rfl) :
    PI X (.Tuple elts kk tpos) (.Call (.Name "enumerate" p) [e] [] pos) (iEnumT X.K ta) := by
  refine ⟨fun pins s σ H R I h => ?_⟩
  refine Call_ (ld_blt I hg hm boot_enumerate (PyProof.Rows.callWith_type1 (thn (ha.run pos pins s σ H _ I h) fun us s1 ⟨vs, H1, I1, r1, q1⟩ => ?_) hs rfl))
  obtain ⟨a, xs, ex, hq, q⟩ := q1
  subst ex
  cases r1 with
  | cons r rr =>
    cases rr
    cases r
    obtain ⟨its, rv, p', hz⟩ := I1.tuple hq
    have hlt : a < s1.heap.objs.size := by obtain ⟨o, ho, _⟩ := p'; exact Heap.lt_size ho
    refine kx_enum_call (begins_tuple a its.toArray) p' fun h' he hit hk => wpAny_pyIter_enum he ?_
    have I2 : Inv X pins σ H1 { s1 with heap := h' } := I1.kept (t' := s1.toks) hk
    refine ⟨s1.heap.objs.size + 1, [s1.heap.objs.size + 1, s1.heap.objs.size], _, _, H1, rfl, I2, turn_enumT (a := a) (e := s1.heap.objs.size + 1) (it := s1.heap.objs.size) (its := its.toArray) (Nat.ne_of_lt hlt) (Nat.ne_of_lt (Nat.lt_succ_of_lt hlt)) (Nat.succ_ne_self _), ⟨⟨.none, he⟩, ⟨_, hit, rfl, rfl⟩⟩, fun b hb => ?_, q⟩
    have e' : b = s1.heap.objs.size + 1 ∨ b = s1.heap.objs.size := by simpa using hb
    have hle : s1.heap.objs.size ≤ b := by
      rcases e' with z | z
      · rw [z]; exact Nat.le_add_right _ _
      · rw [z]; exact Nat.le_refl _
    exact I1.fpOk hle (I1.hok.fresh hle)
/-- over the pairs -/
theorem for_enumT {K : PySem.W.Frag} {a : Addr} {xs : List V} {g : TG} {tb : TS} {D : Ends} {σ : L2.St} {H : Hp} (Pv : Nat → L2.St → Hp → Prop) (h0 : Pv 0 σ H) (hl : ∀ i σ H, i ≤ xs.length → Pv i σ H → SqT K H a xs)
    (hs : ∀ i x σ H T, xs[i]? = some x → Pv i σ H → H T = none → g (.ref T) σ (upd H T (.tup [.int (i : Nat), x])) fun σ2 H2 => tb { D with nx := Pv (i + 1), ct := Pv (i + 1), bk := D.nx } σ2 H2) (hd : ∀ σ H, Pv xs.length σ H → D.nx σ H) :
    ∃ W : Nat → Nat → L2.St → Hp → Prop, (∃ m, W 0 m σ H) ∧ ∀ i m σ H, W i m σ H →
      ((IteT K a).stop i H ∧ D.nx σ H) ∨ ((IteT K a).go i H ∧ ∃ N : L2.St → Hp → Prop, (∀ σ' H', N σ' H' → ∃ m', m' < m ∧ W (i + 1) m' σ' H') ∧ ∀ x H', (IteT K a).yld i H x H' → g x σ H' fun σ2 H2 => tb { D with nx := N, ct := N, bk := D.nx } σ2 H2) := by
  refine ⟨fun i m σ H => m = xs.length - i ∧ i ≤ xs.length ∧ Pv i σ H, ⟨xs.length, by simp, Nat.zero_le _, h0⟩, ?_⟩
  rintro i m σ H ⟨rfl, hi, p⟩
  have q := hl i σ H hi p
  by_cases hlt : i < xs.length
  · refine .inr ⟨⟨xs, xs[i], q, by simp [hlt]⟩, Pv (i + 1), fun σ' H' p' => ⟨xs.length - (i + 1), by omega, rfl, hlt, p'⟩, fun v H' y => ?_⟩
    obtain ⟨T, x, rfl, hT, rfl, y⟩ := y
    exact hs i x σ H T (y xs q) p hT
  · have e : i = xs.length := by omega
    subst e
    exact .inl ⟨⟨xs, q, Nat.le_refl _⟩, hd σ H p⟩
theorem for_enumL {K : PySem.W.Frag} {a : Addr} {xs : List V} {g : TG} {tb : TS} {D : Ends} {σ : L2.St} {H : Hp} (Pv : Nat → L2.St → Hp → Prop) (h0 : Pv 0 σ H) (hl : ∀ i σ H, i ≤ xs.length → Pv i σ H → SqL K H a xs)
    (hs : ∀ i x σ H T, xs[i]? = some x → Pv i σ H → H T = none → g (.ref T) σ (upd H T (.tup [.int (i : Nat), x])) fun σ2 H2 => tb { D with nx := Pv (i + 1), ct := Pv (i + 1), bk := D.nx } σ2 H2) (hd : ∀ σ H, Pv xs.length σ H → D.nx σ H) :
    ∃ W : Nat → Nat → L2.St → Hp → Prop, (∃ m, W 0 m σ H) ∧ ∀ i m σ H, W i m σ H →
      ((Ite K a).stop i H ∧ D.nx σ H) ∨ ((Ite K a).go i H ∧ ∃ N : L2.St → Hp → Prop, (∀ σ' H', N σ' H' → ∃ m', m' < m ∧ W (i + 1) m' σ' H') ∧ ∀ x H', (Ite K a).yld i H x H' → g x σ H' fun σ2 H2 => tb { D with nx := N, ct := N, bk := D.nx } σ2 H2) := by
  refine ⟨fun i m σ H => m = xs.length - i ∧ i ≤ xs.length ∧ Pv i σ H, ⟨xs.length, by simp, Nat.zero_le _, h0⟩, ?_⟩
  rintro i m σ H ⟨rfl, hi, p⟩
  have q := hl i σ H hi p
  by_cases hlt : i < xs.length
  · refine .inr ⟨⟨xs, xs[i], q, by simp [hlt]⟩, Pv (i + 1), fun σ' H' p' => ⟨xs.length - (i + 1), by omega, rfl, hlt, p'⟩, fun v H' y => ?_⟩
    obtain ⟨T, x, rfl, hT, rfl, y⟩ := y
    exact hs i x σ H T (y xs q) p hT
  · have e : i = xs.length := by omega
    subst e
    exact .inl ⟨⟨xs, q, Nat.le_refl _⟩, hd σ H p⟩

/-! ### a call by keywords alone -/
def tCalK (sp : Sp) (n : Nat) (g : List V → List V) (E : XK) (tk : TA) : TE := fun σ H Q => tk σ H fun zs H1 => zs.length = n ∧ sp (g zs) H1 Q E
/-- a def called by keywords: with all that such a call wants -/
structure CalK (P : Program) (w : World) (K : PySem.W.Frag) (mg : Str → Option Value) (base : Heap) (CX : CXT) (k : Nat) (x : Str) (ks : List Str) (gV : List V → List V) (sp : Sp) : Prop where
  ex : ∃ (f : Addr) (fd : FuncData) (ps : List Str) (gU : List Value → List Value), mg x = some (.ref f) ∧ PySem.W.keepIn K (.ref f) = true ∧ (∀ (s : Shared) (ws : List Value), ws.length = ks.length → BindsTo s fd ⟨[], ks.zip ws⟩ (ps.zip (gU ws))) ∧
    (∀ {zs : List V} {ws : List Value}, Vals zs ws → zs.length = ks.length → Vals (gV zs) (gU ws)) ∧ FnOk P w K mg base CX k f fd ps sp
section
variable {X : Cx} {CX : CXT} {k : Nat} {x : Str} {ks : List Str} {gV : List V → List V} {sp : Sp} {E : XK} {p pos : Pos} {kws : List Keyword} {tk : TA}
theorem pe_calK (C : CalK X.prog X.w X.K X.mg X.base CX k x ks gV sp) (hr : Room k X.A) (hx : Passes CX X E) (hkw : PK X kws tk) (hg : Gl X x := by rfl)
    (hall : (backToKw pos (keywordEach kws X.env)).all (·.1.isSome) = true := by rfl) (hks : (backToKw pos (keywordEach kws X.env)).filterMap (·.1) = ks := by rfl) (hdb : (x == ("__debug__" : Str)) = false := by decide)
    (hpl : ((backTo pos (starEach [] X.env)).any (·.1) || (backToKw pos (keywordEach kws X.env)).any (·.1.isNone)) = false := by rfl) :
    PE X (.Call (.Name x p) [] kws pos) (tCalK sp ks.length gV E tk) := by
  obtain ⟨f, fd, ps, gU, hm, hk, hb, hv, F⟩ := C.ex
  refine ⟨fun pins s σ H Q I h => ?_⟩
  refine wpAny_Call_Name_kw (ld_glob I hg hm ?_ hdb)
  refine PySem.W.callWith_KW0 (h₀ := X.base) I.ok.mod.kin hk hall ?_ hpl
  refine thn (hkw.run pos pins s σ H _ I h) fun ws s2 ⟨zs, H2, I2, rz, l2, q2⟩ => ⟨I2.kIn, ?_⟩
  rw [hks]
  have l3 : ws.length = ks.length := rz.length.symm.trans l2
  refine wpAny_call (codeAny_mono (F.run X.A X.stack s2 H2 ⟨[], ks.zip ws⟩ (gU ws) (gV zs) Q E hr I2.env0 (hb s2 ws l3) (hv rz l2) q2) fun r s' hq => ?_)
  cases r with
  | error e => exact hx pins σ H2 s2 e s' I2 hq
  | ok fl =>
    cases fl with
    | ret u => exact I2.after hq
    | next => exact False.elim hq
    | brk => exact False.elim hq
    | cont => exact False.elim hq
end

/-! ### t[::-1] of a tuple -/
theorem pick_back (xs : Array Value) : ((List.range xs.size).filterMap fun (k : Nat) => xs[((xs.size : Int) - 1 + (k : Int) * (-1)).toNat]?) = xs.toList.reverse := by
  have e2 : (fun (k : Nat) => xs[((xs.size : Int) - 1 + (k : Int) * (-1)).toNat]?) = fun k => xs[xs.size - 1 - k]? := by
    funext k
    rw [show ((xs.size : Int) - 1 + (k : Int) * (-1)).toNat = xs.size - 1 - k by omega]
  rw [e2]
  have e3 : ((List.range xs.size).filterMap fun k => xs[xs.size - 1 - k]?) = ((List.range xs.size).map fun k => xs.size - 1 - k).filterMap fun k => xs[k]? := by
    rw [List.filterMap_map]; rfl
  rw [e3, PySem.W.krv_range, List.filterMap_reverse, PySem.W.krv_all]
section
variable {prog : Program} {w : World} {A : Around} {E : Value → Shared → Prop} {s : Shared}
theorem adj_back (n : Nat) : Builtin.Slice.sliceAdjust none none (-1) (n : Int) = ((n : Int) - 1, -1) := by
  unfold Builtin.Slice.sliceAdjust
  simp
theorem places_back (n : Nat) : Builtin.Slice.slicePlaces ((n : Int) - 1) (-1) (-1) = n := by
  unfold Builtin.Slice.slicePlaces
  rw [if_neg (by decide)]
  by_cases h : (n : Int) - 1 > -1
  · rw [if_pos h]
    have : ((n : Int) - 1 - -1 - 1) / (- -1) = (n : Int) - 1 := by
      rw [show (- -1 : Int) = 1 by decide, Int.ediv_one]; omega
    rw [this]; omega
  · rw [if_neg h]; omega
theorem getItem_tuple_back {t sl : Addr} {items : Array Value} {vs : Value} {Q : Value → Shared → Prop} (ht : IsTup s.heap t items) (hs : s.heap.IsSliceOf sl .none .none vs) (ps : IsPart vs (some (-1)))
    (h : Q (.ref s.heap.objs.size) { s with heap := s.heap.push { cls := .type "tuple", data := .seq items.toList.reverse.toArray } })
    (hsz : items.size ≤ sizeLine) : wpAny (model prog w) A (getItem (.ref t) (.ref sl)) Q E s := by
  have htake : sizeOk (.seq items.toList.reverse.toArray) := by
    show items.toList.reverse.toArray.size ≤ sizeLine
    simpa using hsz
  obtain ⟨os, hos, hcs, hds⟩ := id hs
  have hTs : s.TypeIs (.ref sl) "slice" := ⟨os, hos, hcs⟩
  unfold getItem
  try with_reducible refine wpAny_holding ?_
  first | refine wpAny_bind (wpAny_pure ?_) | skip
  refine wpAny_bind (wpAny_sequenceKey ht.typeIs (by decide) ?_)
  refine wpAny_bind (wpAny_callSpecial?_slot (name := Str.ofString "__getitem__") ht.typeIs PyProof.Rows.slot_tuple_getitem
    (wpAny_call_entry PyProof.Rows.slot_tuple_getitem ht.typeIs entry_tuple_getitem ?_ (args_tuple_getitem _ _)))
  show wpAny _ _ (Builtin.Tuple.tupleItemsOf (.ref t) >>= _) _ _ s
  refine wpAny_bind (tupleItemsOf_ ht ?_)
  refine wpAny_bind (wpAny_typeOf hTs ?_)
  rw [if_pos (by decide)]
  have sa : ∀ {Q' : Int × Int × Nat → Shared → Prop} {A' : Around} {E' : Value → Shared → Prop}, Q' ((items.size : Int) - 1, -1, items.size) s → wpAny (model prog w) A' (Builtin.Slice.sliceApplied (.ref sl) (pure (items.size : Int))) Q' E' s := fun q => by
    unfold Builtin.Slice.sliceApplied Builtin.Slice.sliceFields
    refine wpAny_bind (wpAny_bind (wpAny_field hos hds (x := .none) rfl (wpAny_bind (wpAny_field hos hds (x := .none) rfl (wpAny_bind (wpAny_field hos hds (x := vs) rfl (wpAny_pure ?_)))))))
    refine wpAny_bind (HT.slicePart_ ps ?_)
    show wpAny _ _ (if ((-1 : Int) == 0) = true then _ else _) _ _ s
    rw [if_neg (by decide)]
    refine wpAny_bind (slicePart_none (wpAny_bind (slicePart_none (wpAny_bind (wpAny_pure ?_)))))
    show wpAny _ _ (match Builtin.Slice.sliceAdjust none none (-1) (items.size : Int) with | (lo, hi) => pure (lo, (-1 : Int), Builtin.Slice.slicePlaces lo hi (-1))) _ _ s
    rw [adj_back]
    show wpAny _ _ (pure (((items.size : Int) - 1), (-1 : Int), Builtin.Slice.slicePlaces ((items.size : Int) - 1) (-1) (-1))) _ _ s
    rw [places_back]
    exact wpAny_pure q
  refine wpAny_bind (sa ?_)
  have hno : ¬ ((((items.size : Int) - 1) == 0 && (-1 : Int) == 1 && items.size == items.size) = true) := by
    intro q
    rw [Bool.and_eq_true, Bool.and_eq_true] at q
    exact absurd q.1.2 (by decide)
  show wpAny _ _ (if ((((items.size : Int) - 1) == 0 && (-1 : Int) == 1 && items.size == items.size) = true) then _ else _) _ _ s
  rw [if_neg hno, pick_back]
  first
    | exact wpAny_bind (m := Builtin.Tuple.tupleExact _) (wpAny_newObj_type (wpAny_pure ⟨_, rfl, wpAny_pure h⟩) htake)
    | exact wpAny_bind (m := Builtin.Tuple.tupleExact _) (wpAny_newObj_type (wpAny_bind (wpAny_pure (wpAny_pure ⟨_, rfl, wpAny_pure h⟩))) htake)
    | exact wpAny_bind (wpAny_bind (m := Builtin.Tuple.tupleExact _) (wpAny_newObj_type (wpAny_pure (wpAny_pure ⟨_, rfl, wpAny_pure h⟩)) htake))
    | exact wpAny_bind (wpAny_bind (m := Builtin.Tuple.tupleExact _) (wpAny_newObj_type (wpAny_pure ⟨_, rfl, wpAny_pure h⟩) htake))
end
def tRevT (K : PySem.W.Frag) (te : TE) : TE := fun σ H Q => te σ H fun x H1 => ∃ a xs, x = .ref a ∧ SqT K H1 a xs ∧ ∀ p, H1 p = none → Q (.ref p) (upd H1 p (.tup xs.reverse))
theorem pe_revT {X : Cx} {e : Expr} {te : TE} {k : Nat} {p1 p2 p3 pos : Pos} (he : PE X e te) : PE X (.Subscript e (.Slice none none (some (.UnaryOp .USub (.Constant (.int 1) k p1) p2)) p3) pos) (tRevT X.K te) := by
  refine ⟨fun pins s σ H Q I h => ?_⟩
  refine Subscript_ (thn (he.run pins s σ H _ I h) fun v s1 ⟨x, H1, I1, r1, q1⟩ => ?_)
  obtain ⟨a, xs, ex, hx, q⟩ := q1
  subst ex
  cases r1
  have hst : PO X (some (.UnaryOp .USub (.Constant (.int 1) k p1) p2)) (tPart (tUn (rU fun i => .int (-i)) (tC (.int 1)))) := po_some (pe_un un_neg pe_int)
  refine wpAny_Slice (thn (po_none.run pins s1 σ H1 (fun o H2 => o = none ∧ H2 = H1) I1 ⟨rfl, rfl⟩) fun vl s2 ⟨l, H2, I2, pl, el, e2⟩ => ?_)
  subst el e2
  cases pl
  refine thn (po_none.run pins s2 σ H2 (fun o H3 => o = none ∧ H3 = H2) I2 ⟨rfl, rfl⟩) fun vu s3 ⟨u, H3, I3, pu, eu, e3⟩ => ?_
  subst eu e3
  cases pu
  refine thn (hst.run pins s3 σ H3 (fun o H4 => o = some (-1) ∧ H4 = H3) I3 ⟨1, rfl, -1, rfl, rfl, rfl⟩) fun vs s4 ⟨o, H4, I4, ps, eo, e4⟩ => ?_
  subst eo e4
  have I5 : Inv X pins σ H4 { s4 with heap := s4.heap.push { cls := .type "slice", data := .fields #[.none, .none, vs] } } := I4.kept (t' := s4.toks) fun b ob q => Heap.get?_push_of_some _ q
  obtain ⟨its, r, ht, hz⟩ := I5.tuple hx
  have hlen := r.length
  show wpAny (model X.prog X.w) X.A (subscriptTail e (.Slice none none (some (.UnaryOp .USub (.Constant (.int 1) k p1) p2)) p3) (.ref a) (.ref s4.heap.objs.size)) (EP X pins σ Q) X.xe { s4 with heap := s4.heap.push { cls := .type "slice", data := .fields #[.none, .none, vs] } }
  refine tail_any (ops := [.ref a, .ref s4.heap.objs.size]) ht.typeIs PyProof.Rows.slot_tuple_getitem.lookup ?_ (by with_unfolding_all rfl)
  refine getItem_tuple_back ht (Heap.IsSliceOf.new _ .none .none vs) ps ?_ (by rw [List.size_toArray]; omega)
  refine ⟨.ref _, _, I5.laid (t' := s4.toks) (o := .tup xs.reverse) (fun b ob q => Heap.get?_push_of_some _ q) (Nat.le_refl _) ?_, rfl, q _ (I5.hok.fresh (Nat.le_refl _))⟩
  exact ⟨by rw [List.length_reverse]; exact hz, _, r.reverse, IsTup.new _ _⟩

/-! ### repr of data -/
def rRepr (K : PySem.W.Frag) : List V → Hp → VK → Prop := fun xs H Q => ∃ (a : Addr) (d : PyData), xs = [.ref a] ∧ Dp K H (.ref a) d ∧ PyData.showable d = true ∧ PyData.hasDict d = false ∧ d.shown.length ≤ sizeLine ∧ PyData.depth d ≤ 60 ∧ Q (.str d.shown) H
theorem call_repr {X : Cx} (hg : X.A.guards = some []) (hu : X.A.units + 64 < cLine) : CallR X (.builtin "repr") (rRepr X.K) := by
  intro pins s σ H xs us Q I r h
  obtain ⟨a, d, rfl, hd, h1, h2, h3, h4, q⟩ := h
  obtain ⟨u, rfl, rx⟩ := vals1 r
  obtain ⟨as, hr⟩ := Dp.reads I d _ u hd rx
  obtain rfl : u = Value.ref a := rx
  exact repr_of_reads' hr h1 (fun z => by rw [h2] at z; cases z) hg (by omega) (fun _ _ e => e) (fun h' u tk hk => ⟨.str d.shown, H, I.kept hk, ⟨u, rfl⟩, q⟩) h3
end Kx
namespace Kx
open PySem PySem.Spec PyProof.Rows L2 Evl

/-! ### the law's own call: its A is known (repr asks for the guards) -/
section
variable {CX : CXT} {P : Program} {w : World} {K : PySem.W.Frag} {mg mb : Str → Option Value} {base : Heap} {A : Around} {outer : List Env} {s : Shared} {H : Hp}
theorem run_at {f : Addr} {x : String} {st : Stmt} {fd : FuncData} {N ps : List Str} {vs : List V} {us : List Value} {Q : VK} {E : XK} {args : Args}
    (F : FunD K x x (defArgs st) (defBody st) (defScope st) [] [] f fd) (S : FnScope N ps (defScope st)) (hd : A.handled = none) (hdp : A.depth < recursionLimit) (e : Env0 P w K mg base A outer s H) (hb : BindsTo s fd args (ps.zip us)) (r : Vals vs us) (hl : vs.length = ps.length)
    (body : ∀ cdv, ∃ t, PSs (cxOf CX P w K mg base N x (defScope st) f cdv A outer s H E) (defBody st) t ∧ t { nx := fun _ H' => Q .non H', rt := Q } (start N vs) H) :
    codeAny (model P w) A (.call (.ref f) args) (CR CX outer P w H s Q E) s := by
  obtain ⟨oc, od, dV, kV, doc, pm, an, cdv, ct, osl, rfl, lk, hcd, hD, hK⟩ := F.ex
  have up : ∀ b o, base.get? b = some o → s.heap.get? b = some o := fun b o q => (e.bs b o q).1
  have kin := e.mod.kin.keeps up
  have kinds : ∀ y ∈ ps.zip us, (defScope st).names.lookup y.1 = some .local ∨ ((defScope st).names.lookup y.1 = some .cell ∧ ((cellsFrom (s.heap.objs.size + 1) (defScope st).names []).lookup y.1).isSome = true) := by
    rintro ⟨n, v⟩ hy
    rcases S.par n (List.of_mem_zip hy).1 with z | z
    · exact Or.inl z
    · exact Or.inr ⟨z, PySem.W.cellsFrom_some _ _ _ (Or.inl z)⟩
  refine codeAny_call_function hdp (kin _ _ lk) rfl S.co S.gen rfl (PySem.W.codeRec_of kin hcd) (hb _ _ _ _ (wpAny_newFunctionEnv_cells S.kind kinds fun env he s1 icx => ?_))
  subst he
  obtain ⟨t, ht, go⟩ := body cdv
  have I := inv_start (N := N) (base := base) (E := E) (CX := CX) S hd e hl r icx
  refine ⟨(e.mod.nolimit.keeps up).keeps icx.toInCall.keep, codeAny_func (wpAny_mono (ht.run [] s1 (start N vs) H _ I go) (fun fl s' z => ?_) fun _ _ z => z)⟩
  cases fl with
  | brk => exact (z.elim fun _ z => z.elim fun _ z => z.2 : False).elim
  | cont => exact (z.elim fun _ z => z.elim fun _ z => z.2 : False).elim
  | next =>
    obtain ⟨σ1, H1, J, z⟩ := z
    exact ⟨.non, H1, J.os, J.bare, J.base, J.hok, rfl, z⟩
  | ret u =>
    obtain ⟨v, σ1, H1, J, rv, z⟩ := z
    exact ⟨v, H1, J.os, J.bare, J.base, J.hok, rv, z⟩
/-- the heap in which the law is called: nothing is told of it but the script -/
theorem start_of {a : Addr} {vs : List Value} {ns : List Int} (kx : K.In s.heap) (g : s.heap.Ns mainGlobals mg) (hb : s.heap.Ns builtinsNs mb) (hbb : ∀ x : Str, x ≠ "__name__" → mb x = bootBuiltins x) (hlim : s.heap.NoLimit) (hg : s.gens = #[])
    (ha : s.heap.get? a = some { cls := .type "list", data := .seq vs.toArray }) (hi : IntsAre vs ns) (hl : ns.length ≤ sizeLine) :
    ∃ (H : Hp) (base : Heap), Only H ∧ SqL K H a (ns.map V.int) ∧ Env0 P w K mg base callerA [] s H ∧ ∀ (H' : Hp) (h' : Heap), Un (frs []) [] H H' s.heap h' → HOk P w H' h' → OldK s.heap h' := by
  have rv := vals_ints hi
  have hlen := hi.length
  obtain ⟨ob, hob⟩ : ∃ ob : Obj, ob = { cls := .type "list", data := .seq vs.toArray } := ⟨_, rfl⟩
  rw [← hob] at ha
  obtain ⟨H, hH, hS⟩ : ∃ H : Hp, (∀ b u, H b = some u → b = a ∧ K.lookup a = none ∧ u = .frz ob (.lst (ns.map V.int))) ∧ SqL K H a (ns.map V.int) := by
    cases hk : K.lookup a with
    | none =>
      refine ⟨fun b => if b = a then some (.frz ob (.lst (ns.map V.int))) else none, fun b u z => ?_, .inl (.inr ⟨ob, if_pos rfl⟩)⟩
      have z' : (if b = a then some (HO.frz ob (.lst (ns.map V.int))) else none) = some u := z
      by_cases hba : b = a
      · rw [if_pos hba] at z'
        exact ⟨hba, rfl, (Option.some.inj z').symm⟩
      · rw [if_neg hba] at z'
        cases z'
    | some o =>
      have q := kx a o hk
      rw [ha] at q
      cases q
      exact ⟨fun _ => none, fun b u z => (by have z' : (none : Option HO) = some u := z; cases z'), .inr ⟨_, vs.toArray, _, hk, by rw [hob], by rw [hob], by rw [hob], by rw [List.size_toArray, hlen]; exact hl, by simpa using rv⟩⟩
  have none_of : ∀ b, (∀ u, H b = some u → False) → H b = none := fun b z => by
    cases q : H b with
    | none => rfl
    | some u => exact (z u q).elim
  have bdict : ∀ {b : Addr} {m : Str → Option Value}, s.heap.Ns b m → (hidT s.heap H).Ns b m := by
    rintro b m ⟨o, es, ep, q, dd, rest⟩
    refine ⟨o, es, ep, hidT_get q (none_of b fun u z => ?_), dd, rest⟩
    obtain ⟨rfl, _, _⟩ := hH b u z
    rw [ha] at q
    cases q
    rw [hob] at dd
    cases dd
  have kb : K.In (hidT s.heap H) := fun b o q => hidT_get (kx b o q) (none_of b fun u z => by
    obtain ⟨rfl, z2, _⟩ := hH b u z
    rw [z2] at q
    cases q)
  obtain ⟨mc, l1, l2⟩ := hlim
  refine ⟨H, hidT s.heap H, fun b => ?_, hS, ⟨rfl, ⟨kb, bdict g, ⟨mb, bdict hb, hbb⟩, ⟨mc, bdict l1, l2⟩⟩, fun b o q => of_hidT q, Nat.le_of_eq (hidT_size _ _), trivial, fun b z => (by cases z), fun b u z => ?_, .of_eq hg⟩, fun H' h' un hok' => OldK.of_keep fun b o q => ?_⟩
  · cases q : H b with
    | none => exact Or.inl rfl
    | some u => exact Or.inr ⟨ob, _, by rw [(hH b u q).2.2]⟩
  · obtain ⟨rfl, _, rfl⟩ := hH b u z
    exact ⟨ha, by rw [List.length_map]; exact hl, vs, _, rv, by rw [ha, hob]⟩
  · cases z : H b with
    | none => exact un.keep b o q z (by intro y; cases y) (by simp)
    | some u =>
      obtain ⟨rfl, _, rfl⟩ := hH b u z
      obtain ⟨e2, _⟩ := hok' b _ (un.frzs b ob _ z)
      rw [ha] at q
      cases q
      exact e2
end
/-- the goal that the head leaves, from the law's own call -/
theorem end_of {l : PySem.W.OpenLaw} {n : Nat} {q : Program} {loose : List Str} {XP : (Str → Option Value) → Heap → Prop} {YP : World → Heap → Prop} {d : DefRec} (hn : l.most = some n) (hn2 : n ≤ sizeLine) (hdf : d.params.defaults = [])
    (F : ∀ (w : World) (mg : Str → Option Value) (fa : Addr) (h : Heap), YP w h → h.Ns mainGlobals mg → mg d.name = some (.ref fa) → ∃ K : PySem.W.Frag, K.In h ∧
      ∀ (base : Heap) (s : Shared) (H : Hp) (a : Addr) (ns : List Int), ns.length ≤ n → Only H → SqL K H a (ns.map V.int) → Env0 l.prog w K mg base callerA [] s H →
        codeAny (model l.prog w) callerA (.call (.ref fa) ⟨[.ref a], []⟩) (CR CX0 [] l.prog w H s (fun v _ => v = .bl true) E0) s) :
    PySem.W.WalkO q loose XP YP l.row.toRowW d [] (fun f vs => PySem.call f vs) := by
  refine Att.attach_call hn hdf fun w s0 s1 mg mb fa o pm cd doc a vs ns G Y ho hd hcd hmg hobj hints hlen hg => ?_
  obtain ⟨K, kx, go⟩ := F w mg fa _ Y G.T.g hmg
  obtain ⟨H, base, hO, hS, e0, fin⟩ := start_of (P := l.prog) (w := w) kx G.T.g G.T.b G.T.builtins G.T.nolimit hg hobj hints (Nat.le_trans hlen hn2)
  refine codeAny_mono (go base s1 H a ns hlen hO hS e0) fun r s' z => ?_
  match r, z with
  | .error e, z => exact False.elim z
  | .ok (.ret u), ⟨v, H1, os, bare, un, hok, rel, z⟩ =>
    have z' : v = .bl true := z
    subst z'
    obtain rfl : u = Value.bool true := rel
    exact ⟨rfl, fin H1 _ un hok, os, bare⟩
end Kx
namespace Kx
open PySem PySem.Spec PyProof.Rows L2 Evl

/-! ### frames: what a piece of code leaves as it is -/
structure Frame (R : Hp → Hp → Prop) (ok : Addr → Prop) (H0 : Hp) : Prop where
  refl : ∀ H, R H H
  trans : ∀ {H H1 H2}, R H H1 → R H1 H2 → R H H2
  tup : ∀ {H H1 a xs}, R H H1 → H a = some (.tup xs) → H1 a = some (.tup xs)
  keep : ∀ {H H1 a o}, R H H1 → ok a → H a = some o → H1 a = some o
  mutd : ∀ {H p o}, R H0 H → H0 p = none → ok p → R H0 (upd H p o)
  fresh : ∀ {H p}, R H0 H → H p = none → ok p ∧ H0 p = none
theorem Ex.frame (H0 : Hp) : Frame Ex (fun _ => True) H0 := ⟨Ex.refl, Ex.trans, fun e h => e _ _ h, fun e _ h => e _ _ h, fun e h _ => e.mut h, fun e h => ⟨True.intro, fresh_back e h⟩⟩
/-- the deal of draws: two numbers' cells at d and l -/
def Deal (d l : Addr) (H : Hp) : Prop := d ≠ l ∧ ∃ (blend : Int) (cells : List Int), H d = some (.lst [.ref l, .int blend]) ∧ H l = some (.lst (cells.map V.int)) ∧ cells.length ≤ 100 ∧ (∀ c ∈ cells, 0 ≤ c) ∧ 0 ≤ blend
structure Fd (d l : Addr) (H H' : Hp) : Prop where
  deal : Deal d l H → Deal d l H'
  tup : ∀ a xs, H a = some (.tup xs) → H' a = some (.tup xs)
  keep : ∀ a o, a ≠ d → a ≠ l → H a = some o → H' a = some o
theorem Deal.ex {d l : Addr} {H H' : Hp} (e : Ex H H') (h : Deal d l H) : Deal d l H' := by
  obtain ⟨h0, b, cs, h1, h2, h3⟩ := h
  exact ⟨h0, b, cs, e _ _ h1, e _ _ h2, h3⟩
theorem Deal.new {d l : Addr} {H : Hp} (h : Deal d l H) {p : Addr} (hp : H p = none) : p ≠ d ∧ p ≠ l := by
  obtain ⟨h0, b, cs, h1, h2, h3⟩ := h
  refine ⟨?_, ?_⟩
  · rintro rfl
    rw [hp] at h1; cases h1
  · rintro rfl
    rw [hp] at h2; cases h2
theorem Fd.of_ex {d l : Addr} {H H' : Hp} (e : Ex H H') : Fd d l H H' := ⟨Deal.ex e, fun a xs h => e _ _ h, fun a o _ _ h => e _ _ h⟩
theorem Fd.refl {d l : Addr} (H : Hp) : Fd d l H H := .of_ex (Ex.refl H)
theorem Fd.trans {d l : Addr} {H H1 H2 : Hp} (a : Fd d l H H1) (b : Fd d l H1 H2) : Fd d l H H2 := ⟨fun h => b.deal (a.deal h), fun x xs h => b.tup _ _ (a.tup _ _ h), fun x o h1 h2 h => b.keep _ _ h1 h2 (a.keep _ _ h1 h2 h)⟩
theorem Fd.fresh {d l : Addr} {H H' : Hp} (hd : Deal d l H) (e : Fd d l H H') {p : Addr} (h : H' p = none) : (p ≠ d ∧ p ≠ l) ∧ H p = none := by
  have hn := (e.deal hd).new h
  refine ⟨hn, ?_⟩
  cases h1 : H p with
  | none => rfl
  | some o =>
    rw [e.keep p o hn.1 hn.2 h1] at h
    cases h
theorem Fd.mut {d l : Addr} {H H' : Hp} (hd : Deal d l H) (e : Fd d l H H') {p : Addr} {o : HO} (hp : H p = none) : Fd d l H (upd H' p o) := by
  have hn := hd.new hp
  refine ⟨fun h => ?_, fun a xs h => ?_, fun a u h1 h2 h => ?_⟩
  · obtain ⟨h0, b, cs, h1, h2, h3⟩ := e.deal h
    exact ⟨h0, b, cs, by rw [upd_ne hn.1.symm]; exact h1, by rw [upd_ne hn.2.symm]; exact h2, h3⟩
  · rw [upd_ne (ne_of_none h hp)]; exact e.tup _ _ h
  · rw [upd_ne (ne_of_none h hp)]; exact e.keep _ _ h1 h2 h
theorem Fd.frame {d l : Addr} {H0 : Hp} (hd : Deal d l H0) : Frame (Fd d l) (fun a => a ≠ d ∧ a ≠ l) H0 :=
  ⟨Fd.refl, Fd.trans, fun e h => e.tup _ _ h, fun e ha h => e.keep _ _ ha.1 ha.2 h, fun e hp _ => e.mut hd hp, fun e h => e.fresh hd h⟩

/-! ### comprehensions -/
/-- an item of the new list: a plain value, or a tuple -/
def Fa (T : Nat → V → Prop) (U : Nat → List V → Prop) (H : Hp) (i : Nat) (y : V) : Prop := T i y ∨ ∃ q xs, y = .ref q ∧ H q = some (.tup xs) ∧ U i xs
theorem Fa.tup {T : Nat → V → Prop} {U : Nat → List V → Prop} {H H' : Hp} (k : ∀ a xs, H a = some (.tup xs) → H' a = some (.tup xs)) {i : Nat} {y : V} (h : Fa T U H i y) : Fa T U H' i y := h.imp id fun ⟨q, xs, h1, h2, h3⟩ => ⟨q, xs, h1, k _ _ h2, h3⟩
theorem paired_mono {α β : Type} {P Q : α → β → Prop} (k : ∀ a b, P a b → Q a b) : ∀ {as : List α} {bs : List β}, Paired P as bs → Paired Q as bs
  | _, _, .nil => .nil
  | _, _, .cons h t => .cons (k _ _ h) (paired_mono k t)
theorem paired_snoc {α β : Type} {P : α → β → Prop} : ∀ {as : List α} {bs : List β} {a : α} {b : β}, Paired P as bs → P a b → Paired P (as ++ [a]) (bs ++ [b])
  | _, _, _, _, .nil, h => .cons h .nil
  | _, _, _, _, .cons h t, k => .cons h (paired_snoc t k)
theorem paired_len {α β : Type} {P : α → β → Prop} : ∀ {as : List α} {bs : List β}, Paired P as bs → as.length = bs.length
  | _, _, .nil => rfl
  | _, _, .cons h t => by simp [paired_len t]
theorem paired_eq {α β : Type} {v : α → β} : ∀ {as : List α} {bs : List β}, Paired (fun a b => b = v a) as bs → bs = as.map v
  | _, _, .nil => rfl
  | _, _, .cons h t => by rw [List.map_cons, ← paired_eq t, h]
theorem paired_get {α β : Type} {P : α → β → Prop} : ∀ {as : List α} {bs : List β}, Paired P as bs → ∀ (i : Nat) (b : β), bs[i]? = some b → ∃ a, as[i]? = some a ∧ P a b
  | _, _, .nil, i, b, h => by simp at h
  | _, _, .cons h t, 0, b, e => by simp at e; subst e; exact ⟨_, rfl, h⟩
  | _, _, .cons h t, i + 1, b, e => by
    obtain ⟨a, h1, h2⟩ := paired_get t i b (by simpa using e)
    exact ⟨a, by simpa using h1, h2⟩
section
variable {R : Hp → Hp → Prop} {ok : Addr → Prop} {H0 : Hp} {K : PySem.W.Frag} {σ : L2.St} {t : TT} {te : TE} {T : Nat → V → Prop} {U : Nat → List V → Prop} {f : Nat → Bool} {Q : VK} {j : Nat} {vs : List Nat}
def Cp (R : Hp → Hp → Prop) (ok : Addr → Prop) (H0 : Hp) (T : Nat → V → Prop) (U : Nat → List V → Prop) (f : Nat → Bool) (Dl : Addr) (i : Nat) (H' : Hp) : Prop :=
  ok Dl ∧ H0 Dl = none ∧ R H0 H' ∧ ∃ ys, H' Dl = some (.lst ys) ∧ Paired (Fa T U H') ((List.range i).filter f) ys
theorem cp_turn (F : Frame R ok H0) {H' : Hp} {Dl : Addr} {i : Nat} {σ2 : L2.St} (p : Cp R ok H0 T U f Dl i H') (hi : i < 50000) (ht : ∀ Qb : Bool → Hp → Prop, (∀ H2, R H' H2 → Qb (f i) H2) → t σ2 H' Qb)
    (he : f i = true → ∀ H1, R H' H1 → ∀ Q : VK, (∀ y H2, R H1 H2 → Fa T U H2 i y → Q y H2) → te σ2 H1 Q) :
    t σ2 H' fun b H3 => if b = true then te σ2 H3 fun y H4 => ∃ acc, H4 Dl = some (.lst acc) ∧ acc.length < sizeLine ∧ Cp R ok H0 T U f Dl (i + 1) (upd H4 Dl (.lst (acc ++ [y]))) else Cp R ok H0 T U f Dl (i + 1) H3 := by
  obtain ⟨p0, p1, p2, ys, p3, p4⟩ := p
  refine ht _ fun H3 e3 => ?_
  cases hf : f i with
  | true =>
    show te σ2 H3 fun y H4 => ∃ acc, H4 Dl = some (.lst acc) ∧ acc.length < sizeLine ∧ Cp R ok H0 T U f Dl (i + 1) (upd H4 Dl (.lst (acc ++ [y])))
    refine he hf H3 e3 _ fun y H4 e4 hy => ?_
    have h34 := F.trans e3 e4
    have hl : ys.length ≤ i := by
      rw [← paired_len p4]
      exact Nat.le_trans (List.length_filter_le _ _) (by simp)
    refine ⟨ys, F.keep h34 p0 p3, sz_lt (by omega), p0, p1, F.mutd (F.trans p2 h34) p1 p0, _, upd_same, ?_⟩
    have kt : ∀ a xs, H4 a = some (.tup xs) → (upd H4 Dl (.lst (ys ++ [y]))) a = some (.tup xs) := fun a xs h => by
      rw [upd_ne]
      · exact h
      · rintro rfl
        rw [F.keep h34 p0 p3] at h
        cases h
    rw [List.range_succ, List.filter_append, show List.filter f [i] = [i] by simp [hf]]
    exact paired_snoc (paired_mono (fun a b h => Fa.tup (fun a xs h => kt _ _ (F.tup h34 h)) h) p4) (Fa.tup kt hy)
  | false =>
    show Cp R ok H0 T U f Dl (i + 1) H3
    refine ⟨p0, p1, F.trans p2 e3, ys, F.keep e3 p0 p3, ?_⟩
    rw [List.range_succ, List.filter_append, show List.filter f [i] = [] by simp [hf], List.append_nil]
    exact paired_mono (fun a b h => Fa.tup (fun a xs h => F.tup e3 h) h) p4
theorem cp_start (F : Frame R ok H0) {H1 : Hp} {Dl : Addr} (e1 : R H0 H1) (hD : H1 Dl = none) : Cp R ok H0 T U f Dl 0 (upd H1 Dl (.lst [])) :=
  have h := F.fresh e1 hD
  ⟨h.1, h.2, F.mutd e1 h.2 h.1, [], upd_same, .nil⟩
/-- what stands behind the whole -/
def AfterC (R : Hp → Hp → Prop) (H0 : Hp) (T : Nat → V → Prop) (U : Nat → List V → Prop) (f : Nat → Bool) (n : Nat) (Q : VK) : Prop :=
  ∀ p H2 ys, H0 p = none → R H0 H2 → H2 p = some (.lst ys) → Paired (Fa T U H2) ((List.range n).filter f) ys → Q (.ref p) H2
/-- over a tuple: the iterable's reading comes first (hi) -/
theorem lc_T {ti : TE} {a : Addr} {xs : List V} (F : Frame R ok H0) (f : Nat → Bool) (T : Nat → V → Prop) (U : Nat → List V → Prop) (hi : ∀ Q : VK, (∀ H1, R H0 H1 → SqT K H1 a xs → Q (.ref a) H1) → ti σ H0 Q) (hx : H0 a = some (.tup xs)) (hz : xs.length ≤ 40000)
    (hw : ∀ x, wipe ((wipe σ vs).set j (some x)) vs = wipe σ vs)
    (ht : ∀ (i : Nat) x H1, R H0 H1 → xs[i]? = some x → ∀ Qb : Bool → Hp → Prop, (∀ H2, R H1 H2 → Qb (f i) H2) → t ((wipe σ vs).set j (some x)) H1 Qb)
    (he : ∀ (i : Nat) x H1, R H0 H1 → xs[i]? = some x → f i = true → ∀ Q : VK, (∀ y H2, R H1 H2 → Fa T U H2 i y → Q y H2) → te ((wipe σ vs).set j (some x)) H1 Q)
    (q : AfterC R H0 T U f xs.length Q) : tLc (iTup K ti) (gName j) t te vs σ H0 Q :=
  hi _ fun H1 e1 hq => ⟨a, rfl, ⟨xs, hq⟩, fun Dl hD => lc_tup (xs := xs) (Cp R ok H0 T U f Dl) (cp_start F e1 hD) (fun i H' _ p => st_of (F.tup p.2.2.1 hx))
    (fun i x H' hi p => ⟨hw x, cp_turn F p (by have := (List.getElem?_eq_some_iff.mp hi).1; omega) (ht i x H' p.2.2.1 hi) (fun hf H1 e Q k => he i x H1 (F.trans p.2.2.1 e) hi hf Q k)⟩)
    (fun H' p => by obtain ⟨p0, p1, p2, ys, p3, p4⟩ := p; exact q _ _ ys p1 p2 p3 p4)⟩
/-- over a list that stands as it is -/
theorem lc_L {ti : TE} {a : Addr} {xs : List V} (F : Frame R ok H0) (f : Nat → Bool) (T : Nat → V → Prop) (U : Nat → List V → Prop) (hi : ∀ Q : VK, (∀ H1, R H0 H1 → SqL K H1 a xs → Q (.ref a) H1) → ti σ H0 Q) (hx : ∀ H1, R H0 H1 → SqL K H1 a xs) (hz : xs.length ≤ 40000)
    (hw : ∀ x, wipe ((wipe σ vs).set j (some x)) vs = wipe σ vs)
    (ht : ∀ (i : Nat) x H1, R H0 H1 → xs[i]? = some x → ∀ Qb : Bool → Hp → Prop, (∀ H2, R H1 H2 → Qb (f i) H2) → t ((wipe σ vs).set j (some x)) H1 Qb)
    (he : ∀ (i : Nat) x H1, R H0 H1 → xs[i]? = some x → f i = true → ∀ Q : VK, (∀ y H2, R H1 H2 → Fa T U H2 i y → Q y H2) → te ((wipe σ vs).set j (some x)) H1 Q)
    (q : AfterC R H0 T U f xs.length Q) : tLc (iList K ti) (gName j) t te vs σ H0 Q :=
  hi _ fun H1 e1 hq => ⟨a, rfl, ⟨xs, hq⟩, fun Dl hD => lc_list (xs := xs) (Cp R ok H0 T U f Dl) (cp_start F e1 hD) (fun i H' _ p => hx _ p.2.2.1)
    (fun i x H' hi p => ⟨hw x, cp_turn F p (by have := (List.getElem?_eq_some_iff.mp hi).1; omega) (ht i x H' p.2.2.1 hi) (fun hf H1 e Q k => he i x H1 (F.trans p.2.2.1 e) hi hf Q k)⟩)
    (fun H' p => by obtain ⟨p0, p1, p2, ys, p3, p4⟩ := p; exact q _ _ ys p1 p2 p3 p4)⟩
/-- over range(n) -/
theorem lc_R1 {ta : TA} {n : Int} (F : Frame R ok H0) (f : Nat → Bool) (T : Nat → V → Prop) (U : Nat → List V → Prop) (hn : 0 ≤ n ∧ n ≤ 40000) (hi : ∀ Q : List V → Hp → Prop, (∀ H1, R H0 H1 → Q [.int n] H1) → ta σ H0 Q)
    (hw : ∀ x, wipe ((wipe σ vs).set j (some x)) vs = wipe σ vs)
    (ht : ∀ (i : Nat) H1, R H0 H1 → i < n.toNat → ∀ Qb : Bool → Hp → Prop, (∀ H2, R H1 H2 → Qb (f i) H2) → t ((wipe σ vs).set j (some (.int (i : Int)))) H1 Qb)
    (he : ∀ (i : Nat) H1, R H0 H1 → i < n.toNat → f i = true → ∀ Q : VK, (∀ y H2, R H1 H2 → Fa T U H2 i y → Q y H2) → te ((wipe σ vs).set j (some (.int (i : Int)))) H1 Q)
    (q : AfterC R H0 T U f n.toNat Q) : tLc (iRng1 ta) (gName j) t te vs σ H0 Q :=
  hi _ fun H1 e1 => ⟨n, rfl, by omega, by omega, fun Dl hD => lc_range (lo := 0) (n := n.toNat) (Cp R ok H0 T U f Dl) (cp_start F e1 hD)
    (fun i H' hi p => by
      have e0 : (0 : Int) + (i : Int) = (i : Int) := Int.zero_add _
      show wipe ((wipe σ vs).set j (some (.int ((0 : Int) + (i : Int))))) vs = wipe σ vs ∧ t ((wipe σ vs).set j (some (.int ((0 : Int) + (i : Int))))) H' fun b H3 => if b = true then te ((wipe σ vs).set j (some (.int ((0 : Int) + (i : Int))))) H3 fun y H4 => ∃ acc, H4 Dl = some (.lst acc) ∧ acc.length < sizeLine ∧ Cp R ok H0 T U f Dl (i + 1) (upd H4 Dl (.lst (acc ++ [y]))) else Cp R ok H0 T U f Dl (i + 1) H3
      rw [e0]
      exact ⟨hw _, cp_turn F p (by omega) (ht i H' p.2.2.1 hi) (fun hf H1 e Q k => he i H1 (F.trans p.2.2.1 e) hi hf Q k)⟩)
    (fun H' p => by obtain ⟨p0, p1, p2, ys, p3, p4⟩ := p; exact q _ _ ys p1 p2 p3 p4)⟩
/-- over range(lo, hi) -/
theorem lc_R2 {ta : TA} {lo n : Int} (F : Frame R ok H0) (f : Nat → Bool) (T : Nat → V → Prop) (U : Nat → List V → Prop) (hn : 0 ≤ lo ∧ lo ≤ 40000 ∧ 0 ≤ n ∧ n ≤ 40000) (hi : ∀ Q : List V → Hp → Prop, (∀ H1, R H0 H1 → Q [.int lo, .int n] H1) → ta σ H0 Q)
    (hw : ∀ x, wipe ((wipe σ vs).set j (some x)) vs = wipe σ vs)
    (ht : ∀ (i : Nat) H1, R H0 H1 → i < (n - lo).toNat → ∀ Qb : Bool → Hp → Prop, (∀ H2, R H1 H2 → Qb (f i) H2) → t ((wipe σ vs).set j (some (.int (lo + (i : Int))))) H1 Qb)
    (he : ∀ (i : Nat) H1, R H0 H1 → i < (n - lo).toNat → f i = true → ∀ Q : VK, (∀ y H2, R H1 H2 → Fa T U H2 i y → Q y H2) → te ((wipe σ vs).set j (some (.int (lo + (i : Int))))) H1 Q)
    (q : AfterC R H0 T U f (n - lo).toNat Q) : tLc (iRng2 ta) (gName j) t te vs σ H0 Q :=
  hi _ fun H1 e1 => ⟨lo, n, rfl, ⟨by omega, by omega, by omega, by omega⟩, fun Dl hD => lc_range (lo := lo) (n := (n - lo).toNat) (Cp R ok H0 T U f Dl) (cp_start F e1 hD)
    (fun i H' hi p => ⟨hw _, cp_turn F p (by omega) (ht i H' p.2.2.1 hi) (fun hf H1 e Q k => he i H1 (F.trans p.2.2.1 e) hi hf Q k)⟩)
    (fun H' p => by obtain ⟨p0, p1, p2, ys, p3, p4⟩ := p; exact q _ _ ys p1 p2 p3 p4)⟩
end
theorem filt_yes {α : Type} (l : List α) : l.filter (fun _ => true) = l := by simp
theorem tYes_go {R : Hp → Hp → Prop} {ok : Addr → Prop} {H0 : Hp} (F : Frame R ok H0) {σ : L2.St} {H1 : Hp} (Qb : Bool → Hp → Prop) (k : ∀ H2, R H1 H2 → Qb true H2) : tYes σ H1 Qb := k H1 (F.refl H1)
/-- plain values only -/
theorem paired_pure {H : Hp} {v : Nat → V} {is : List Nat} {ys : List V} (h : Paired (Fa (fun i y => y = v i) (fun _ _ => False) H) is ys) : ys = is.map v :=
  paired_eq (paired_mono (fun a b k => by rcases k with k | ⟨_, _, _, _, k⟩; exact k; exact False.elim k) h)
/-- tuples only -/
theorem paired_tups {H : Hp} {U : Nat → List V → Prop} {is : List Nat} {ys : List V} (h : Paired (Fa (fun _ _ => False) U H) is ys) : Paired (fun i y => ∃ q xs, y = .ref q ∧ H q = some (.tup xs) ∧ U i xs) is ys :=
  paired_mono (fun a b k => by rcases k with k | k; exact False.elim k; exact k) h
/-- a new tuple made -/
def RetT (xs : List V) (H : Hp) (Q : VK) : Prop := ∀ p H', Ex H H' → H' p = some (.tup xs) → Q (.ref p) H'
/-- natural numbers as values -/
def nv (l : List Nat) : List V := l.map fun i : Nat => V.int (i : Int)
theorem nv_len (l : List Nat) : (nv l).length = l.length := by simp [nv]
theorem nv_get {l : List Nat} {i c : Nat} (h : l[i]? = some c) : (nv l)[i]? = some (.int (c : Int)) := by simp [nv, h]
theorem nv_get_of {l : List Nat} {i : Nat} {v : V} (h : (nv l)[i]? = some v) : ∃ c, l[i]? = some c ∧ v = .int (c : Int) := by
  unfold nv at h
  rw [List.getElem?_map, Option.map_eq_some_iff] at h
  obtain ⟨c, h1, h2⟩ := h
  exact ⟨c, h1, h2.symm⟩
theorem nv_at {l : List Nat} {i c : Nat} (h : l[i]? = some c) : atI (nv l) (i : Int) = some (.int (c : Int)) := atI_nat (nv_get h)

/-! ### rules with the frame's written part named -/
def rTupS (K : PySem.W.Frag) : List V → Hp → VK → Prop := fun xs H Q => ∃ p ys, xs = [.ref p] ∧ ((SqL K H p ys ∧ ∀ l, H l = none → Q (.ref l) (upd H l (.tup ys))) ∨ (SqT K H p ys ∧ Q (.ref p) H))
def rInt1 : List V → Hp → VK → Prop := fun xs H Q => (∃ i, xs = [.int i] ∧ Q (.int i) H) ∨ ∃ k, xs = [.bl k] ∧ Q (.int (if k then 1 else 0)) H
def rMx2 : List V → Hp → VK → Prop := fun xs H Q => ∃ i j, xs = [.int i, .int j] ∧ Q (.int (if j > i then j else i)) H
def rMn2 : List V → Hp → VK → Prop := fun xs H Q => ∃ i j, xs = [.int i, .int j] ∧ Q (.int (if j < i then j else i)) H
def rAbs1 : List V → Hp → VK → Prop := fun xs H Q => ∃ i, xs = [.int i] ∧ Q (.int (if i < 0 then -i else i)) H
section
variable {X : Cx} (K : PySem.W.Frag) (h : X.K = K)
include h
theorem lenK : CallR X (.builtin "len") (rLenS K) := by subst h; exact call_len_seq
theorem tupK : CallR X (.type "tuple") (rTupS K) := by subst h; exact call_tuple_of
theorem lstK : CallR X (.type "list") (rListS K) := by subst h; exact call_list_of
theorem isiK1 : CallR X (.builtin "isinstance") (rIsi K) := by subst h; exact call_isi
theorem isiKT : CallR X (.builtin "isinstance") (rIsiT K) := by subst h; exact call_isiT
theorem sumK (hc : X.calm = true) : CallR X (.builtin "sum") (rSum K) := by subst h; exact cr_sum hc
theorem allK (hc : X.calm = true) : CallR X (.builtin "all") (rAll K) := by subst h; exact cr_all hc
theorem ixT : IxR X (rIxT K) := by subst h; exact ix_tup
theorem ixL : IxR X (rIxL K) := by subst h; exact ix_list
theorem eqDK (hu : X.A.units + 64 < cLine) : OpR X (compareOp .Eq) (rEqD K) := by subst h; exact op_eqD hu
theorem neDK (hu : X.A.units + 64 < cLine) : OpR X (compareOp .NotEq) (rNeD K) := by subst h; exact op_neD hu
theorem slLK : SlR X (rSlL K) := by subst h; exact sl_list
theorem slTK : SlR X (rSlT K) := by subst h; exact sl_tup
variable {tg l : Expr} {tl : TE}
theorem pi_listK (hl : PE X l tl) : PI X tg l (iList K tl) := by subst h; exact pi_list hl
theorem pi_tupK (hl : PE X l tl) : PI X tg l (iTup K tl) := by subst h; exact pi_tup hl
theorem pg_tupK (n : Nat) {es : List Expr} {k : Nat} {pos : Pos} {t : TGs} (hc : X.calm = true) (hp : PGs X es t) (hn : (assignEach es X.env).length = n := by rfl) (hst : (assignEach es X.env).findIdx? (·.1) = none := by rfl) : PG X (.Tuple es k pos) (gTup K n t) := by
  subst h; exact pg_tup hc hp hn hst
theorem pi_enumK {e : Expr} {ta : TA} {p pos tpos : Pos} {elts : List Expr} {kk : Nat} (hg : Gl X "enumerate") (hm : X.mg "enumerate" = none) (ha : PA X [e] ta) (hs : starEach [e] X.env = [(false, eval e X.env)] := by rfl) :
    PI X (.Tuple elts kk tpos) (.Call (.Name "enumerate" p) [e] [] pos) (iEnum K ta) := by subst h; exact pi_enum hg hm ha hs
theorem pi_enumTK {e : Expr} {ta : TA} {p pos tpos : Pos} {elts : List Expr} {kk : Nat} (hg : Gl X "enumerate") (hm : X.mg "enumerate" = none) (ha : PA X [e] ta) (hs : starEach [e] X.env = [(false, eval e X.env)] := by rfl) :
    PI X (.Tuple elts kk tpos) (.Call (.Name "enumerate" p) [e] [] pos) (iEnumT K ta) := by subst h; exact pi_enumT hg hm ha hs
theorem pe_fldK {e : Expr} {f : Str} {pos : Pos} {ta : TE} (he : PE X e ta) (hb : attributeBase e f X.env (eval e X.env) = eval e X.env) : PE X (.Attribute e f pos) (tFld K ta f) := by subst h; exact pe_fld he hb
theorem ps_fldK {o value : Expr} {f : Str} {pos pos' : Pos} {ta tv : TE} (ha : PE X o ta) (hv : PE X value tv) (hs : swapsWith value (some (.Attribute o f pos')) pos.line X.env = pure false) : PS X (.Assign [.Attribute o f pos'] value pos) (sFld K ta tv f) := by subst h; exact ps_fld ha hv hs
theorem pe_revLK {e : Expr} {te : TE} {k : Nat} {p1 p2 p3 pos : Pos} (he : PE X e te) : PE X (.Subscript e (.Slice none none (some (.UnaryOp .USub (.Constant (.int 1) k p1) p2)) p3) pos) (tRevL K te) := by subst h; exact pe_revL he
theorem pe_revTK {e : Expr} {te : TE} {k : Nat} {p1 p2 p3 pos : Pos} (he : PE X e te) : PE X (.Subscript e (.Slice none none (some (.UnaryOp .USub (.Constant (.int 1) k p1) p2)) p3) pos) (tRevT K te) := by subst h; exact pe_revT he
end
section
variable {X : Cx}
theorem int1 : CallR X (.type "int") rInt1 := call_int1
theorem abs1 : CallR X (.builtin "abs") rAbs1 := call_abs
theorem max2 (hc : X.calm = true) : CallR X (.builtin "max") rMx2 := call_max2 hc
theorem min2 (hc : X.calm = true) : CallR X (.builtin "min") rMn2 := call_min2 hc
theorem lenD : CallR X (.builtin "len") (fun xs H Q => ∃ a kvs, xs = [V.ref a] ∧ H a = some (.dK kvs) ∧ Q (.int kvs.length) H) := call_lenD
end

/-! ### opening a goal by one step -/
section
variable {σ : L2.St} {H : Hp} {Q : VK} {te : TE} {tt : TT} {r : List V → Hp → VK → Prop}
theorem cb1 (h : te σ H fun x H1 => r [x] H1 Q) : tCB r (tCons te tNil) σ H Q := h
theorem tst1 {Qb : Bool → Hp → Prop} (h : te σ H fun x H1 => ∃ k, x = .bl k ∧ Qb k H1) : tTest te σ H Qb := h
theorem not1 {Qb : Bool → Hp → Prop} (h : tt σ H fun b H1 => Qb (!b) H1) : tNot tt σ H Qb := h
theorem ifs1 {D : Ends} {t u : TS} (h : tt σ H fun b H1 => if b = true then t D σ H1 else u D σ H1) : tIfS tt t u D σ H := h
theorem seq1 {D : Ends} {t u : TS} (h : t { D with nx := u D } σ H) : tSeq t u D σ H := h
theorem asg1 {D : Ends} {g : TG} (h : te σ H fun x H1 => g x σ H1 D.nx) : tAsg te g D σ H := h
theorem ret1 {D : Ends} (h : te σ H D.rt) : tRet te D σ H := h
theorem nt1 {D : Ends} {u : TS} (h : u D σ H) : ({ D with nx := u D } : Ends).nx σ H := h
end
theorem ite_f {α : Prop} {β : Prop} (h : β) : if (false = true) then α else β := h
theorem ite_t {α : Prop} {β : Prop} (h : α) : if (true = true) then α else β := h
theorem next1 {D : Ends} {σ : L2.St} {H : Hp} (h : D.nx σ H) : tNext D σ H := h

section
variable {R : Hp → Hp → Prop} {ok : Addr → Prop} {H0 : Hp} {K : PySem.W.Frag} {σ : L2.St} {t : TT} {te : TE} {T : Nat → V → Prop} {U : Nat → List V → Prop} {f : Nat → Bool} {Q : VK} {j : Nat} {vs : List Nat}
/-- over a list that is made on the way -/
theorem lc_NL {ti : TE} {xs : List V} (F : Frame R ok H0) (F1 : ∀ H1, R H0 H1 → Frame R ok H1) (f : Nat → Bool) (T : Nat → V → Prop) (U : Nat → List V → Prop)
    (hi : ∀ Q : VK, (∀ a H1, H0 a = none → R H0 H1 → H1 a = some (.lst xs) → Q (.ref a) H1) → ti σ H0 Q) (hz : xs.length ≤ 40000)
    (hw : ∀ x, wipe ((wipe σ vs).set j (some x)) vs = wipe σ vs)
    (ht : ∀ (i : Nat) x H1, R H0 H1 → xs[i]? = some x → ∀ Qb : Bool → Hp → Prop, (∀ H2, R H1 H2 → Qb (f i) H2) → t ((wipe σ vs).set j (some x)) H1 Qb)
    (he : ∀ (i : Nat) x H1, R H0 H1 → xs[i]? = some x → f i = true → ∀ Q : VK, (∀ y H2, R H1 H2 → Fa T U H2 i y → Q y H2) → te ((wipe σ vs).set j (some x)) H1 Q)
    (q : AfterC R H0 T U f xs.length Q) : tLc (iList K ti) (gName j) t te vs σ H0 Q :=
  hi _ fun a H1 h0 e1 hx => ⟨a, rfl, ⟨xs, sq_of hx⟩, fun Dl hD => lc_list (xs := xs) (Cp R ok H1 T U f Dl) (cp_start (F1 _ e1) (F.refl _) hD) (fun i H' _ p => sq_of (F.keep p.2.2.1 (F.fresh (F.refl _) h0).1 hx))
    (fun i x H' hi p => ⟨hw x, cp_turn (F1 _ e1) p (by have := (List.getElem?_eq_some_iff.mp hi).1; omega) (ht i x H' (F.trans e1 p.2.2.1) hi) (fun hf H2 e Q k => he i x H2 (F.trans (F.trans e1 p.2.2.1) e) hi hf Q k)⟩)
    (fun H' p => by obtain ⟨p0, p1, p2, ys, p3, p4⟩ := p; exact q _ _ ys (F.fresh e1 p1).2 (F.trans e1 p2) p3 p4)⟩
end
/-- numbers only -/
theorem paired_ints {H : Hp} {P : Int → Prop} : ∀ {is : List Nat} {ys : List V}, Paired (Fa (fun _ y => ∃ c : Int, y = .int c ∧ P c) (fun _ _ => False) H) is ys → ∃ cs : List Int, ys = cs.map V.int ∧ cs.length = is.length ∧ ∀ c ∈ cs, P c
  | _, _, .nil => ⟨[], rfl, rfl, fun c h => by cases h⟩
  | _, _, .cons h t => by
    obtain ⟨cs, h1, h2, h3⟩ := paired_ints t
    rcases h with ⟨c, rfl, hc⟩ | ⟨_, _, _, _, k⟩
    · refine ⟨c :: cs, by rw [h1]; rfl, by simp [h2], fun x hx => ?_⟩
      rcases List.mem_cons.mp hx with rfl | hx
      · exact hc
      · exact h3 x hx
    · exact False.elim k
theorem paired_nats {H : Hp} {P : Nat → Prop} : ∀ {is : List Nat} {ys : List V}, Paired (Fa (fun _ y => ∃ c : Nat, y = .int (c : Int) ∧ P c) (fun _ _ => False) H) is ys → ∃ cs : List Nat, ys = nv cs ∧ cs.length = is.length ∧ ∀ c ∈ cs, P c
  | _, _, .nil => ⟨[], rfl, rfl, fun c h => by cases h⟩
  | _, _, .cons h t => by
    obtain ⟨cs, h1, h2, h3⟩ := paired_nats t
    rcases h with ⟨c, rfl, hc⟩ | ⟨_, _, _, _, k⟩
    · refine ⟨c :: cs, by rw [h1]; rfl, by simp [h2], fun x hx => ?_⟩
      rcases List.mem_cons.mp hx with rfl | hx
      · exact hc
      · exact h3 x hx
    · exact False.elim k
theorem cons1 {σ : L2.St} {H : Hp} {te : TE} {tr : TA} {Q : List V → Hp → Prop} (h : te σ H fun x H1 => tr σ H1 fun xs H2 => Q (x :: xs) H2) : tCons te tr σ H Q := h
theorem call1 {σ : L2.St} {H : Hp} {sp : Sp} {dvs : List V} {E : XK} {t : TA} {Q : VK} (h : t σ H fun vs H1 => sp (vs ++ dvs) H1 Q E) : tCall sp dvs E t σ H Q := h
theorem par1 {σ : L2.St} {H : Hp} {D : Ends} {i j : Nat} {ta : TA} (h : ta σ H fun vs H1 => ∃ v w, vs = [v, w] ∧ D.nx ((σ.set i (some v)).set j (some w)) H1) : tPar i j ta D σ H := h
theorem op1 {σ : L2.St} {H : Hp} {r : R2} {ta tb : TE} {Q : VK} (h : ta σ H fun x H1 => tb σ H1 fun y H2 => r x y H2 Q) : tOp r ta tb σ H Q := h
theorem tup1 {σ : L2.St} {H : Hp} {t : TA} {Q : VK} (h : t σ H fun xs H1 => xs.length ≤ sizeLine ∧ ∀ p, H1 p = none → Q (.ref p) (upd H1 p (.tup xs))) : tTup t σ H Q := h
theorem lst1 {σ : L2.St} {H : Hp} {t : TA} {Q : VK} (h : t σ H fun xs H1 => xs.length ≤ sizeLine ∧ ∀ p, H1 p = none → Q (.ref p) (upd H1 p (.lst xs))) : tLst t σ H Q := h

/-! ### comprehensions, the iterable being read already -/
def lcB (J : It) (g : TG) (tt : TT) (te : TE) (vs : List Nat) (σ : L2.St) (Q : VK) (H1 : Hp) : Prop := ∀ D, H1 D = none → ∃ W : Nat → Nat → Hp → Prop, (∃ m, W 0 m (upd H1 D (.lst []))) ∧ ∀ i m H, W i m H →
  (J.stop i H ∧ Q (.ref D) H) ∨ (J.go i H ∧ ∃ Nx : Hp → Prop, (∀ H', Nx H' → ∃ m', m' < m ∧ W (i + 1) m' H') ∧ ∀ x H', J.yld i H x H' → g x (wipe σ vs) H' fun σ2 H2 => wipe σ2 vs = wipe σ vs ∧ tt σ2 H2 fun b H3 =>
    if b = true then te σ2 H3 fun y H4 => ∃ acc, H4 D = some (.lst acc) ∧ acc.length < sizeLine ∧ Nx (upd H4 D (.lst (acc ++ [y]))) else Nx H3)
theorem lc_open {wi : TI} {g : TG} {tt : TT} {te : TE} {vs : List Nat} {σ : L2.St} {H : Hp} {Q : VK} (h : wi σ H fun J H1 => lcB J g tt te vs σ Q H1) : tLc wi g tt te vs σ H Q := h
section
variable {R : Hp → Hp → Prop} {ok : Addr → Prop} {H0 : Hp} {K : PySem.W.Frag} {σ : L2.St} {t : TT} {te : TE} {Q : VK} {j : Nat} {vs : List Nat}
theorem lc_Rc {lo : Int} {n : Nat} (F : Frame R ok H0) (f : Nat → Bool) (T : Nat → V → Prop) (U : Nat → List V → Prop) (hn : n ≤ 40000) (hw : ∀ x, wipe ((wipe σ vs).set j (some x)) vs = wipe σ vs)
    (ht : ∀ (i : Nat) H1, R H0 H1 → i < n → ∀ Qb : Bool → Hp → Prop, (∀ H2, R H1 H2 → Qb (f i) H2) → t ((wipe σ vs).set j (some (.int (lo + (i : Int))))) H1 Qb)
    (he : ∀ (i : Nat) H1, R H0 H1 → i < n → f i = true → ∀ Q : VK, (∀ y H2, R H1 H2 → Fa T U H2 i y → Q y H2) → te ((wipe σ vs).set j (some (.int (lo + (i : Int))))) H1 Q)
    (q : AfterC R H0 T U f n Q) : lcB (Itr lo n) (gName j) t te vs σ Q H0 := fun Dl hD =>
  lc_range (lo := lo) (n := n) (Cp R ok H0 T U f Dl) (cp_start F (F.refl _) hD)
    (fun i H' hi p => ⟨hw _, cp_turn F p (by omega) (ht i H' p.2.2.1 hi) (fun hf H1 e Q k => he i H1 (F.trans p.2.2.1 e) hi hf Q k)⟩)
    (fun H' p => by obtain ⟨p0, p1, p2, ys, p3, p4⟩ := p; exact q _ _ ys p1 p2 p3 p4)
theorem lc_Lc {a : Addr} {xs : List V} (F : Frame R ok H0) (f : Nat → Bool) (T : Nat → V → Prop) (U : Nat → List V → Prop) (hx : ∀ H1, R H0 H1 → SqL K H1 a xs) (hz : xs.length ≤ 40000) (hw : ∀ x, wipe ((wipe σ vs).set j (some x)) vs = wipe σ vs)
    (ht : ∀ (i : Nat) x H1, R H0 H1 → xs[i]? = some x → ∀ Qb : Bool → Hp → Prop, (∀ H2, R H1 H2 → Qb (f i) H2) → t ((wipe σ vs).set j (some x)) H1 Qb)
    (he : ∀ (i : Nat) x H1, R H0 H1 → xs[i]? = some x → f i = true → ∀ Q : VK, (∀ y H2, R H1 H2 → Fa T U H2 i y → Q y H2) → te ((wipe σ vs).set j (some x)) H1 Q)
    (q : AfterC R H0 T U f xs.length Q) : lcB (Itl K a) (gName j) t te vs σ Q H0 := fun Dl hD =>
  lc_list (xs := xs) (Cp R ok H0 T U f Dl) (cp_start F (F.refl _) hD) (fun i H' _ p => hx _ p.2.2.1)
    (fun i x H' hi p => ⟨hw x, cp_turn F p (by have := (List.getElem?_eq_some_iff.mp hi).1; omega) (ht i x H' p.2.2.1 hi) (fun hf H1 e Q k => he i x H1 (F.trans p.2.2.1 e) hi hf Q k)⟩)
    (fun H' p => by obtain ⟨p0, p1, p2, ys, p3, p4⟩ := p; exact q _ _ ys p1 p2 p3 p4)
end
theorem gn1 {σ : L2.St} {H : Hp} {i : Nat} {v : V} {Q : L2.St → Hp → Prop} (h : Q (σ.set i (some v)) H) : gName i v σ H Q := h
end Kx
namespace Kx
open PySem PySem.Spec PyProof.Rows L2 Evl

/-! ### the module's text -/
structure Txt (K : PySem.W.Frag) (mg : Str → Option Value) : Prop where
  is_integer : DefAt K mg "is_integer" (top 7)
  is_number : DefAt K mg "is_number" (top 8)
  is_index : DefAt K mg "is_index" (top 9)
  is_sequence : DefAt K mg "is_sequence" (top 10)
  common_divisor : DefAt K mg "common_divisor" (top 11)
  common_multiple : DefAt K mg "common_multiple" (top 12)
  checked_row : DefAt K mg "checked_row" (top 15)
  checked_change : DefAt K mg "checked_change" (top 17)
  idle : DefAt K mg "idle" (top 18)
  after : DefAt K mg "after" (top 19)
  size_of : DefAt K mg "size_of" (top 20)
  checked : DefAt K mg "checked" (top 21)
  tail_and_ring : DefAt K mg "tail_and_ring" (top 22)
  tail : DefAt K mg "tail" (top 23)
  ring : DefAt K mg "ring" (top 24)
  change_of : DefAt K mg "change_of" (top 25)
  from_on : DefAt K mg "from_on" (top 27)
  repeated_by : DefAt K mg "repeated_by" (top 29)
  repeated : DefAt K mg "repeated" (top 30)
  _law_draw : DefAt K mg "_law_draw" (top 32)
  _law_any : DefAt K mg "_law_any" (top 33)
  _law_of : DefAt K mg "_law_of" (top 34)
  _law_mixed : DefAt K mg "_law_mixed" (top 35)
  _law_then : DefAt K mg "_law_then" (top 36)
  _law_power : DefAt K mg "_law_power" (top 37)
  _law_done : DefAt K mg "_law_done" (top 38)
  _law_place : DefAt K mg "_law_place" (top 39)
  _law_two : DefAt K mg "_law_two" (top 40)
  _law_members : DefAt K mg "_law_members" (top 41)
  _law_falling : DefAt K mg "_law_falling" (top 42)
  _law_columns : DefAt K mg "_law_columns" (top 43)
  _law_machine : DefAt K mg "_law_machine" (top 44)
  _law_steps : DefAt K mg "_law_steps" (top 45)
  _law_rounds : DefAt K mg "_law_rounds" (top 46)
  _law_alike : DefAt K mg "_law_alike" (top 47)
  _law_told_set : DefAt K mg "_law_told_set" (top 48)
  _law_tail : DefAt K mg "_law_tail" (top 49)
  _law_bad_row : DefAt K mg "_law_bad_row" (top 50)
  _law_pair_machine : DefAt K mg "_law_pair_machine" (top 51)
  _law_asked : DefAt K mg "_law_asked" (top 52)
  _law_times : DefAt K mg "_law_times" (top 53)
  _law_raised : DefAt K mg "_law_raised" (top 54)
  _law_by_counts : DefAt K mg "_law_by_counts" (top 55)
  law : DefAt K mg "law" (top 56)
  n_abs : mg "abs" = none
  n_int : mg "int" = none
  n_list : mg "list" = none
  n_tuple : mg "tuple" = none
  n_bool : mg "bool" = none
  n_len : mg "len" = none
  n_range : mg "range" = none
  n_enumerate : mg "enumerate" = none
  n_max : mg "max" = none
  n_min : mg "min" = none
  n_all : mg "all" = none
  n_isinstance : mg "isinstance" = none
  n_repr : mg "repr" = none
  n_sum : mg "sum" = none

/-! ### values that are asked after -/
def nonint (T : String) : Bool := T == "bool" || T == "NoneType" || T == "str" || T == "tuple" || T == "list" || T == "dict"
def Odd (K : PySem.W.Frag) (H : Hp) (x : V) : Prop := (∀ i, x ≠ .int i) ∧ ∃ T, TyX K H x (.type T) ∧ nonint T = true
def Pln (K : PySem.W.Frag) (H : Hp) (x : V) : Prop := (∃ i, x = .int i) ∨ Odd K H x
def numV : V → Bool
  | .int i => decide (0 ≤ i)
  | _ => false
def intV : V → Bool
  | .int _ => true
  | _ => false
def idxV (x : V) (m : Int) : Bool := match x with
  | .int i => decide (0 ≤ i) && decide (i < m)
  | _ => false
theorem nonint_cases {T : String} (h : nonint T = true) : T = "bool" ∨ T = "NoneType" ∨ T = "str" ∨ T = "tuple" ∨ T = "list" ∨ T = "dict" := by
  simpa [nonint, or_assoc] using h
theorem intV_odd {x : V} (h : ∀ i, x ≠ .int i) : intV x = false := by
  cases x <;> first | rfl | exact absurd rfl (h _)
theorem numV_odd {x : V} (h : ∀ i, x ≠ .int i) : numV x = false := by
  cases x <;> first | rfl | exact absurd rfl (h _)
theorem idxV_odd {x : V} {m : Int} (h : ∀ i, x ≠ .int i) : idxV x m = false := by
  cases x <;> first | rfl | exact absurd rfl (h _)

section
variable {P : Program} {w : World} {K : PySem.W.Frag} {mg : Str → Option Value} {base : Heap}

/-! ### is_integer, is_number, is_index, is_sequence -/
/-! is_integer: slots 0 value; cells [] -/
abbrev sis_integer : Stmt := top 7
theorem scis_integer : FnScope ["value"] ["value"] (defScope sis_integer) := ⟨rfl, rfl, rfl, by decide +kernel, rfl, by decide +kernel, by decide +kernel⟩
def spInteger (K : PySem.W.Frag) : Sp := fun vs H Q _ => ∃ x, vs = [x] ∧ Pln K H x ∧ Q (.bl (intV x)) H
theorem c_is_integer (T : Txt K mg) : Cal P w K mg base CX0 1 "is_integer" ["value"] (spInteger K) :=
  cal_of T.is_integer scis_integer (fun _ _ _ _ _ _ us hl => match us, hl with | [_], _ => rfl) (fun vs H Q E h => by obtain ⟨_, rfl, _⟩ := h; rfl) fun f cdv A outer s H vs Q E hr h => by
    refine ⟨_, pss_nox (pss_one (ps_ret (pe_and (pe_callB (isiK1 K rfl) (by rfl) T.n_isinstance (by decide +kernel) (pa_cons (pv 0) (pa_cons (pe_bltn (v := .ty "int") (by rfl) T.n_int (by decide +kernel) rfl) pa_nil))) (pe_one (pe_not (pe_callB (isiK1 K rfl) (by rfl) T.n_isinstance (by decide +kernel) (pa_cons (pv 0) (pa_cons (pe_bltn (v := .ty "bool") (by rfl) T.n_bool (by decide +kernel) rfl) pa_nil)))))))), ?_⟩
    obtain ⟨x, rfl, hx, q⟩ := h
    rcases hx with ⟨i, rfl⟩ | ⟨hn, T, ty, hT⟩
    · refine ⟨_, rfl, _, _, .type "int", _, true, rfl, .ty _, .base (.int i), kit_ty (by decide +kernel), true, rfl, ?_⟩
      refine ⟨_, rfl, _, _, .type "int", _, false, rfl, .ty _, .base (.int i), kit_ty (by decide +kernel), false, rfl, q⟩
    · rw [intV_odd hn] at q
      rcases nonint_cases hT with rfl | rfl | rfl | rfl | rfl | rfl
      · refine ⟨_, rfl, _, _, _, _, true, rfl, .ty _, ty, kit_ty (by decide +kernel), true, rfl, ?_⟩
        exact ⟨_, rfl, _, _, _, _, true, rfl, .ty _, ty, kit_ty (by decide +kernel), true, rfl, q⟩
      all_goals exact ⟨_, rfl, _, _, _, _, false, rfl, .ty _, ty, kit_ty (by decide +kernel), false, rfl, q⟩

/-! is_number: slots 0 value; cells [] -/
abbrev sis_number : Stmt := top 8
theorem scis_number : FnScope ["value"] ["value"] (defScope sis_number) := ⟨rfl, rfl, rfl, by decide +kernel, rfl, by decide +kernel, by decide +kernel⟩
def spNumber (K : PySem.W.Frag) : Sp := fun vs H Q _ => ∃ x, vs = [x] ∧ Pln K H x ∧ Q (.bl (numV x)) H
theorem c_is_number (T : Txt K mg) : Cal P w K mg base CX0 2 "is_number" ["value"] (spNumber K) :=
  cal_of T.is_number scis_number (fun _ _ _ _ _ _ us hl => match us, hl with | [_], _ => rfl) (fun vs H Q E h => by obtain ⟨_, rfl, _⟩ := h; rfl) fun f cdv A outer s H vs Q E hr h => by
    have Cis_integer := c_is_integer (P := P) (w := w) (base := base) T
    refine ⟨_, pss_nox (pss_one (ps_ret (pe_and (pe_cal Cis_integer (hr.mono (by decide)) pass0 (pa_cons (pv 0) pa_nil)) (pe_one (pe_cmpR op_ge (pv 0) pe_int (nomark _)))))), ?_⟩
    obtain ⟨x, rfl, hx, q⟩ := h
    refine ⟨_, rfl, _, rfl, hx, ?_⟩
    rcases hx with ⟨i, rfl⟩ | ⟨hn, T, ty, hT⟩
    · exact ⟨true, rfl, _, rfl, i, 0, rfl, rfl, q⟩
    · rw [intV_odd hn]
      rw [numV_odd hn] at q
      exact ⟨false, rfl, q⟩

/-! is_index: slots 0 value, 1 many; cells [] -/
abbrev sis_index : Stmt := top 9
theorem scis_index : FnScope ["value", "many"] ["value", "many"] (defScope sis_index) := ⟨rfl, rfl, rfl, by decide +kernel, rfl, by decide +kernel, by decide +kernel⟩
def spIndex (K : PySem.W.Frag) : Sp := fun vs H Q _ => ∃ x m, vs = [x, .int m] ∧ Pln K H x ∧ Q (.bl (idxV x m)) H
theorem c_is_index (T : Txt K mg) : Cal P w K mg base CX0 3 "is_index" ["value", "many"] (spIndex K) :=
  cal_of T.is_index scis_index (fun _ _ _ _ _ _ us hl => match us, hl with | [_, _], _ => rfl) (fun vs H Q E h => by obtain ⟨_, _, rfl, _⟩ := h; rfl) fun f cdv A outer s H vs Q E hr h => by
    have Cis_number := c_is_number (P := P) (w := w) (base := base) T
    refine ⟨_, pss_nox (pss_one (ps_ret (pe_and (pe_cal Cis_number (hr.mono (by decide)) pass0 (pa_cons (pv 0) pa_nil)) (pe_one (pe_cmpR op_lt (pv 0) (pv 1) (nomark _)))))), ?_⟩
    obtain ⟨x, m, rfl, hx, q⟩ := h
    refine ⟨_, rfl, _, rfl, hx, ?_⟩
    rcases hx with ⟨i, rfl⟩ | ⟨hn, T, ty, hT⟩
    · by_cases h0 : 0 ≤ i
      · refine ⟨true, ?_, _, rfl, _, rfl, i, m, rfl, rfl, ?_⟩
        · show V.bl (decide (0 ≤ i)) = _
          rw [decide_eq_true h0]
        · rw [show idxV (.int i) m = decide (i < m) by unfold idxV; simp [h0]] at q
          exact q
      · refine ⟨false, ?_, ?_⟩
        · show V.bl (decide (0 ≤ i)) = _
          rw [decide_eq_false h0]
        · rw [show idxV (.int i) m = false by unfold idxV; simp [h0]] at q
          exact q
    · rw [numV_odd hn]
      rw [idxV_odd hn] at q
      exact ⟨false, rfl, q⟩

/-- a list or a tuple *-/
def SqA (K : PySem.W.Frag) (H : Hp) (a : Addr) (xs : List V) : Prop := SqL K H a xs ∨ SqT K H a xs
theorem SqL.ty {H : Hp} {a : Addr} {xs : List V} (h : SqL K H a xs) : TyX K H (.ref a) (.type "list") := by
  rcases h with (h | ⟨o, h⟩) | ⟨o, its, n, h, hc, _⟩
  · exact .base (.lst h)
  · exact .base (.frz h)
  · exact .kList h hc
theorem SqT.ty {H : Hp} {a : Addr} {xs : List V} (h : SqT K H a xs) : TyX K H (.ref a) (.type "tuple") := by
  rcases h with (h | ⟨o, h⟩) | ⟨o, its, n, h, hc, _⟩
  · exact .base (.tup h)
  · exact .fTuple h
  · exact .kTuple h hc
def noseq (T : String) : Bool := T == "int" || T == "bool" || T == "NoneType" || T == "str" || T == "dict"
theorem noseq_cases {T : String} (h : noseq T = true) : T = "int" ∨ T = "bool" ∨ T = "NoneType" ∨ T = "str" ∨ T = "dict" := by
  simpa [noseq, or_assoc] using h
/-! is_sequence: slots 0 value; cells [] -/
abbrev sis_sequence : Stmt := top 10
theorem scis_sequence : FnScope ["value"] ["value"] (defScope sis_sequence) := ⟨rfl, rfl, rfl, by decide +kernel, rfl, by decide +kernel, by decide +kernel⟩
def spSequence (K : PySem.W.Frag) : Sp := fun vs H Q _ => ∃ x, vs = [x] ∧ (((∃ a xs, x = .ref a ∧ SqA K H a xs) ∧ ∀ H', Ex H H' → Q (.bl true) H') ∨ ((∃ T, TyX K H x (.type T) ∧ noseq T = true) ∧ ∀ H', Ex H H' → Q (.bl false) H'))
theorem TyX.ex {H H' : Hp} {x : V} {t : Value} (e : Ex H H') (h : TyX K H x t) : TyX K H' x t := by
  cases h with
  | base b =>
    refine .base ?_
    cases b with
    | non => exact .non
    | bl => exact .bl _
    | int => exact .int _
    | str => exact .str _
    | flt => exact .flt _
    | lst h => exact .lst (e _ _ h)
    | frz h => exact .frz (e _ _ h)
    | tup h => exact .tup (e _ _ h)
    | dK h => exact .dK (e _ _ h)
    | dT h => exact .dT (e _ _ h)
    | ins h a b c d f => exact .ins (e _ _ h) a b c d f
  | byt => exact .byt _
  | set h => exact .set (e _ _ h)
  | kList h c => exact .kList h c
  | kTuple h c => exact .kTuple h c
  | kDict h c => exact .kDict h c
  | fTuple h => exact .fTuple (e _ _ h)
  | fDict h => exact .fDict (e _ _ h)
theorem Odd.ex {H H' : Hp} {x : V} (e : Ex H H') (h : Odd K H x) : Odd K H' x := by
  obtain ⟨h1, T, h2, h3⟩ := h
  exact ⟨h1, T, TyX.ex e h2, h3⟩
theorem Pln.ex {H H' : Hp} {x : V} (e : Ex H H') (h : Pln K H x) : Pln K H' x := h.imp id (Odd.ex e)
theorem c_is_sequence (T : Txt K mg) : Cal P w K mg base CX0 1 "is_sequence" ["value"] (spSequence K) :=
  cal_of T.is_sequence scis_sequence (fun _ _ _ _ _ _ us hl => match us, hl with | [_], _ => rfl) (fun vs H Q E h => by obtain ⟨_, rfl, _⟩ := h; rfl) fun f cdv A outer s H vs Q E hr h => by
    refine ⟨_, pss_nox (pss_one (ps_ret (pe_callB (isiKT K rfl) (by rfl) T.n_isinstance (by decide +kernel) (pa_cons (pv 0) (pa_cons (pe_tup (pa_cons (pe_bltn (v := .ty "list") (by rfl) T.n_list (by decide +kernel) rfl) (pa_cons (pe_bltn (v := .ty "tuple") (by rfl) T.n_tuple (by decide +kernel) rfl) pa_nil))) pa_nil))))), ?_⟩
    obtain ⟨x, rfl, h⟩ := h
    refine ⟨_, rfl, by decide, fun p hp => ?_⟩
    have e : Ex H (upd H p (.tup [.ty "list", .ty "tuple"])) := Ex.new hp
    have pr : Paired ClsV [V.ty "list", V.ty "tuple"] [.type "list", .type "tuple"] := .cons (.ty _) (.cons (.ty _) .nil)
    rcases h with ⟨⟨a, xs, rfl, h⟩, q⟩ | ⟨⟨T, ty, hT⟩, q⟩
    · rcases h with h | h
      · exact ⟨_, p, _, _, _, true, rfl, upd_same, pr, TyX.ex e (SqL.ty h), kitAny_cons (b := true) (kit_ty (by decide +kernel)) (fun z => nomatch z) (fun _ => rfl), q _ e⟩
      · exact ⟨_, p, _, _, _, true, rfl, upd_same, pr, TyX.ex e (SqT.ty h), kitAny_cons (b := false) (kit_ty (by decide +kernel)) (fun _ => kitAny_cons (b := true) (kit_ty (by decide +kernel)) (fun z => nomatch z) (fun _ => rfl)) (fun z => nomatch z), q _ e⟩
    · rcases noseq_cases hT with rfl | rfl | rfl | rfl | rfl
      all_goals exact ⟨_, p, _, _, _, false, rfl, upd_same, pr, TyX.ex e ty, kitAny_cons (b := false) (kit_ty (by decide +kernel)) (fun _ => kitAny_cons (b := false) (kit_ty (by decide +kernel)) (fun _ => kitAny_nil) (fun z => nomatch z)) (fun z => nomatch z), q _ e⟩
end
end Kx
namespace Kx
open PySem PySem.Spec PySem.W PySem.Calls PyProof.Rows PySem.HandSPX
open L2 (defArgs defBody defScope inClass)

/-! ### an error's __init__: super().__init__('..'); self.at = at -/
structure ErrTxt (P : Program) (K : PySem.W.Frag) (mg : Str → Option Value) (nm : String) (C fI : Addr) (st : Stmt) : Prop where
  gC : mg nm = some (.ref C)
  cls : ∃ nm q N bs bm sn sub ab col dd k0 k1 k2 k3 k5, K.lookup C = some (excClassObj nm q C N bs bm true sn sub ab col dd k0 k1 k2 k3 k5 "ValueError.__new__") ∧ refsVE bm = true
  sa : findIn K (.ref C) "__setattr__" = some (some (.builtin "object.__setattr__"))
  ga : findIn K (.ref C) "__getattribute__" = some (some (.builtin "BaseException.__getattribute__"))
  gg : findIn K (.ref C) "__getattr__" = some none
  noN : findIn K (.ref C) "at" = some none
  iC : findIn K (.ref C) "__init__" = some (some (.ref fI))
  tC : typeIn K (.ref fI) = some (.type "function")
  kC : keepIn K (.ref C) = true
  exC : subIn K (.ref C) (.type "BaseException") = some true
  veC : subIn K (.ref C) (.type "ValueError") = some true
  tyC : typeIn K (.ref C) = some (.type "type")
  hdC : hasDictIn K C = true
  ownC : mroIn K C (.ref C) = some true
  supC : ks_superIn K C C "__init__" = some (some (.builtin "ValueError.__init__"))
  nob : nsIn K cStatics "thirdparty.any" = some none
  sup : mg "super" = none
  fn : ∃ (qual : Str) (oc : Value) (od : Option Addr) (doc pm : Value) (an : Option Addr) (cda : Addr) (ct : Value) (cc : Addr) (osl : Array (Option Value)) (ccl : Value) (cdd : Option Addr) (vs : Array Value) (ccs : Array (Option Value)) (file : Str) (tf : Tok) (cl : Value) (cld : Option Addr) (csl : Array (Option Value)),
    K.lookup fI = some ⟨oc, od, .func (ksFn "__init__" qual (defArgs st) (defBody st) (defScope st) .none .none doc pm an (.ref cda) ct cc), osl⟩ ∧ codeIn K (.ref cda) qual = true ∧
    K.lookup cda = some ⟨ccl, cdd, .fields vs, ccs⟩ ∧ vs[2]? = some (.str file tf) ∧ ((P.main.file : Str) == file) = true ∧ K.lookup cc = some ⟨cl, cld, .cell (some (.ref C)), csl⟩
/-- the form of the text -/
structure ErrForm (st : Stmt) : Prop where
  args : ∃ p1 p2, defArgs st = { posonlyargs := [], args := [{ arg := "self", annotation := none, pos := p1 }, { arg := "at", annotation := none, pos := p2 }], vararg := none, kwonlyargs := [], kw_defaults := [], kwarg := none, defaults := [] }
  body : ∃ (p0 p1 p2 p3 p4 p5 q1 q2 q3 q4 : Pos) (msg : Str) (j : Nat) (pl : Env → Sem Bool), defBody st = [.Expr (.Call (.Attribute (.Call (.Name "super" p0) [] [] p1) "__init__" p2) [.Constant (.str msg) j p3] [] p4) p5, .Assign [.Attribute (.Name "self" q1) "at" q2] (.Name "at" q3) q4] ∧
    ∀ env, eval (.Call (.Attribute (.Call (.Name "super" p0) [] [] p1) "__init__" p2) [.Constant (.str msg) j p3] [] p4) env = (do
      let ov ← attributeBase (.Call (.Name "super" p0) [] [] p1) "__init__" env (eval (.Call (.Name "super" p0) [] [] p1) env)
      standAt p2.atName
      let (f, first) ← holding [ov] (getMethod ov "__init__" (pl env))
      callWith p4 f first (backTo p4 (starEach [.Constant (.str msg) j p3] env)) [])
  scope : defScope st = { kind := .function, names := [("self", .local), ("at", .local), ("__class__", .free), ("super", .globalImplicit)], isGenerator := false, isCoroutine := false, more := [] }
theorem one_size (v : Value) : [v].length ≤ sizeLine := by
  rw [sizeLine_eq]
  exact (by decide : 1 ≤ 16777216)
structure InitEnd (h h' : Heap) (x C dx t1 : Addr) (v : Value) : Prop where
  keep : ∀ b o, b ≠ x → h.get? b = some o → h'.get? b = some o
  obj : h'.get? x = some { cls := .ref C, dict := some dx, data := .fields #[.ref t1, .none, .none, .none, .bool false, .none] }
  dbig : h.objs.size ≤ dx
  dne : dx ≠ x
  ns : h'.Ns1 dx (fun y => if y = "at" then some v else none)
section
variable {prog : Program} {w : World} {A : Around} {E : Value → Shared → Prop} {R : Result → Shared → Prop} {s : Shared} {K : Frag} {mg : Str → Option Value} {C fI : Addr} {nm : String} {st : Stmt}
/-- the bound ValueError.__init__ is called -/
theorem call_veinit {h : Heap} {g : Array GenState} {d : Drawn} {t : Nat} {os : OsState} {nm q : Str} {N : Addr} {bs bm : List Value} {hdct : Bool} {sn : List Str} {sub : List Value} {ab : Bool} {col : Option Bool} {dd : Option Addr} {k0 k1 k2 k3 k5 : Option Value} {u e t0 : Addr} {rest : List Value} {Q : Value → Shared → Prop}
    (hC : h.get? C = some (excClassObj nm q C N bs bm hdct sn sub ab col dd k0 k1 k2 k3 k5 "ValueError.__new__")) (he : h.get? e = some (excO C t0)) (hu : h.get? u = some (kxs_mw "ValueError.__init__" e)) (hrest : rest.length ≤ sizeLine)
    (hq : ∀ h' t1, (∀ b o, b ≠ e → h.get? b = some o → h'.get? b = some o) → h'.get? e = some (excO C t1) → Q .none ⟨h', g, d, t, os⟩) :
    wpAny (model prog w) A (call (.ref u) rest) Q E ⟨h, g, d, t, os⟩ := by
  refine wpAny_call (codeAny_of_tree ?_)
  show wpAny _ A.in1 (callAny (.ref u) ⟨rest, []⟩) _ _ _
  simp only [callAny]
  refine wpAny_bind (wpAny_load hu ?_)
  simp only [kxs_mw, show (Value.type "method-wrapper" == Value.type "method" || Value.type "method-wrapper" == Value.type "builtin_function_or_method" || Value.type "method-wrapper" == Value.type "method-wrapper") = true by decide, if_true]
  refine KFB.if_so (by decide) ?_
  refine wpAny_bind (check_bound_init F.excBase_ValueError.toExcCallFacts hC he rfl ?_)
  refine wpAny_bind (wpAny_pure (wpAny_pure ?_))
  refine ⟨plainId_quiet F.excBase_ValueError.init.plain _, codeAny_builtin F.excBase_ValueError.initEntry ?_⟩
  exact exc_init_tree (cls := .ref C) (t0 := t0) (dv := none) (c2 := .none) (c3 := .none) (b4 := .bool false) he hrest fun h' k e' _ => hq h' _ k e'
theorem cw_mw {M : Model} {i : String} {u x : Addr} {pos : Pos} {env : Env} {e : Expr} {Q : Value → Shared → Prop} (h : wpAny M A (spliced [(false, eval e env)]) (fun vs s₁ => KxsAt i u x s₁.heap ∧ wpAny M A (call (.ref u) vs) Q E s₁) E s)
    (he : backTo pos (starEach [e] env) = [(false, eval e env)] := by rfl) : wpAny M A (callWith pos (.ref u) [] (backTo pos (starEach [e] env)) []) Q E s := by
  rw [he]
  exact kxs_callWith (i := i) (x := x) rfl (evalArgs_plain h)
theorem ld_loc {M : Model} {env : Env} {m : Str → Option Value} {x : Str} {pos : Pos} {v : Value} {Q : Value → Shared → Prop} (hn : s.heap.Ns env.locals m) (hv : m x = some v) (h : Q v s)
    (hk : env.scope.kind = .function := by rfl) (hl : env.kindOf x = some .local := by rfl) (hd : (x == ("__debug__" : Str)) = false := by decide) : wpAny M A (eval (.Name x pos) env) Q E s := wpAny_Name (wpAny_loadName_local hk hl hn hv h) hd
theorem err_init (T : ErrTxt prog K mg nm C fI st) (TF : ErrForm st) (htop : (prog.main.scope.names.lookup ("super" : Str)).isSome = false) {x t0 : Addr} {v : Value} (X : K.In s.heap) (G : s.heap.Ns mainGlobals mg) (B : ∃ mb, s.heap.Ns builtinsNs mb ∧ ∀ x : Str, x ≠ "__name__" → mb x = bootBuiltins x)
    (hlim : s.heap.NoLimit) (hx : s.heap.get? x = some (excO C t0)) (hnx : K.lookup x = none) (hroom : A.depth < recursionLimit)
    (hq : ∀ h' tk dx t1, InitEnd s.heap h' x C dx t1 v → R (.ok (.ret .none)) { s with heap := h', toks := tk }) :
    codeAny (model prog w) A (.call (.ref fI) ⟨[.ref x, v], []⟩) R s := by
  obtain ⟨qual, oc, od, doc, pm, an, cda, ct, cc, osl, ccl, cdd, vs, ccs, file, tf, cl, cld, csl, ho, hcd, hco, hvs, hfile, hcell⟩ := T.fn
  obtain ⟨nm', q, N, bs, bm, sn, sub, ab, col, dd, k0, k1, k2, k3, k5, hC, hbm⟩ := T.cls
  obtain ⟨⟨a1, a2, hargs⟩, ⟨p0, p1, p2, p3, p4, p5, q1, q2, q3, q4, msg, j, pl, hbody, heval⟩, hscope⟩ := TF
  rw [hargs, hbody, hscope] at ho
  have hcl : clsIn K C = some { name := nm', bases := bs, mro := .ref C :: bm, ns := N, qualname := q, hasDict := true, slotNames := sn, subclasses := sub, abstract := ab, collection := col, hasDel := false } := by unfold clsIn; rw [hC] <;> rfl
  have hce : ∀ x ∈ ([(("self" : Str), NameKind.local), ("at", .local), ("__class__", .free), ("super", .globalImplicit)] : List (Str × NameKind)), x.2 ≠ .cell := by decide
  have hlo : ∀ y ∈ ([(("self" : Str), Value.ref x), ("at", v)] : List (Str × Value)), List.lookup y.1 ([(("self" : Str), NameKind.local), ("at", .local), ("__class__", .free), ("super", .globalImplicit)] : List (Str × NameKind)) = some .local := by
    intro y hy
    simp only [List.mem_cons, List.not_mem_nil, or_false] at hy
    rcases hy with rfl | rfl <;> rfl
  refine ks_codeAny_call_defAt (binds := [("self", .ref x), ("at", v)]) hroom (X _ _ ho) rfl hlim (codeRec_of X hcd) rfl (BindsTo.of_eq (by first | rfl | with_unfolding_all rfl)) hce hlo (fun h₁ hns hk₁ => ?_)
  obtain ⟨mb, B1, B2⟩ := B
  have X₁ : K.In h₁ := X.keeps hk₁
  have hC₁ := X₁ _ _ hC
  have hx₁ := hk₁ _ _ hx
  have hxc : x ≠ C := fun z => by
    rw [z] at hx
    rw [X _ _ hC] at hx
    cases hx
  have IX : InstAt h₁ x (excO C t0) C none := ⟨hx₁, rfl, rfl, trivial⟩
  refine ks_wpAt_execs_cons (ks_wpAt_Expr_any (ks_wpAt_MethodCall ?_ (heval _)))
  refine ks_wpAt_super_base (hks := rfl) (hkc := rfl) (hat := by decide) (hfu := rfl) (hf := X₁ _ _ ho) (hfd := rfl) (hp := rfl) (hco := rfl) (hcc := X₁ _ _ hco) (hoc := rfl) (hvs := hvs) (hfile := hfile) (htop := htop) ?_
  refine ks_loadName_global rfl rfl (loadGlobal_builtin (mg := mg) (mb := mb) (G.keeps hk₁) T.sup (B1.keeps hk₁) ((B2 _ (by decide)).trans (by decide +kernel : bootBuiltins "super" = some (.type "super"))) ⟨rfl, ?_⟩)
  refine wpAny_loadName_free rfl rfl rfl ⟨_, X₁ _ _ hcell, rfl⟩ ?_
  refine wpAny_loadName_local rfl rfl hns rfl ?_
  refine ks_wpAny_isType_cls hC₁ rfl ⟨rfl, ?_⟩
  refine ks_wpAny_call_super hC₁ rfl hx₁ rfl (fun c e => nomatch e) (looks_mroIn X₁ T.ownC) (fun h₂ hso k₂ => ?_)
  have X₂ : K.In h₂ := X₁.keeps k₂
  have I₂ : InstAt h₂ x (excO C t0) C none := ⟨k₂ _ _ hx₁, rfl, rfl, trivial⟩
  have hsup : ∃ l, (((Value.ref C :: bm).dropWhile (· != .ref C)).drop 1) = l ∧ alongIn K "__init__" l = some (some (.builtin "ValueError.__init__")) := ⟨_, rfl, by
    have := T.supC
    unfold ks_superIn at this
    rw [hcl] at this
    exact this⟩
  obtain ⟨l, hl, hal⟩ := hsup
  refine kxs_getMethod kxs_ValueError hso (looks_opaque X₂ T.nob) (l₀ := .ref C :: bm) (fun A Q E s k q => wpAny_bind ((looks_clsIn X₂ hcl) A _ E s k (wpAny_pure q))) hl X₂ hal (I₂.type.andThen (looks_subIn X₂ T.veC)) hxc (by decide) ?_
  have k₃ : ∀ b o, h₂.get? b = some o → (h₂.push (kxs_mw "ValueError.__init__" x)).get? b = some o := fun b o e => Heap.get?_push_of_some _ e
  have hmw : (h₂.push (kxs_mw "ValueError.__init__" x)).get? h₂.objs.size = some (kxs_mw "ValueError.__init__" x) := Heap.get?_push_at rfl rfl
  refine cw_mw (i := "ValueError.__init__") (x := x) (spliced_cons (Constant_str (spliced_nil ⟨hmw, ?_⟩)))
  refine call_veinit (k₃ _ _ (k₂ _ _ hC₁)) (k₃ _ _ (k₂ _ _ hx₁)) hmw (one_size _) fun h₄ t1 k₄ hx₄ => ?_
  -- self.at = at
  have keep : ∀ b o, b ≠ x → s.heap.get? b = some o → h₄.get? b = some o := fun b o hb e => k₄ b o hb (k₃ _ _ (k₂ _ _ (hk₁ _ _ e)))
  have X₄ : K.In h₄ := fun b o e => keep b o (fun z => by rw [z, hnx] at e; cases e) (X b o e)
  have hL : s.heap.objs.size ≠ x := Nat.ne_of_gt (Heap.lt_size hx)
  have hns₄ : h₄.Ns s.heap.objs.size (fun y => ([(("self" : Str), Value.ref x), ("at", v)] : List (Str × Value)).reverse.lookup y) := hns.at fun o e => k₄ _ o hL (k₃ _ _ (k₂ _ _ e))
  have big : s.heap.objs.size < h₄.objs.size := hns₄.lt
  refine ks_wpAt_execs_cons (PySem.wpAt_of_wpAny (plainObj_wpAny_Assign_Attribute ?_))
  refine ld_loc (v := v) hns₄ (by first | rfl | with_unfolding_all rfl | kernel_rfl) (ld_loc (v := .ref x) hns₄ (by first | rfl | with_unfolding_all rfl | kernel_rfl) ?_)
  refine set_plain X₄ (ox := excO C t1) (od := none) ⟨hx₄, rfl, rfl, trivial⟩ T.sa ?_
  refine exc_osa X₄ hx₄ hcl (show refsVE (.ref C :: bm) = true from hbm) rfl T.noN (fun h₅ tk₅ dx k₅ dn dne hx₅ hn₅ => ?_)
  exact PySem.wpAt_of_wpAny (wpAny_execs_nil (hq h₅ tk₅ dx t1 ⟨fun b o hb e => k₅ b o hb (keep b o hb e), hx₅, Nat.le_of_lt (Nat.lt_of_lt_of_le big dn), dne, hn₅⟩))
/-- an error that is made -/
structure OwnMade (h h' : Heap) (e C d : Addr) (v : Value) : Prop where
  keep : ∀ b o, h.get? b = some o → h'.get? b = some o
  new : h.objs.size ≤ e
  obj : ∃ oe vs, h'.get? e = some oe ∧ oe.cls = .ref C ∧ oe.dict = some d ∧ oe.data = .fields vs ∧ vs[1]? = some .none
  dbig : h.objs.size ≤ d
  dne : d ≠ e
  ns : h'.Ns1 d (fun y => if y = "at" then some v else none)
theorem err_made (T : ErrTxt prog K mg nm C fI st) (TF : ErrForm st) (htop : (prog.main.scope.names.lookup ("super" : Str)).isSome = false) {v : Value} (X : K.In s.heap) (G : s.heap.Ns mainGlobals mg) (B : ∃ mb, s.heap.Ns builtinsNs mb ∧ ∀ x : Str, x ≠ "__name__" → mb x = bootBuiltins x)
    (hlim : s.heap.NoLimit) (hroom : A.depth + 1 < recursionLimit) (hq : ∀ h' tk e d, OwnMade s.heap h' e C d v → R (.ok (.ret (.ref e))) { s with heap := h', toks := tk }) :
    codeAny (model prog w) A (.call (.ref C) ⟨[v], []⟩) R s := by
  obtain ⟨nm, q, N, bs, bm, sn, sub, ab, col, dd, k0, k1, k2, k3, k5, hC, hbm⟩ := T.cls
  obtain ⟨hp, g, dr, tk, os⟩ := s
  have k : ∀ b o, hp.get? b = some o → ((hp.push (kdv_tup [v])).push (excO C hp.objs.size)).get? b = some o := fun b o e => Heap.get?_push_of_some _ (Heap.get?_push_of_some _ e)
  have hget : ((hp.push (kdv_tup [v])).push (excO C hp.objs.size)).get? (hp.objs.size + 1) = some (excO C hp.objs.size) := by heap_get
  have hnx : K.lookup (hp.objs.size + 1) = none := by
    cases e : K.lookup (hp.objs.size + 1) with
    | none => rfl
    | some o =>
      have z : hp.get? (hp.objs.size + 1) = some o := X _ _ e
      exact absurd (Nat.lt_of_succ_lt (Heap.lt_size z)) (Nat.lt_irrefl _)
  obtain ⟨mb, B1, B2⟩ := B
  refine call_own F.excBase_ValueError (fun X => refsVE_contains X bm hbm) (X _ _ hC) (looks_findIn X T.iC) (fun self => bind_fn X self T.tC) (one_size v) ?_
  refine err_init (s := ⟨(hp.push (kdv_tup [v])).push (excO C hp.objs.size), g, dr, tk, os⟩) T TF htop (X.keeps k) (G.keeps k) ⟨mb, B1.keeps k, B2⟩ (hlim.keeps k) hget hnx ?_ fun h' tk' dx t1 ⟨k', hx, dn, dne, hns⟩ => ?_
  · show A.depth + 1 < recursionLimit
    exact hroom
  · have old : ∀ b o, hp.get? b = some o → h'.get? b = some o := fun b o e => k' b o (Nat.ne_of_lt (Nat.lt_succ_of_lt (Heap.lt_size e))) (k b o e)
    have z : hp.objs.size + 1 + 1 ≤ dx := by
      first
        | (simpa only [Heap.size_push] using dn)
        | exact dn
        | (have q := dn; rw [Heap.size_push, Heap.size_push] at q; exact q)
    exact ⟨rfl, hq h' tk' (hp.objs.size + 1) dx ⟨old, Nat.le_succ _, ⟨_, _, hx, rfl, rfl, rfl, rfl⟩, Nat.le_trans (Nat.le_trans (Nat.le_succ _) (Nat.le_succ _)) z, dne, hns⟩⟩
end
end Kx
namespace Kx
open PySem PySem.Spec PyProof.Rows L2
theorem relO_at {v : V} {v' : Value} (r : RelV v v') (f : Str) : RelO (List.lookup f [(("at" : Str), v)]) (if f = "at" then some v' else none) := by
  by_cases hw : f = "at"
  · subst hw
    rw [if_pos rfl]
    have q : List.lookup ("at" : Str) [(("at" : Str), v)] = some v := by simp [List.lookup]
    rw [q]
    exact r
  · rw [if_neg hw]
    have qw : (f == ("at" : Str)) = false := by simpa using hw
    have q2 : List.lookup f [(("at" : Str), v)] = none := by simp [List.lookup, qw]
    rw [q2]
    trivial
section
variable {X : Cx} {C fI : Addr} {nm : String} {st : Stmt}
/-- X(e) -/
def tMkErr (C : Addr) (ta : TA) : L2.St → Hp → XK → Prop := fun σ H Q => ta σ H fun vs H1 => ∃ v, vs = [v] ∧ ∀ d, H1 d = none → Q (.ref C) (some d) (upd H1 d (.xd [(("at" : Str), v)]))
theorem pmk_err {a : Expr} {ta : TA} {p pos : Pos} {k : Nat} (T : ErrTxt X.prog X.K X.mg nm C fI st) (TF : ErrForm st) (htop : (X.prog.main.scope.names.lookup ("super" : Str)).isSome = false) (hr : Room k X.A) (ha : PA X [a] ta) (hg : Gl X nm) (hdb : ((nm : Str) == ("__debug__" : Str)) = false)
    (he : starEach (a :: []) X.env = (false, eval a X.env) :: starEach [] X.env := by rfl) (hpl : (backTo pos (starEach [] X.env)).any (·.1) = false := by rfl) :
    PMk X (.Call (.Name nm p) [a] [] pos) (tMkErr C ta) := by
  intro pins s σ H Q I h
  refine wpAny_Call_Name_kw (ld_glob I hg T.gC ?_ hdb)
  refine PySem.W.callWith_K (h₀ := X.base) I.ok.mod.kin T.kC (L2.thn (ha.run pos pins s σ H _ I h) fun us s1 hh => ?_) he hpl
  obtain ⟨vs, H1, I1, r1, v, ev, q1⟩ := hh
  subst ev
  refine ⟨I1.kIn, ?_⟩
  cases r1 with
  | cons rv rn =>
    rename_i v' us'
    cases rn
    show wpAny _ _ (call (.ref C) [v']) _ _ _
    have hlim := I1.nolimit
    have hG := I1.mod.glob.keeps I1.bk
    obtain ⟨mb, hb1, hb2⟩ := I1.mod.blt
    have hB : ∃ mb, s1.heap.Ns builtinsNs mb ∧ ∀ x : Str, x ≠ "__name__" → mb x = bootBuiltins x := ⟨mb, hb1.keeps I1.bk, hb2⟩
    have hK := I1.kIn
    obtain ⟨hp, g, dr, tk, os⟩ := s1
    refine wpAny_call (err_made T TF htop hK hG hB hlim (by have := hr.dp; omega) fun h' tk' e d M => ?_)
    show MkP X pins σ Q (.ref e) ⟨h', g, dr, tk', os⟩
    obtain ⟨oe, fv, hoe, hc, hd, hdat, h1⟩ := M.obj
    have hns := M.ns
    obtain ⟨G', g1, g2⟩ := restrict h' fun b => decide (b ≠ e)
    have gk : ∀ b, b ≠ e → G'.get? b = h'.get? b := fun b hb => g1 b (decide_eq_true hb)
    have ge : G'.get? e = none := g2 e (by simp)
    have old : ∀ b o, hp.get? b = some o → G'.get? b = some o := fun b o q => (gk b (Nat.ne_of_lt (Nat.lt_of_lt_of_le (Heap.lt_size q) M.new))).trans (M.keep b o q)
    have ob : ObjOk X.prog X.w (upd H1 d (.xd [(("at" : Str), v)])) G' d (.xd [(("at" : Str), v)]) :=
      ⟨_, hns.at (fun o q => (gk d M.dne).trans q), fun f => relO_at rv f⟩
    have J : Inv X pins σ (upd H1 d (.xd [(("at" : Str), v)])) ⟨G', g, dr, tk', os⟩ := I1.laid (t' := tk') old M.dbig ob
    refine ⟨e, oe, fv, ⟨G', g, dr, tk', os⟩, _, .ref C, some d, rfl, J, fun b o q => ?_, ge, hoe, ⟨hc, hd⟩, hdat, h1, ?_, rfl, I1.bare, raises_own T.exC T.tyC, q1 d (I1.hok.fresh M.dbig)⟩
    · by_cases hb : b = e
      · have q' : G'.get? b = some o := q
        rw [hb, ge] at q'; cases q'
      · exact (gk b hb).symm.trans q
    · rw [upd_ne (Ne.symm M.dne)]
      exact I1.hok.fresh M.new
/-- raise X(e) -/
def tRaiseErr (C : Addr) (W : WX) (ta : TA) : TS := fun _ σ H => tMkErr C ta σ H fun cls d H' => W cls d σ H'
theorem ps_raiseErr {a : Expr} {ta : TA} {W : WX} {p pos pos2 : Pos} {k : Nat} (hc : X.calm = true) (T : ErrTxt X.prog X.K X.mg nm C fI st) (TF : ErrForm st) (htop : (X.prog.main.scope.names.lookup ("super" : Str)).isSome = false) (hr : Room k X.A) (tk : Takes X W) (ha : PA X [a] ta) (hg : Gl X nm) (hdb : ((nm : Str) == ("__debug__" : Str)) = false)
    (he : starEach (a :: []) X.env = (false, eval a X.env) :: starEach [] X.env := by rfl) (hpl : (backTo pos (starEach [] X.env)).any (·.1) = false := by rfl) :
    PS X (.Raise (some (.Call (.Name nm p) [a] [] pos)) none pos2) (tRaiseErr C W ta) := ps_raise hc tk (pmk_err T TF htop hr ha hg hdb he hpl)
/-- wrong.at, wrong the exception that the suite holds (at a; its class cls, its dict d) -/
def tByAt (C : Addr) (a : Addr) (cls : Value) (d : Option Addr) (te : TE) : TE := fun σ H Q => te σ H fun x H1 => x = .ref a ∧ cls = .ref C ∧ ∃ (dd : Addr) (v : V), d = some dd ∧ H1 dd = some (.xd [(("at" : Str), v)]) ∧ Q v H1
theorem pe_byAt {a : Addr} {oe : Obj} {cls : Value} {d : Option Addr} {pn : List (Addr × Obj)} {e : Expr} {te : TE} {pos : Pos} (T : ErrTxt X.prog X.K X.mg nm C fI st) (hz : Zc cls d oe) (hf : ∃ vs, oe.data = .fields vs) (he : PE (X.suite a ((a, oe) :: pn)) e te)
    (hb : attributeBase e "at" X.env (eval e X.env) = eval e X.env := by rfl) :
    PE (X.suite a ((a, oe) :: pn)) (.Attribute e "at" pos) (tByAt C a cls d te) := by
  refine ⟨fun pins s σ H Q I h => ?_⟩
  refine attr_of hb (L2.thn (he.run pins s σ H _ I h) fun u s1 hh => ?_)
  obtain ⟨x, H1, I1, rx, ex, ec, dd, v, ed, ea, q⟩ := hh
  subst ex
  obtain rfl : u = Value.ref a := rx
  subst ec
  subst ed
  obtain ⟨ha, _⟩ := I1.pin (a, oe) (List.mem_append_left _ List.mem_cons_self)
  obtain ⟨vs, hd⟩ := hf
  have hx : ObjOk X.prog X.w H1 s1.heap dd (.xd [(("at" : Str), v)]) := I1.hok dd _ ea
  obtain ⟨mA, hns, hr⟩ := hx
  obtain ⟨od, ho, hl⟩ := lookIn_ns hns
  have l : List.lookup ("at" : Str) [(("at" : Str), v)] = some v := by simp [List.lookup]
  obtain ⟨u, hu, ru⟩ := RelO.some_of (v := v) (o := mA "at") (by rw [← l]; exact hr "at")
  have J : PySem.W.InstAt s1.heap a oe C (some od) := ⟨ha, hz.1, by unfold PySem.W.notCls; rw [hd] <;> rfl, by rw [hz.2]; exact ho⟩
  exact HandSPX.exc_get I1.kIn J T.ga T.gg T.exC (PySem.W.findObj_own T.hdC T.noN rfl (by rw [hl, hu])) (handed_of ru) ⟨v, H1, I1.tok _, ru, q⟩
end
end Kx
namespace Kx
open PySem PySem.Spec PyProof.Rows L2

/-! ### try: .. except A as n: .. except B as n: .. -/
/-- an exception of the body, while the clauses are looked at -/
def Air (X : Cx) (pins : List (Addr × Obj)) (a : Addr) (cls : Value) (d : Option Addr) (σ : L2.St) (H : Hp) (s : Shared) : Prop :=
  ∃ (B : Heap) (sI : Shared), L2.Inv X pins σ H sI ∧ (∀ b o, sI.heap.get? b = some o → b ∉ frs X.stack → B.get? b = some o) ∧ sI.heap.UpToSlots s.heap ∧ HandSPX.FlyingZ B (X.env :: X.outer) a (Zc cls d) s.heap ∧ H a = none ∧ s.os = sI.os ∧ AllBare s.gens
/-- what one clause wishes; else V -/
def wCl (K : PySem.W.Frag) (c : Value) (i : Nat) (ts : Addr → Value → Option Addr → TS) (V : WX) (D : Ends) : WX := wAs K c i ts V D
section
variable {X : Cx} {x n : Str} {c : Value} {i : Nat} {suite : List Stmt} {b₀ : Stmt} {np pos' : Pos} {ts : Addr → Value → Option Addr → TS} {D : Ends} {pins : List (Addr × Obj)} {a : Addr} {cls : Value} {d : Option Addr} {σ : L2.St} {H : Hp} {s : Shared}
theorem air_apart (hf : X.env.frame = some X.env.locals) (A : Air X pins a cls d σ H s) : a ≠ X.env.locals ∧ a ∉ X.fs := by
  obtain ⟨B, sI, J, nb, up, fl, na, os, ag⟩ := A
  obtain ⟨oe, vs, he, hz, hd⟩ := fl.there
  have far : a ∉ frs (X.env :: X.outer) := fun hm => by
    obtain ⟨_, o', e', hnf⟩ := fl.2.2.1.mem hm
    rw [he] at e'
    cases e'
    exact hnf _ hd
  refine ⟨fun z => far (List.mem_filterMap.mpr ⟨X.env, List.mem_cons_self, by rw [hf, z]⟩), fun hm => ?_⟩
  obtain ⟨e, he', q⟩ := List.mem_filterMap.mp hm
  exact far (List.mem_filterMap.mpr ⟨e, List.mem_cons_of_mem _ he', q⟩)
theorem clause_as {rest : List ExceptHandler} {b : Bool} (ok : X.Ok) (hf : X.env.frame = some X.env.locals) (hN : X.N.Nodup) (hi : X.N[i]? = some n) (hln : X.env.kindOf n = some .local) (hc : Names X x c)
    (hsu : ∀ (a : Addr) (oe : Obj) (cls : Value) (d : Option Addr) (pn : List (Addr × Obj)), Zc cls d oe → (∃ vs, oe.data = .fields vs) → PSs (X.suite a ((a, oe) :: pn)) (b₀ :: suite) (ts a cls d))
    (A : Air X pins a cls d σ H s) (hb : PySem.W.exmOne X.K cls c = some b)
    (yes : b = true → ts a cls d { nx := fun σ' H' => D.nx (σ'.set i none) H', rt := D.rt, bk := fun σ' H' => D.bk (σ'.set i none) H', ct := fun σ' H' => D.ct (σ'.set i none) H' } (σ.set i (some (.ref a))) H)
    (no : b = false → wpAny (model X.prog X.w) X.A (handleBy (.ref a) X.env rest) (SP X pins D) X.xe s) :
    wpAny (model X.prog X.w) X.A (handleBy (.ref a) X.env (.ExceptHandler (some (.Name x np)) (some n) (b₀ :: suite) pos' :: rest)) (SP X pins D) X.xe s := by
  have hloc : Loc X.env.scope n := .inl hln
  obtain ⟨nL, nF⟩ := air_apart hf A
  obtain ⟨B, sI, J, nb, up, fl, na, os, ag⟩ := A
  obtain ⟨oe, vs, he, hz, hd⟩ := fl.there
  have J3 : L2.Inv X pins σ H s := J.landed nb fl.1 up os ag
  have S3 := J3.suite he hd na nL nF
  refine wpAny_handleBy_cons (codeAny_handlers_test ?_) (by intro q; cases q)
  have LT : PySem.W.Looks (model X.prog X.w) s.heap (typeOf (.ref a)) cls := fun A Q E s' k q => wpAny_typeOf_ref (k _ _ he) (by rw [hz.1]; exact q)
  have LM := PySem.W.exm_one (M := model X.prog X.w) J3.kIn LT hb
  have look : ∀ {Q : Value → Shared → Prop} {E : Value → Shared → Prop}, Q c s → wpAny (model X.prog X.w) (X.A.mark (some (.ref a))) (eval (.Name x np) X.env) Q E s := fun {Q E} q => by
    obtain ⟨hg, hdbg, hm | ⟨hm, hv, hnn⟩⟩ := hc
    · exact ld_glob (X := X.suite a ((a, oe) :: (X.pn ++ pins))) S3 hg hm q hdbg
    · exact ld_blt (X := X.suite a ((a, oe) :: (X.pn ++ pins))) S3 hg hm hv q hnn hdbg
  refine look (LM.here ?_)
  cases b with
  | false =>
    show wpAny _ X.A (handleBy (.ref a) X.env rest) _ _ _
    exact no rfl
  | true =>
    refine codeAny_handlers_suite_as (HandSPX.lands_againZ fl fun h4 fl4 up4 => ?_)
    obtain ⟨oe4, vs4, he4, hz4, hd4⟩ := fl4.there
    have J4 : L2.Inv X pins σ H { s with heap := h4 } := J.landed nb fl4.1 (up.trans up4) os ag
    have S4 := J4.suite he4 hd4 na nL nF
    refine store_ok (X := X.suite a ((a, oe4) :: (X.pn ++ pins))) (v := .ref a) S4 hN hi hloc rfl (fun s5 S5 => ?_) (.inr hln)
    refine wpAny_mono ((hsu a oe4 cls d (X.pn ++ pins) hz4 ⟨_, hd4⟩).run [] s5 _ H _ S5 (yes rfl)) (fun f s6 got => ?_) (fun _ _ z => False.elim z)
    have ends : ∀ {σ6 : L2.St} {H6 : Hp} {Q : Shared → Prop}, L2.Inv (X.suite a ((a, oe4) :: (X.pn ++ pins))) [] σ6 H6 s6 → (∀ s7, L2.Inv X pins (σ6.set i none) H6 s7 → Q s7) →
        wpAny (model X.prog X.w) X.A (do bindName X.env n .none; unbindBehindTheSuite X.env n pos') (fun _ s7 => Q s7) X.xe s6 := fun S6 q => gone_ok (S6.unsuite ok) hN hi hln q
    match f, got with
    | .next, ⟨σ6, H6, S6, q6⟩ => exact ends S6 fun s7 J7 => ⟨_, _, J7, q6⟩
    | .brk, ⟨σ6, H6, S6, q6⟩ => exact ends S6 fun s7 J7 => ⟨_, _, J7, q6⟩
    | .cont, ⟨σ6, H6, S6, q6⟩ => exact ends S6 fun s7 J7 => ⟨_, _, J7, q6⟩
    | .ret u, ⟨v6, σ6, H6, S6, r6, q6⟩ => exact ends S6 fun s7 J7 => ⟨_, _, _, J7, r6, q6⟩
end
section
variable {X : Cx} {x1 x2 n : Str} {c1 c2 : Value} {i : Nat} {body suite1 suite2 : List Stmt} {b1 b2 : Stmt} {np1 np2 pos1 pos2 pos : Pos} {tb : WX → TS} {t1 t2 : Addr → Value → Option Addr → TS}
/-- two clauses; every exception of the body is one of theirs -/
def wTwo (K : PySem.W.Frag) (c1 c2 : Value) (i : Nat) (t1 t2 : Addr → Value → Option Addr → TS) (D : Ends) : WX := wAs K c1 i t1 (wAs K c2 i t2 (fun _ _ _ _ => False) D) D
theorem ps_try_as2 (hs : X.stack = X.env :: X.outer) (hf : X.env.frame = some X.env.locals) (hN : X.N.Nodup) (hi : X.N[i]? = some n) (hln : X.env.kindOf n = some .local) (hc1 : Names X x1 c1) (hc2 : Names X x2 c2)
    (hb : ∀ (W : WX) (pn : List (Addr × Obj)) (xe : Value → Shared → Prop), Takes (X.tr pn xe) W → PassesOwn (model X.prog X.w) X.A X.env xe → PSs (X.tr pn xe) body (tb W))
    (h1 : ∀ (a : Addr) (oe : Obj) (cls : Value) (d : Option Addr) (pn : List (Addr × Obj)), Zc cls d oe → (∃ vs, oe.data = .fields vs) → PSs (X.suite a ((a, oe) :: pn)) (b1 :: suite1) (t1 a cls d))
    (h2 : ∀ (a : Addr) (oe : Obj) (cls : Value) (d : Option Addr) (pn : List (Addr × Obj)), Zc cls d oe → (∃ vs, oe.data = .fields vs) → PSs (X.suite a ((a, oe) :: pn)) (b2 :: suite2) (t2 a cls d)) :
    PS X (.Try body [.ExceptHandler (some (.Name x1 np1)) (some n) (b1 :: suite1) pos1, .ExceptHandler (some (.Name x2 np2)) (some n) (b2 :: suite2) pos2] [] [] pos) (fun D σ H => tb (wTwo X.K c1 c2 i t1 t2 D) D σ H) := by
  refine ⟨fun pins s σ H D I h => ?_⟩
  have ok := I.ok
  have hfr : X.A.frames = some (X.env :: X.outer) := by rw [ok.frames, hs]
  refine wpAny_Try_except ?_
  refine wpAny_mono ((hb (wTwo X.K c1 c2 i t1 t2 D) (X.pn ++ pins) (fun e s₁ => wpAny (model X.prog X.w) X.A (noteFrame e X.env) (fun _ s₂ => wpAny (model X.prog X.w) X.A (setFlight e none) (fun _ s₃ =>
    wpAny (model X.prog X.w) X.A (handleBy e X.env [.ExceptHandler (some (.Name x1 np1)) (some n) (b1 :: suite1) pos1, .ExceptHandler (some (.Name x2 np2)) (some n) (b2 :: suite2) pos2]) (SP X pins D) X.xe s₃) X.xe s₂) X.xe s₁) (fun u s' xx => ?_) PassesOwn.looking).run [] s σ H D (I.toTry _) h) (fun f s1 got => ?_) (fun e s1 he => he)
  · obtain ⟨a, B, sI, pins', σ', H', cls, d, rfl, J', nb, up, sky, na, os, ag, q1, e1, yes1, no1⟩ := xx
    have sky' : Sky B (X.env :: X.outer) a (Zc cls d) X.env.locals s'.heap := by rw [← hs]; exact sky
    show wpAny (model X.prog X.w) X.A (noteFrame (.ref a) X.env) _ _ _
    refine Sky.land Zc.steady hfr hf sky' fun h3 fl3 up3 => ?_
    have air : Air X pins a cls d σ' H' { s' with heap := h3 } := ⟨B, sI, J'.ofTry ok, nb, up.trans up3, fl3, na, os, ag⟩
    refine clause_as ok hf hN hi hln hc1 h1 air e1 (fun z => yes1 z a na) fun z => ?_
    obtain ⟨q2, e2, yes2, no2⟩ := no1 z
    exact clause_as ok hf hN hi hln hc2 h2 air e2 (fun z => yes2 z a na) fun z => (no2 z).elim
  · match f, got with
    | .next, ⟨σ', H', J', q⟩ => exact wpAny_execs_nil ⟨σ', H', J'.ofTry ok, q⟩
    | .brk, ⟨σ', H', J', q⟩ => exact ⟨σ', H', J'.ofTry ok, q⟩
    | .cont, ⟨σ', H', J', q⟩ => exact ⟨σ', H', J'.ofTry ok, q⟩
    | .ret u, ⟨v, σ', H', J', r, q⟩ => exact ⟨v, σ', H', J'.ofTry ok, r, q⟩
end
end Kx
namespace Kx
/-! ### changes as lists -/
def ap (c : List Nat) (s : Nat) : Nat := c.getD s 0
def pw (c : List Nat) (k : Nat) : List Nat := (List.range c.length).map (it (ap c) k)
def thn (c d : List Nat) : List Nat := c.map (ap d)
def Below (n : Nat) (c : List Nat) : Prop := ∀ x ∈ c, x < n
structure Chg (c : List Nat) : Prop where
  pos : 0 < c.length
  le : c.length ≤ 24
  lt : Below c.length c
theorem ap_lt {c : List Nat} {n : Nat} (h : Below n c) {s : Nat} (hs : s < c.length) : ap c s < n := by
  unfold ap
  rw [List.getD_eq_getElem?_getD, List.getElem?_eq_getElem hs]
  exact h _ (List.getElem_mem hs)
theorem ap_get {c : List Nat} {s : Nat} (hs : s < c.length) : c[s]? = some (ap c s) := by
  unfold ap
  rw [List.getD_eq_getElem?_getD, List.getElem?_eq_getElem hs]
  rfl
theorem ap_of {c : List Nat} {s x : Nat} (h : c[s]? = some x) : ap c s = x := by
  unfold ap
  rw [List.getD_eq_getElem?_getD, h]
  rfl
theorem chg_ap {c : List Nat} (h : Chg c) : ∀ s, s < c.length → ap c s < c.length := fun _ hs => ap_lt h.lt hs
theorem pw_len (c : List Nat) (k : Nat) : (pw c k).length = c.length := by simp [pw]
theorem pw_ap {c : List Nat} {k s : Nat} (hs : s < c.length) : ap (pw c k) s = it (ap c) k s := by
  apply ap_of
  simp [pw, hs]
theorem pw_lt {c : List Nat} (h : Chg c) (k : Nat) : Below c.length (pw c k) := by
  intro x hx
  unfold pw at hx
  obtain ⟨s, hs, rfl⟩ := List.mem_map.mp hx
  exact it_lt (chg_ap h) (List.mem_range.mp hs) k
theorem pw_chg {c : List Nat} (h : Chg c) (k : Nat) : Chg (pw c k) := ⟨by rw [pw_len]; exact h.pos, by rw [pw_len]; exact h.le, by rw [pw_len]; exact pw_lt h k⟩
theorem pw_zero (c : List Nat) : pw c 0 = List.range c.length := by
  unfold pw
  rw [show (it (ap c) 0) = id from rfl, List.map_id]
theorem thn_len (c d : List Nat) : (thn c d).length = c.length := by simp [thn]
theorem thn_lt {c d : List Nat} {n : Nat} (hc : Below d.length c) (hd : Below n d) : Below n (thn c d) := by
  intro x hx
  unfold thn at hx
  obtain ⟨s, hs, rfl⟩ := List.mem_map.mp hx
  exact ap_lt hd (hc s hs)
theorem thn_chg {c d : List Nat} (hc : Chg c) (hd : Chg d) (e : c.length = d.length) : Chg (thn c d) :=
  ⟨by rw [thn_len]; exact hc.pos, by rw [thn_len]; exact hc.le, by rw [thn_len, e]; exact thn_lt (by rw [← e]; exact hc.lt) hd.lt⟩
theorem thn_pw {c : List Nat} (h : Chg c) (a b : Nat) : thn (pw c a) (pw c b) = pw c (a + b) := by
  unfold thn
  conv => lhs; unfold pw
  conv => rhs; unfold pw
  rw [List.map_map]
  apply List.map_congr_left
  intro s hs
  have hs := List.mem_range.mp hs
  show ap (pw c b) (it (ap c) a s) = _
  rw [pw_ap (it_lt (chg_ap h) hs a), it_add]
theorem pw_one {c : List Nat} : pw c 1 = c := by
  apply List.ext_getElem?
  intro i
  unfold pw
  by_cases hi : i < c.length
  · rw [List.getElem?_map, List.getElem?_range hi, ap_get hi]
    rfl
  · rw [List.getElem?_eq_none (by simpa using hi), List.getElem?_eq_none (by simpa using hi)]
theorem pw_eq {c : List Nat} {i j : Nat} : pw c i = pw c j ↔ ∀ s, s < c.length → it (ap c) i s = it (ap c) j s := by
  unfold pw
  rw [List.map_inj_left]
  exact ⟨fun h s hs => h s (List.mem_range.mpr hs), fun h s hs => h s (List.mem_range.mp hs)⟩
theorem range_chg {n : Nat} (h : 0 < n) (h2 : n ≤ 24) : Chg (List.range n) := ⟨by simpa using h, by simpa using h2, by intro x hx; simpa using hx⟩
/-- tail and ring of a change -/
structure Rh (c : List Nat) (t r : Nat) : Prop where
  rho : Rho (pw c) t r
  tl : t ≤ 24
  rl : r ≤ 6561
theorem rh_ex {c : List Nat} (h : Chg c) : ∃ t r, Rh c t r := by
  obtain ⟨t, r, h1, h2, h3⟩ := joint_small (chg_ap h) h.le
  have := h.le
  exact ⟨t, r, h1.congr (fun i j => pw_eq.symm), by omega, h3⟩
/-- the states below m alone -/
def EB (c : List Nat) (m : Nat) (i j : Nat) : Prop := ∀ s, s < m → it (ap c) i s = it (ap c) j s
theorem eb_zero (c : List Nat) : RhoE (EB c 0) 0 1 := RhoE.all.congr (fun i j => ⟨fun _ s hs => absurd hs (Nat.not_lt_zero _), fun _ => trivial⟩)
theorem eb_succ {c : List Nat} {m t r a b : Nat} (h : RhoE (EB c m) t r) (h2 : Rho (fun k => it (ap c) k m) a b) : RhoE (EB c (m + 1)) (max t a) (Nat.lcm r b) :=
  (h.and h2.toE).congr fun i j => ⟨fun ⟨p, q⟩ s hs => by
    by_cases z : s = m
    · rw [z]; exact q
    · exact p s (by omega), fun p => ⟨fun s hs => p s (by omega), p m (by omega)⟩⟩
theorem eb_dvd {c : List Nat} {m t r t' r' : Nat} (h : RhoE (EB c m) t r) (hm : m ≤ c.length) (h' : Rho (pw c) t' r') : r ∣ r' := by
  have e : pw c t' = pw c (t' + r') := (h'.2 t' r').mpr (.inr ⟨Nat.le_refl _, Nat.dvd_refl _⟩)
  have e2 : EB c m t' (t' + r') := fun s hs => pw_eq.mp e s (by omega)
  have p := h'.1
  rcases (h.2 t' r').mp e2 with z | z
  · omega
  · exact z.2
theorem eb_all {c : List Nat} {t r t' r' : Nat} (h : RhoE (EB c c.length) t r) (h' : Rho (pw c) t' r') : t = t' ∧ r = r' :=
  h.uniq (h'.toE.congr fun _ _ => pw_eq)
end Kx
namespace Kx
open PySem PySem.Spec PyProof.Rows L2 Evl

theorem minc (a b : Nat) : (if (b : Int) < (a : Int) then (b : Int) else (a : Int)) = ((min a b : Nat) : Int) := by
  split <;> omega
theorem maxc (a b : Nat) : (if (b : Int) > (a : Int) then (b : Int) else (a : Int)) = ((max a b : Nat) : Int) := by
  split <;> omega
/-- least multiple of n from m on -/
def upTo (n m : Nat) : Nat := (m + n - 1) / n * n
theorem up_int {n m : Nat} (h : 0 < n) : (-((-(m : Int)) / (n : Int))) = (((m + n - 1) / n : Nat) : Int) := by
  have h1 : (n : Int) ≠ 0 := by omega
  have h2 : (((m + n - 1) / n : Nat) : Int) = ((m : Int) + n - 1) / n := by
    rw [Int.natCast_ediv]
    congr 1
    omega
  rw [h2]
  have hp : (0 : Int) < n := by omega
  have e1 := Int.mul_ediv_add_emod (-(m : Int)) n
  have e2 := Int.emod_nonneg (-(m : Int)) h1
  have e3 := Int.emod_lt_of_pos (-(m : Int)) hp
  generalize hq : (-(m : Int)) / n = q at *
  generalize hr : (-(m : Int)) % n = r at *
  have : (m : Int) + n - 1 = (n - 1 - r) + n * (-q) + 2 * r - r + 0 - 0 + (n * q * 0) - 0 + (m + n * q) + 0 := by grind
  symm
  have e4 : (m : Int) + n - 1 = (n - 1 - r) + n * (-q) := by grind
  rw [e4, Int.add_mul_ediv_left _ _ h1, Int.ediv_eq_zero_of_lt (by omega) (by omega)]
  omega
/-- what repeated_by answers, plainly -/
def rbEnd (r a b : Nat) : Nat := r / Nat.gcd r (max a b - min a b)
def rbFirst (t r a b : Nat) : Nat := max (rbEnd r a b) (upTo (rbEnd r a b) (upTo (min a b) t / min a b))
def rb (t r a b : Nat) : List (Nat × Nat) × Nat :=
  if min a b = max a b then ([], 1) else
  if min a b = 0 then (if 0 < t then ([], 0) else ([], rbEnd r a b)) else
  if rbFirst t r a b = rbEnd r a b then ([], rbEnd r a b) else ([(rbFirst t r a b, 1)], rbEnd r a b)
/-- a falling row as it lies in the heap -/
def Runs (H : Hp) (vs : List V) (rs : List (Nat × Nat)) : Prop := Paired (fun v r => ∃ q, v = .ref q ∧ H q = some (.tup [.int (r.1 : Nat), .int (r.2 : Nat)])) vs rs
def Told (H : Hp) (v : V) (x : List (Nat × Nat) × Nat) : Prop := ∃ p p1 us, v = .ref p ∧ H p = some (.tup [.ref p1, .int (x.2 : Nat)]) ∧ H p1 = some (.tup us) ∧ Runs H us x.1
theorem Runs.tup {H H' : Hp} (k : ∀ a xs, H a = some (.tup xs) → H' a = some (.tup xs)) {vs : List V} {rs : List (Nat × Nat)} (h : Runs H vs rs) : Runs H' vs rs := paired_mono (fun v r ⟨q, h1, h2⟩ => ⟨q, h1, k _ _ h2⟩) h
theorem Told.tup {H H' : Hp} (k : ∀ a xs, H a = some (.tup xs) → H' a = some (.tup xs)) {v : V} {x : List (Nat × Nat) × Nat} (h : Told H v x) : Told H' v x := by
  obtain ⟨p, p1, us, h1, h2, h3, h4⟩ := h
  exact ⟨p, p1, us, h1, k _ _ h2, k _ _ h3, h4.tup k⟩
def RetD (P : Hp → V → Prop) (H : Hp) (Q : VK) : Prop := ∀ v H', Ex H H' → P H' v → Q v H'

section
variable {P : Program} {w : World} {K : PySem.W.Frag} {mg : Str → Option Value} {base : Heap}
/-! common_divisor: slots 0 one, 1 other; cells [] -/
abbrev scommon_divisor : Stmt := top 11
theorem sccommon_divisor : FnScope ["one", "other"] ["one", "other"] (defScope scommon_divisor) := ⟨rfl, rfl, rfl, by decide +kernel, rfl, by decide +kernel, by decide +kernel⟩
def spDivisor : Sp := fun vs H Q _ => ∃ a b : Nat, vs = [.int (a : Int), .int (b : Int)] ∧ Q (.int ((Nat.gcd a b : Nat) : Int)) H
theorem c_common_divisor (T : Txt K mg) : Cal P w K mg base CX0 1 "common_divisor" ["one", "other"] (spDivisor) :=
  cal_of T.common_divisor sccommon_divisor (fun _ _ _ _ _ _ us hl => match us, hl with | [_, _], _ => rfl) (fun vs H Q E h => by obtain ⟨_, _, rfl, _⟩ := h; rfl) fun f cdv A outer s H vs Q E hr h => by
    refine ⟨_, pss_nox (pss_cons (ps_while PassesOwn.never (pt_cmpR op_ne (pv 1) pe_int (nomark _)) (pss_one (ps_par (i := 0) (j := 1) (by rfl) sccommon_divisor.nd rfl rfl (by decide) rfl rfl (pa_cons (pv 1) (pa_cons (pe_op op_mod (pv 0) (pv 1)) pa_nil)) (by rfl))))
        (pss_one (ps_ret (pv 0)))), ?_⟩
    obtain ⟨a, b, rfl, q⟩ := h
    refine ⟨fun m σ H' => ∃ x y : Nat, σ = [some (.int (x : Int)), some (.int (y : Int))] ∧ H' = H ∧ Nat.gcd x y = Nat.gcd a b ∧ m = y, ⟨b, a, b, rfl, rfl, rfl, rfl⟩, ?_⟩
    rintro y σ H' ⟨x, m, rfl, rfl, hg, rfl⟩
    by_cases hy : y = 0
    · subst hy
      rw [Nat.gcd_zero_right] at hg
      rw [← hg] at q
      exact ⟨_, rfl, rfl, false, by simp, _, rfl, q⟩
    · have e1 : decide (V.int (y : Int) = V.int 0) = false := by simp [hy]
      refine ⟨_, rfl, rfl, true, by simp [hy], ?_⟩
      · refine ⟨fun σ H2 => ∃ x' y' : Nat, σ = [some (.int (x' : Int)), some (.int (y' : Int))] ∧ H2 = H' ∧ Nat.gcd x' y' = Nat.gcd a b ∧ y' < y, ?_, ?_⟩
        · rintro σ H' ⟨x', y', h1, h2, h3, h4⟩
          exact ⟨y', h4, x', y', h1, h2, h3, rfl⟩
        · refine ⟨_, rfl, _, rfl, _, rfl, _, _, rfl, rfl, by omega, _, _, rfl, y, x % y, rfl, rfl, ?_, Nat.mod_lt _ (by omega)⟩
          rw [← hg, Nat.gcd_comm x y, Nat.gcd_rec y x, Nat.gcd_comm]

/-! common_multiple: slots 0 one, 1 other; cells [] -/
abbrev scommon_multiple : Stmt := top 12
theorem sccommon_multiple : FnScope ["one", "other"] ["one", "other"] (defScope scommon_multiple) := ⟨rfl, rfl, rfl, by decide +kernel, rfl, by decide +kernel, by decide +kernel⟩
def spMultiple : Sp := fun vs H Q _ => ∃ a b : Nat, vs = [.int (a : Int), .int (b : Int)] ∧ 0 < b ∧ b < 1000000 ∧ a < 1000000 ∧ Q (.int ((Nat.lcm a b : Nat) : Int)) H
theorem lcm_way (a b : Nat) (h : 0 < b) : a / Nat.gcd a b * b = Nat.lcm a b := by
  unfold Nat.lcm
  rw [Nat.div_mul_right_comm (Nat.gcd_dvd_left a b)]
theorem c_common_multiple (T : Txt K mg) : Cal P w K mg base CX0 2 "common_multiple" ["one", "other"] (spMultiple) :=
  cal_of T.common_multiple sccommon_multiple (fun _ _ _ _ _ _ us hl => match us, hl with | [_, _], _ => rfl) (fun vs H Q E h => by obtain ⟨_, _, rfl, _⟩ := h; rfl) fun f cdv A outer s H vs Q E hr h => by
    have Ccommon_divisor := c_common_divisor (P := P) (w := w) (base := base) T
    refine ⟨_, pss_nox (pss_one (ps_ret (pe_op op_mul (pe_op op_fdiv (pv 0) (pe_cal Ccommon_divisor (hr.mono (by decide)) pass0 (pa_cons (pv 0) (pa_cons (pv 1) pa_nil)))) (pv 1)))), ?_⟩
    obtain ⟨a, b, rfl, hb, hb2, ha2, q⟩ := h
    have hg : 0 < Nat.gcd a b := Nat.gcd_pos_of_pos_right _ hb
    have hg2 : Nat.gcd a b ≤ b := Nat.le_of_dvd hb (Nat.gcd_dvd_right a b)
    have hq : a / Nat.gcd a b ≤ a := Nat.div_le_self _ _
    refine ⟨_, rfl, _, rfl, _, rfl, a, b, rfl, _, _, rfl, rfl, ⟨by omega, by omega⟩, _, rfl, _, _, rfl, rfl, ?_, ?_⟩
    · right; omega
    · dsimp only
      rw [← Int.natCast_ediv, ← Int.natCast_mul, lcm_way a b hb]
      exact q

/-! from_on: slots 0 number, 1 least; cells [] -/
abbrev sfrom_on : Stmt := top 27
theorem scfrom_on : FnScope ["number", "least"] ["number", "least"] (defScope sfrom_on) := ⟨rfl, rfl, rfl, by decide +kernel, rfl, by decide +kernel, by decide +kernel⟩
def spFrom : Sp := fun vs H Q _ => ∃ n m : Nat, vs = [.int (n : Int), .int (m : Int)] ∧ 0 < n ∧ n.log2 < 9000 ∧ m < 1000000 ∧ Q (.int ((upTo n m : Nat) : Int)) H
theorem c_from_on (T : Txt K mg) : Cal P w K mg base CX0 1 "from_on" ["number", "least"] (spFrom) :=
  cal_of T.from_on scfrom_on (fun _ _ _ _ _ _ us hl => match us, hl with | [_, _], _ => rfl) (fun vs H Q E h => by obtain ⟨_, _, rfl, _⟩ := h; rfl) fun f cdv A outer s H vs Q E hr h => by
    refine ⟨_, pss_nox (pss_one (ps_ret (pe_op op_mul (pe_un un_neg (pe_op op_fdivW (pe_un un_neg (pv 1)) (pv 0))) (pv 0)))), ?_⟩
    obtain ⟨n, m, rfl, hn, hn2, hm, q⟩ := h
    refine ⟨_, rfl, _, rfl, _, rfl, _, _, rfl, rfl, ⟨by omega, by simpa using hn2⟩, _, rfl, _, rfl, _, _, rfl, rfl, ?_, ?_⟩
    · left
      rw [up_int hn]
      have h1 : (m + n - 1) / n ≤ m := by
        rcases Nat.eq_zero_or_pos m with rfl | h0
        · have : (0 + n - 1) / n = 0 := Nat.div_eq_of_lt (by omega)
          omega
        · apply Nat.div_le_of_le_mul
          have := Nat.le_mul_of_pos_right m hn
          have := Nat.le_mul_of_pos_left n h0
          rw [Nat.mul_comm n m]
          have h3 : (m - 1) * 1 ≤ (m - 1) * n := Nat.mul_le_mul_left _ hn
          have h4 : m * n = (m - 1) * n + n := by
            conv => lhs; rw [show m = (m - 1) + 1 by omega]
            rw [Nat.succ_mul]
          omega
      generalize (m + n - 1) / n = z at *
      constructor <;> omega
    · dsimp only
      rw [up_int hn, ← Int.natCast_mul]
      exact q

/-! repeated_by: slots 0 tail, 1 ring, 2 times, 3 others, 4 low, 5 high, 6 end, 7 first; cells [] -/
abbrev srepeated_by : Stmt := top 29
theorem screpeated_by : FnScope ["tail", "ring", "times", "others", "low", "high", "end", "first"] ["tail", "ring", "times", "others"] (defScope srepeated_by) := ⟨rfl, rfl, rfl, by decide +kernel, rfl, by decide +kernel, by decide +kernel⟩
def spRb : Sp := fun vs H Q _ => ∃ t r a b : Nat, vs = [.int (t : Int), .int (r : Int), .int (a : Int), .int (b : Int)] ∧ t ≤ 1000 ∧ 0 < r ∧ r ≤ 100000 ∧ a < 2 ^ 200 ∧ b < 2 ^ 200 ∧ RetD (fun H' v => Told H' v (rb t r a b)) H Q
theorem told_0 {H : Hp} {Q : VK} {e : Nat} (q : RetD (fun H' v => Told H' v ([], e)) H Q) {p1 : Addr} (h1 : H p1 = none) {p : Addr} (h2 : (upd H p1 (.tup [])) p = none) : Q (.ref p) (upd (upd H p1 (.tup [])) p (.tup [.ref p1, .int (e : Int)])) :=
  q _ _ ((Ex.new h1).trans (Ex.new h2)) ⟨p, p1, [], rfl, upd_same, Ex.new h2 _ _ upd_same, .nil⟩
theorem log2_small {n k : Nat} (h : n < 2 ^ k) (h0 : 0 < k) : n.log2 < k := by
  rcases Nat.eq_zero_or_pos n with rfl | hn
  · simpa using h0
  · exact (Nat.log2_lt (by omega)).mpr h
theorem upTo_le (n m : Nat) : upTo n m ≤ m + n - 1 := Nat.div_mul_le_self _ _
theorem upTo_div {n m : Nat} (h : 0 < n) : upTo n m / n ≤ m := by
  unfold upTo
  rw [Nat.mul_div_cancel _ h]
  rcases Nat.eq_zero_or_pos m with rfl | h0
  · have : (0 + n - 1) / n = 0 := Nat.div_eq_of_lt (by omega)
    omega
  · apply Nat.div_le_of_le_mul
    rw [Nat.mul_comm n m]
    have h3 : (m - 1) * 1 ≤ (m - 1) * n := Nat.mul_le_mul_left _ h
    have h4 : m * n = (m - 1) * n + n := by
      conv => lhs; rw [show m = (m - 1) + 1 by omega]
      rw [Nat.succ_mul]
    omega
theorem c_repeated_by (T : Txt K mg) : Cal P w K mg base CX0 2 "repeated_by" ["tail", "ring", "times", "others"] (spRb) :=
  cal_of T.repeated_by screpeated_by (fun _ _ _ _ _ _ us hl => match us, hl with | [_, _, _, _], _ => rfl) (fun vs H Q E h => by obtain ⟨_, _, _, _, rfl, _⟩ := h; rfl) fun f cdv A outer s H vs Q E hr h => by
    have Ccommon_divisor := c_common_divisor (P := P) (w := w) (base := base) T
    have Cfrom_on := c_from_on (P := P) (w := w) (base := base) T
    refine ⟨_, pss_nox (pss_cons (ps_par (i := 4) (j := 5) (by rfl) screpeated_by.nd rfl rfl (by decide) rfl rfl (pa_cons (pe_callB (min2 rfl) (by rfl) T.n_min (by decide +kernel) (pa_cons (pv 2) (pa_cons (pv 3) pa_nil))) (pa_cons (pe_callB (max2 rfl) (by rfl) T.n_max (by decide +kernel) (pa_cons (pv 2) (pa_cons (pv 3) pa_nil))) pa_nil)) (by rfl))
        (pss_cons (ps_if (pt_cmpR op_eq (pv 4) (pv 5) (nomark _)) (pss_one (ps_ret (pe_tup (pa_cons (pe_tup pa_nil) (pa_cons pe_int pa_nil))))) pss_nil)
        (pss_cons (ps_set (i := 6) screpeated_by.nd rfl (Or.inl rfl) (pe_op op_fdiv (pv 1) (pe_cal Ccommon_divisor (hr.mono (by decide)) pass0 (pa_cons (pv 1) (pa_cons (pe_op op_sub (pv 5) (pv 4)) pa_nil)))))
        (pss_cons (ps_if (pt_cmpR op_eq (pv 4) pe_int (nomark _)) (pss_one (ps_ret (pe_ifExp (pt_cmpR op_gt (pv 0) pe_int (nomark _)) (pe_tup (pa_cons (pe_tup pa_nil) (pa_cons pe_int pa_nil))) (pe_tup (pa_cons (pe_tup pa_nil) (pa_cons (pv 6) pa_nil)))))) pss_nil)
        (pss_cons (ps_set (i := 7) screpeated_by.nd rfl (Or.inl rfl) (pe_callB (max2 rfl) (by rfl) T.n_max (by decide +kernel) (pa_cons (pv 6) (pa_cons (pe_cal Cfrom_on (hr.mono (by decide)) pass0 (pa_cons (pv 6) (pa_cons (pe_op op_fdivW (pe_cal Cfrom_on (hr.mono (by decide)) pass0 (pa_cons (pv 4) (pa_cons (pv 0) pa_nil))) (pv 4)) pa_nil))) pa_nil))))
        (pss_one (ps_ret (pe_ifExp (pt_cmpR op_eq (pv 7) (pv 6) (nomark _)) (pe_tup (pa_cons (pe_tup pa_nil) (pa_cons (pv 6) pa_nil))) (pe_tup (pa_cons (pe_tup (pa_cons (pe_tup (pa_cons (pv 7) (pa_cons pe_int pa_nil))) pa_nil)) (pa_cons (pv 6) pa_nil))))))))))), ?_⟩
    obtain ⟨t, r, a, b, rfl, ht, hr0, hr1, ha, hb, q⟩ := h
    refine ⟨_, rfl, _, rfl, _, _, rfl, ?_⟩
    rw [minc]
    refine ⟨_, rfl, _, rfl, _, _, rfl, ?_⟩
    rw [maxc]
    refine ⟨_, _, rfl, ?_⟩
    generalize hlo : min a b = lo
    generalize hhi : max a b = hi
    have hlh : lo ≤ hi := by omega
    have hlo2 : lo < 2 ^ 200 := by omega
    have hrb : rb t r a b = if lo = hi then ([], 1) else if lo = 0 then (if 0 < t then ([], 0) else ([], rbEnd r a b)) else if rbFirst t r a b = rbEnd r a b then ([], rbEnd r a b) else ([(rbFirst t r a b, 1)], rbEnd r a b) := by
      unfold rb; rw [hlo, hhi]
    rw [hrb] at q
    refine ⟨_, rfl, _, rfl, rfl, _, rfl, ?_⟩
    by_cases h1 : lo = hi
    · rw [if_pos h1] at q
      subst h1
      rw [if_pos (by simp)]
      exact ⟨sz_of (by simp), fun p hp => ⟨sz_of (by simp), fun p2 hp2 => told_0 (e := 1) q hp hp2⟩⟩
    · rw [if_neg h1] at q
      rw [if_neg (by simpa using fun z => h1 (by omega))]
      have hgp : 0 < Nat.gcd r (hi - lo) := Nat.gcd_pos_of_pos_left _ hr0
      have hgl : Nat.gcd r (hi - lo) ≤ r := Nat.le_of_dvd hr0 (Nat.gcd_dvd_left _ _)
      have hsub : ((hi : Int) - (lo : Int)) = ((hi - lo : Nat) : Int) := by omega
      refine ⟨_, rfl, _, rfl, _, rfl, _, rfl, _, _, rfl, rfl, ?_⟩
      dsimp only
      rw [hsub]
      refine ⟨r, hi - lo, rfl, _, _, rfl, rfl, ⟨by omega, by omega⟩, ?_⟩
      dsimp only
      rw [← Int.natCast_ediv]
      have hen : r / Nat.gcd r (hi - lo) = rbEnd r a b := by unfold rbEnd; rw [hlo, hhi]
      have hep : 0 < r / Nat.gcd r (hi - lo) := Nat.div_pos hgl hgp
      have hel : r / Nat.gcd r (hi - lo) ≤ r := Nat.div_le_self _ _
      have hfi : max (r / Nat.gcd r (hi - lo)) (upTo (r / Nat.gcd r (hi - lo)) (upTo lo t / lo)) = rbFirst t r a b := by
        unfold rbFirst; rw [hen, hlo]
      rw [← hen, ← hfi] at q
      generalize r / Nat.gcd r (hi - lo) = e at *
      refine ⟨_, rfl, rfl, _, rfl, ?_⟩
      by_cases h2 : lo = 0
      · rw [if_pos h2] at q
        subst h2
        rw [if_pos (by simp)]
        refine ⟨_, rfl, _, _, rfl, rfl, _, rfl, ?_⟩
        by_cases h3 : 0 < t
        · rw [if_pos h3] at q
          rw [if_pos (by simpa using h3)]
          exact ⟨sz_of (by simp), fun p hp => ⟨sz_of (by simp), fun p2 hp2 => told_0 (e := 0) q hp hp2⟩⟩
        · rw [if_neg h3] at q
          rw [if_neg (by simpa using h3)]
          exact ⟨sz_of (by simp), fun p hp => ⟨_, rfl, sz_of (by simp), fun p2 hp2 => told_0 (e := e) q hp hp2⟩⟩
      · rw [if_neg h2] at q
        rw [if_neg (by simpa using h2)]
        have hl0 : 0 < lo := by omega
        have hd : upTo lo t / lo ≤ t := upTo_div hl0
        have hlog : lo.log2 < 9000 := Nat.lt_trans (log2_small hlo2 (by decide)) (by decide)
        refine ⟨_, rfl, _, rfl, _, rfl, _, rfl, lo, t, rfl, hl0, hlog, by omega, _, rfl, _, _, rfl, rfl, ⟨by omega, by simpa using hlog⟩, ?_⟩
        dsimp only
        rw [← Int.natCast_ediv]
        refine ⟨e, upTo lo t / lo, rfl, hep, Nat.lt_trans (log2_small (k := 100) (by omega) (by decide)) (by decide), by omega, _, _, rfl, ?_⟩
        rw [maxc]
        generalize max e (upTo e (upTo lo t / lo)) = f at *
        refine ⟨_, rfl, _, rfl, rfl, _, rfl, ?_⟩
        by_cases h3 : f = e
        · rw [if_pos h3] at q
          rw [if_pos (by simp [h3])]
          exact ⟨sz_of (by simp), fun p hp => ⟨_, rfl, sz_of (by simp), fun p2 hp2 => told_0 (e := e) q hp hp2⟩⟩
        · rw [if_neg h3] at q
          rw [if_neg (by simp; omega)]
          refine ⟨_, rfl, sz_of (by simp), fun p hp => ⟨sz_of (by simp), fun p1 hp1 => ⟨_, rfl, sz_of (by simp), fun p2 hp2 => q _ _ (((Ex.new hp).trans (Ex.new hp1)).trans (Ex.new hp2)) ⟨p2, p1, _, rfl, upd_same, Ex.new hp2 _ _ upd_same, .cons ⟨p, rfl, Ex.new hp2 _ _ (Ex.new hp1 _ _ upd_same)⟩ .nil⟩⟩⟩⟩
end
end Kx
namespace Kx
open PySem PySem.Spec PyProof.Rows L2 Evl

/-! ### dicts that number what was seen -/
section
variable {κ : Type} [DecidableEq κ]
def sqd (x : Nat → κ) (n : Nat) : List (κ × V) := (List.range n).map fun k : Nat => (x k, V.int (k : Int))
theorem sqd_succ (x : Nat → κ) (n : Nat) : sqd x (n + 1) = sqd x n ++ [(x n, V.int (n : Int))] := by simp [sqd, List.range_succ]
theorem sqd_len (x : Nat → κ) (n : Nat) : (sqd x n).length = n := by simp [sqd]
theorem sqd_none {x : Nat → κ} : ∀ {n : Nat} {y : κ}, (∀ m, m < n → x m ≠ y) → valV (sqd x n) y = none
  | 0, _, _ => rfl
  | n + 1, y, h => by
    rw [sqd_succ]
    by_cases e : ∀ m, m < n → x m ≠ x n
    · rw [valV_snoc _ _ _ _ (sqd_none e), if_neg (fun z => h n (by omega) z.symm)]
      exact sqd_none fun m hm => h m (by omega)
    · have ih : valV (sqd x n) y = none := sqd_none fun m hm => h m (by omega)
      unfold valV at *
      rw [Option.map_eq_none_iff] at *
      rw [List.find?_append, ih]
      simp [h n (by omega)]
theorem sqd_some {x : Nat → κ} : ∀ {n m : Nat}, Dist x n → m < n → valV (sqd x n) (x m) = some (.int (m : Int))
  | 0, _, _, h => absurd h (Nat.not_lt_zero _)
  | n + 1, m, d, h => by
    rw [sqd_succ, valV_snoc _ _ _ _ (sqd_none fun j hj => d j n hj (by omega))]
    by_cases e : m = n
    · rw [e, if_pos rfl]
    · rw [if_neg (d m n (by omega) (by omega))]
      exact sqd_some (fun i j a b => d i j a (by omega)) (by omega)
theorem sqd_put {x : Nat → κ} {n : Nat} (h : ∀ m, m < n → x m ≠ x n) : putK (sqd x n) (x n) (.int (n : Int)) = sqd x (n + 1) := by
  rw [putK_new _ (sqd_none h), sqd_succ]
end
theorem Dist.succ {α : Type} {x : Nat → α} {n : Nat} (d : Dist x n) (h : ∀ m, m < n → x m ≠ x n) : Dist x (n + 1) := fun i j hij hj => by
  by_cases e : j = n
  · rw [e]; exact h i (by omega)
  · exact d i j hij (by omega)
theorem rg_nv (n : Nat) : rgV 0 (n : Int) = nv (List.range n) := by
  unfold rgV nv
  rw [show ((n : Int) - 0).toNat = n by omega]
  apply List.map_congr_left
  intro i _
  rw [Int.zero_add]
theorem set5 {α : Type} (l : List α) : l = l := rfl

section
variable {P : Program} {w : World} {K : PySem.W.Frag} {mg : Str → Option Value} {base : Heap}
/-! idle: slots 0 states; cells [] -/
abbrev sidle : Stmt := top 18
theorem scidle : FnScope ["states"] ["states"] (defScope sidle) := ⟨rfl, rfl, rfl, by decide +kernel, rfl, by decide +kernel, by decide +kernel⟩
def spIdle : Sp := fun vs H Q _ => ∃ n : Nat, vs = [.int (n : Int)] ∧ n ≤ 1000 ∧ RetT (nv (List.range n)) H Q
theorem c_idle (T : Txt K mg) : Cal P w K mg base CX0 1 "idle" ["states"] (spIdle) :=
  cal_of T.idle scidle (fun _ _ _ _ _ _ us hl => match us, hl with | [_], _ => rfl) (fun vs H Q E h => by obtain ⟨_, rfl, _⟩ := h; rfl) fun f cdv A outer s H vs Q E hr h => by
    refine ⟨_, pss_nox (pss_one (ps_ret (pe_tupRg rfl (by rfl) T.n_tuple (prg_1 (by rfl) T.n_range (pv 0))))), ?_⟩
    obtain ⟨n, rfl, hn, q⟩ := h
    refine ⟨_, rfl, _, rfl, .of_le (by omega) (by omega) (by omega) (by omega), fun p hp => q p _ (Ex.new hp) ?_⟩
    rw [rg_nv]
    exact upd_same

/-! after: slots 0 one, 1 other, 2 state; cells ['other'] -/
abbrev safter : Stmt := top 19
theorem scafter : FnScope ["one", "other", "state"] ["one", "other"] (defScope safter) := ⟨rfl, rfl, rfl, by decide +kernel, rfl, by decide +kernel, by decide +kernel⟩
def spAfter (K : PySem.W.Frag) : Sp := fun vs H Q _ => ∃ a b c d, vs = [.ref a, .ref b] ∧ SqT K H a (nv c) ∧ SqT K H b (nv d) ∧ Below d.length c ∧ c.length ≤ 1000 ∧ H a = some (.tup (nv c)) ∧ RetT (nv (thn c d)) H Q
/-- other[x] for x of one, and a tuple of them -/
theorem after_way {H : Hp} {Q : VK} {a b : Addr} {c d : List Nat} {ti tl : TE} {σ : L2.St} {j : Nat} {vs : List Nat} (ha : H a = some (.tup (nv c))) (hb : SqT K H b (nv d)) (hc : Below d.length c) (hl : c.length ≤ 1000) (q : RetT (nv (thn c d)) H Q)
    (hi : ∀ H' (Q : VK), Q (.ref a) H' → ti σ H' Q) (hw : ∀ x, wipe ((wipe σ vs).set j (some x)) vs = wipe σ vs)
    (hv : ∀ x H' (Q : VK), SqT K H' b (nv d) → Q (.int (ap d x : Nat)) H' → x < d.length → tl ((wipe σ vs).set j (some (.int (x : Nat)))) H' Q) :
    tCB (rTupS K) (tCons (tLc (iTup K ti) (gName j) tYes tl vs) tNil) σ H Q := by
  refine cb1 (lc_T (xs := nv c) (Ex.frame H) (fun _ => true) (fun i y => y = .int (ap d (ap c i) : Nat)) (fun _ _ => False) (fun Q k => hi H Q (k H (Ex.refl H) (st_of ha))) ha (by rw [nv_len]; omega) hw
    (fun i x H1 _ _ Qb k => tYes_go (Ex.frame H) Qb k) (fun i x H1 e hx _ Q k => ?_) (fun p H2 ys hp e hy pr => ?_))
  · obtain ⟨s, hs, rfl⟩ := nv_get_of hx
    refine hv s H1 Q (ex_t e hb) (k _ H1 (Ex.refl _) (.inl ?_)) (hc s (List.mem_of_getElem? hs))
    show V.int _ = V.int _
    rw [ap_of hs]
  · rw [filt_yes, nv_len] at pr
    have ey := paired_pure pr
    refine ⟨p, ys, rfl, .inl ⟨sq_of hy, fun l hl2 => q l _ (e.trans (Ex.new hl2)) ?_⟩⟩
    rw [upd_same, ey]
    congr 2
    unfold nv thn
    rw [List.map_map]
    apply List.ext_getElem?
    intro i
    by_cases hi2 : i < c.length
    · rw [List.getElem?_map, List.getElem?_range hi2, List.getElem?_map, ap_get hi2]
      rfl
    · rw [List.getElem?_eq_none (by simpa using hi2), List.getElem?_eq_none (by simpa using hi2)]
theorem c_after (T : Txt K mg) : Cal P w K mg base CX0 1 "after" ["one", "other"] (spAfter K) :=
  cal_of T.after scafter (fun _ _ _ _ _ _ us hl => match us, hl with | [_, _], _ => rfl) (fun vs H Q E h => by obtain ⟨_, _, _, _, rfl, _⟩ := h; rfl) fun f cdv A outer s H vs Q E hr h => by
    refine ⟨_, pss_nox (pss_one (ps_ret (pe_callTy (tupK K rfl) (by rfl) T.n_tuple (by decide +kernel) (pa_cons (pe_lc (own := [("state", 2)]) (tt := tYes) (by rfl) scafter.nd (pi_tupK K rfl (pv 0)) (blkOk_by (N := ["one", "other", "state"]) (sc := defScope safter) (by decide +kernel)) (fun _ _ _ _ _ => (pg_name (i := 2) scafter.nd rfl (Or.inl rfl))) (fun _ _ _ _ _ => pts_nil) (fun _ _ _ _ _ => (pe_ix (ixT K rfl) (pv 1) (pv 2) (fun _ _ => rfl)))) pa_nil)))), ?_⟩
    obtain ⟨a, b, c, d, rfl, _, hb, hc, hl, ha, q⟩ := h
    refine after_way ha hb hc hl q (fun H' Q k => ⟨_, rfl, k⟩) (fun x => rfl) fun x H' Q h1 k hx => ?_
    exact ⟨_, rfl, _, rfl, b, nv d, (x : Int), _, rfl, rfl, h1, nv_at (ap_get hx), k⟩

/-! size_of: slots 0 change; cells [] -/
abbrev ssize_of : Stmt := top 20
theorem scsize_of : FnScope ["change"] ["change"] (defScope ssize_of) := ⟨rfl, rfl, rfl, by decide +kernel, rfl, by decide +kernel, by decide +kernel⟩
def spSize : Sp := fun vs H Q _ => ∃ a xs, vs = [.ref a] ∧ H a = some (.tup xs) ∧ Q (.int (xs.length : Int)) H
theorem c_size_of (T : Txt K mg) : Cal P w K mg base CX0 1 "size_of" ["change"] (spSize) :=
  cal_of T.size_of scsize_of (fun _ _ _ _ _ _ us hl => match us, hl with | [_], _ => rfl) (fun vs H Q E h => by obtain ⟨_, _, rfl, _⟩ := h; rfl) fun f cdv A outer s H vs Q E hr h => by
    refine ⟨_, pss_nox (pss_one (ps_ret (pe_ifExp (pt_val (pe_callB (isiK1 K rfl) (by rfl) T.n_isinstance (by decide +kernel) (pa_cons (pv 0) (pa_cons (pe_bltn (v := .ty "tuple") (by rfl) T.n_tuple (by decide +kernel) rfl) pa_nil)))) (pe_callB (lenK K rfl) (by rfl) T.n_len (by decide +kernel) (pa_cons (pv 0) pa_nil)) pe_int))), ?_⟩
    obtain ⟨a, xs, rfl, ha, q⟩ := h
    exact ⟨_, rfl, _, _, _, _, true, rfl, .ty _, SqT.ty (st_of ha), kit_ty (by decide +kernel), true, rfl, _, rfl, a, xs, rfl, .inr (st_of ha), q⟩

theorem idx_nat {x m : Nat} (h : x < m) : idxV (.int (x : Int)) (m : Int) = true := by
  unfold idxV
  simp [h]
/-! checked_change: slots 0 states, 1 value, 2 state; cells ['states'] -/
abbrev schecked_change : Stmt := top 17
theorem scchecked_change : FnScope ["states", "value", "state"] ["states", "value"] (defScope schecked_change) := ⟨rfl, rfl, rfl, by decide +kernel, rfl, by decide +kernel, by decide +kernel⟩
def spChecked (K : PySem.W.Frag) : Sp := fun vs H Q _ => ∃ a c, vs = [.int (c.length : Nat), .ref a] ∧ H a = some (.tup (nv c)) ∧ Chg c ∧ ∀ H', Ex H H' → Q (.ref a) H'
theorem c_checked_change (T : Txt K mg) : Cal P w K mg base CX0 4 "checked_change" ["states", "value"] (spChecked K) :=
  cal_of T.checked_change scchecked_change (fun _ _ _ _ _ _ us hl => match us, hl with | [_, _], _ => rfl) (fun vs H Q E h => by obtain ⟨_, _, rfl, _⟩ := h; rfl) fun f cdv A outer s H vs Q E hr h => by
    have Cis_index := c_is_index (P := P) (w := w) (base := base) T
    refine ⟨_, pss_nox (pss_cons (ps_if (PW.pt (pw_or (pt_not (pt_val (pe_callB (isiK1 K rfl) (by rfl) T.n_isinstance (by decide +kernel) (pa_cons (pv 1) (pa_cons (pe_bltn (v := .ty "tuple") (by rfl) T.n_tuple (by decide +kernel) rfl) pa_nil))))) (pw_or (pt_cmpR op_ne (pe_callB (lenK K rfl) (by rfl) T.n_len (by decide +kernel) (pa_cons (pv 1) pa_nil)) (pv 0) (nomark _)) (pw_or1 (pt_cmpR op_eq (pv 0) pe_int (nomark _)))))) (pss_one ps_never) pss_nil)
        (pss_cons (ps_if (pt_not (pt_val (pe_callB (allK K rfl rfl) (by rfl) T.n_all (by decide +kernel) (pa_cons (pe_lc (own := [("state", 2)]) (tt := tYes) (by rfl) scchecked_change.nd (pi_tupK K rfl (pv 1)) (blkOk_by (N := ["states", "value", "state"]) (sc := defScope schecked_change) (by decide +kernel)) (fun _ _ _ _ _ => (pg_name (i := 2) scchecked_change.nd rfl (Or.inl rfl))) (fun _ _ _ _ _ => pts_nil) (fun _ _ _ _ _ => (pe_cal Cis_index (hr.mono (by decide)) pass0 (pa_cons (pv 2) (pa_cons (pv 0) pa_nil))))) pa_nil)))) (pss_one ps_never) pss_nil)
        (pss_one (ps_ret (pv 1))))), ?_⟩
    obtain ⟨a, c, rfl, ha, hc, q⟩ := h
    have h0 := hc.pos
    refine ⟨_, rfl, _, _, _, _, true, rfl, .ty _, SqT.ty (st_of ha), kit_ty (by decide +kernel), true, rfl, ?_⟩
    refine ⟨_, rfl, a, nv c, rfl, .inr (st_of ha), _, rfl, rfl, false, by simp [nv_len], ?_⟩
    refine ⟨_, rfl, rfl, false, ?_, ?_⟩
    · have : ¬ c = [] := fun z => by rw [z] at h0; cases h0
      simp [this]
    refine ite_f (next1 ?_)
    dsimp only
    refine ifs1 (not1 (tst1 (cb1 (lc_T (xs := nv c) (Ex.frame H) (fun _ => true) (fun i y => y = .bl true) (fun _ _ => False) (fun Q k => ⟨_, rfl, k H (Ex.refl H) (st_of ha)⟩) ha (by rw [nv_len]; have := hc.le; omega) (fun x => rfl)
      (fun i x H1 _ _ Qb k => tYes_go (Ex.frame H) Qb k) (fun i x H1 e hx _ Q k => ?_) (fun p H2 ys hp e hy pr => ?_)))))
    · obtain ⟨s, hs, rfl⟩ := nv_get_of hx
      refine ⟨_, rfl, _, rfl, _, _, rfl, .inl ⟨_, rfl⟩, ?_⟩
      rw [idx_nat (hc.lt s (List.mem_of_getElem? hs))]
      exact k _ H1 (Ex.refl _) (.inl rfl)
    · rw [filt_yes, nv_len] at pr
      have ey := paired_pure (v := fun _ => .bl true) pr
      refine ⟨p, (List.range c.length).map (fun _ => true), rfl, ?_, true, by simp, ?_⟩
      · rw [ey] at hy
        rw [List.map_map]
        exact sq_of hy
      · exact ⟨_, rfl, q H2 e⟩

/-! checked: slots 0 change; cells [] -/
abbrev schecked : Stmt := top 21
theorem scchecked : FnScope ["change"] ["change"] (defScope schecked) := ⟨rfl, rfl, rfl, by decide +kernel, rfl, by decide +kernel, by decide +kernel⟩
def spChecked1 : Sp := fun vs H Q _ => ∃ a c, vs = [.ref a] ∧ H a = some (.tup (nv c)) ∧ Chg c ∧ ∀ H', Ex H H' → Q (.ref a) H'
theorem c_checked (T : Txt K mg) : Cal P w K mg base CX0 5 "checked" ["change"] (spChecked1) :=
  cal_of T.checked scchecked (fun _ _ _ _ _ _ us hl => match us, hl with | [_], _ => rfl) (fun vs H Q E h => by obtain ⟨_, _, rfl, _⟩ := h; rfl) fun f cdv A outer s H vs Q E hr h => by
    have Cchecked_change := c_checked_change (P := P) (w := w) (base := base) T
    have Csize_of := c_size_of (P := P) (w := w) (base := base) T
    refine ⟨_, pss_nox (pss_one (ps_ret (pe_cal Cchecked_change (hr.mono (by decide)) pass0 (pa_cons (pe_cal Csize_of (hr.mono (by decide)) pass0 (pa_cons (pv 0) pa_nil)) (pa_cons (pv 0) pa_nil))))), ?_⟩
    obtain ⟨a, c, rfl, ha, hc, q⟩ := h
    refine ⟨_, rfl, a, nv c, rfl, ha, _, rfl, a, c, ?_, ha, hc, q⟩
    rw [nv_len]
    rfl

/-! tail_and_ring: slots 0 change, 1 longest, 2 length, 3 state, 4 steps, 5 at; cells [] -/
abbrev stail_and_ring : Stmt := top 22
theorem sctail_and_ring : FnScope ["change", "longest", "length", "state", "steps", "at"] ["change"] (defScope stail_and_ring) := ⟨rfl, rfl, rfl, by decide +kernel, rfl, by decide +kernel, by decide +kernel⟩
def spTR : Sp := fun vs H Q _ => ∃ a c t r, vs = [.ref a] ∧ H a = some (.tup (nv c)) ∧ Chg c ∧ Rh c t r ∧ RetT [.int (t : Nat), .int (r : Nat)] H Q
def kx (c : List Nat) (s : Nat) : Nat → Key := fun k => .inl (it (ap c) k s : Nat)
theorem kx_inj {c : List Nat} {s i j : Nat} : kx c s i = kx c s j ↔ it (ap c) i s = it (ap c) j s := by
  unfold kx
  constructor
  · intro h
    have := Sum.inl.inj h
    omega
  · intro h
    rw [h]
theorem c_tail_and_ring (T : Txt K mg) : Cal P w K mg base CX0 3 "tail_and_ring" ["change"] (spTR) :=
  cal_of T.tail_and_ring sctail_and_ring (fun _ _ _ _ _ _ us hl => match us, hl with | [_], _ => rfl) (fun vs H Q E h => by obtain ⟨_, _, _, _, rfl, _⟩ := h; rfl) fun f cdv A outer s H vs Q E hr h => by
    have Ccommon_multiple := c_common_multiple (P := P) (w := w) (base := base) T
    refine ⟨_, pss_nox (pss_cons (ps_asg (pe_tup (pa_cons pe_int (pa_cons pe_int pa_nil))) (pg_tupK K rfl 2 rfl (pgs_cons (pg_name (i := 1) sctail_and_ring.nd rfl (Or.inl rfl)) (pgs_cons (pg_name (i := 2) sctail_and_ring.nd rfl (Or.inl rfl)) pgs_nil))))
        (pss_cons (ps_for PassesOwn.never rfl (pi_range1 (by rfl) T.n_range (pa_cons (pe_callB (lenK K rfl) (by rfl) T.n_len (by decide +kernel) (pa_cons (pv 0) pa_nil)) pa_nil)) (pg_name (i := 3) sctail_and_ring.nd rfl (Or.inl rfl)) (pss_cons (ps_par (i := 4) (j := 5) (by rfl) sctail_and_ring.nd rfl rfl (by decide) rfl rfl (pa_cons (pe_dnewK) (pa_cons (pv 3) pa_nil)) (by rfl))
        (pss_cons (ps_while PassesOwn.never (pt_cmp (pc_dnotin (hu_of hr) (pv 5) (pv 4))) (pss_one (ps_asg (pe_tup (pa_cons (pe_callB call_lenD (by rfl) T.n_len (by decide +kernel) (pa_cons (pv 4) pa_nil)) (pa_cons (pe_ix (ixT K rfl) (pv 0) (pv 5) (fun _ _ => rfl)) pa_nil))) (pg_tupK K rfl 2 rfl (pgs_cons (pg_sub (pv 4) (pv 5) (set_dict (hu_of hr))) (pgs_cons (pg_name (i := 5) sctail_and_ring.nd rfl (Or.inl rfl)) pgs_nil))))))
        (pss_cons (ps_set (i := 1) sctail_and_ring.nd rfl (Or.inl rfl) (pe_callB (max2 rfl) (by rfl) T.n_max (by decide +kernel) (pa_cons (pv 1) (pa_cons (pe_dget (hu_of hr) (pv 4) (pv 5) (fun _ _ => rfl)) pa_nil))))
        (pss_one (ps_set (i := 2) sctail_and_ring.nd rfl (Or.inl rfl) (pe_cal Ccommon_multiple (hr.mono (by decide)) pass0 (pa_cons (pv 2) (pa_cons (pe_op op_sub (pe_callB call_lenD (by rfl) T.n_len (by decide +kernel) (pa_cons (pv 4) pa_nil)) (pe_dget (hu_of hr) (pv 4) (pv 5) (fun _ _ => rfl))) pa_nil)))))))))
        (pss_one (ps_ret (pe_tup (pa_cons (pv 1) (pa_cons (pv 2) pa_nil))))))), ?_⟩
    obtain ⟨a, c, t, r, rfl, ha, hc, hr2, q⟩ := h
    refine ⟨sz_of (by simp), fun p0 hp0 => ⟨p0, _, rfl, st_of upd_same, rfl, _, _, rfl, _, _, rfl, rfl, ?_⟩⟩
    have ep0 := Ex.new (o := .tup [.int 0, .int 1]) hp0
    dsimp only
    refine q_forR1 (n := (c.length : Int)) (fun H1 e Q q => ⟨_, rfl, a, nv c, rfl, .inr (ex_t e (ex_t ep0 (st_of ha))), by rw [nv_len]; exact q H1 (Ex.refl _)⟩) ⟨by omega, by have := hc.le; omega⟩
      (fun m σ H' => ∃ (T0 L0 : Nat) (y3 y4 y5 : Option V), σ = [some (.ref a), some (.int (T0 : Nat)), some (.int (L0 : Nat)), y3, y4, y5] ∧ Ex H H' ∧ RhoE (EB c m) T0 L0)
      (fun H1 e => ⟨0, 1, _, _, _, rfl, ep0.trans e, eb_zero c⟩) ?_ ?_
    · rintro m σ H' hm ⟨T0, L0, y3, y4, y5, rfl, e0, hE⟩
      have hm : m < c.length := by omega
      have hlt : ∀ k, it (ap c) k m < c.length := it_lt (chg_ap hc) hm
      intro d hd
      have e1 : Ex H (upd H' d (.dK [])) := e0.trans (Ex.new hd)
      have hd0 : H d = none := fresh_back e0 hd
      have had : a ≠ d := ne_of_none ha hd0
      refine ⟨_, rfl, _, _, rfl, ?_⟩
      refine ⟨fun k σ H2 => ∃ n, k = c.length - n ∧ n ≤ c.length ∧ σ = [some (.ref a), some (.int (T0 : Nat)), some (.int (L0 : Nat)), some (.int (m : Nat)), some (.ref d), some (.int (it (ap c) n m : Nat))] ∧ Ex H H2 ∧ H2 d = some (.dK (sqd (kx c m) n)) ∧ Dist (fun k => it (ap c) k m) n,
        ⟨c.length, 0, rfl, by omega, rfl, e1, upd_same, fun i j h1 h2 => absurd h2 (Nat.not_lt_zero _)⟩, ?_⟩
      rintro k σ H2 ⟨n, rfl, hn, rfl, e2, hd2, hD⟩
      by_cases hin : ∀ j, j < n → it (ap c) j m ≠ it (ap c) n m
      · have hn2 : n < c.length := by
          have := dist_le (hD.succ hin) (fun i _ => hlt i)
          omega
        refine ⟨_, rfl, _, rfl, d, none, rfl, ?_, true, rfl, ?_⟩
        · have := DGet.k (k := kx c m n) hd2
          rw [sqd_none (fun j hj z => hin j hj (kx_inj.mp z))] at this
          exact this
        refine ⟨fun σ H3 => σ = [some (.ref a), some (.int (T0 : Nat)), some (.int (L0 : Nat)), some (.int (m : Nat)), some (.ref d), some (.int (it (ap c) (n + 1) m : Nat))] ∧ Ex H H3 ∧ H3 d = some (.dK (sqd (kx c m) (n + 1))), ?_, ?_⟩
        · rintro σ H3 ⟨h1, h2, h3⟩
          exact ⟨c.length - (n + 1), by omega, n + 1, rfl, hn2, h1, h2, h3, hD.succ hin⟩
        · refine ⟨_, rfl, d, _, rfl, hd2, _, rfl, _, rfl, a, nv c, _, _, rfl, rfl, st_of (e2 _ _ ha), nv_at (ap_get (hlt n)), sz_of (by simp), fun p hp => ?_⟩
          have hpd : d ≠ p := ne_of_none hd2 hp
          refine ⟨p, _, rfl, st_of upd_same, rfl, _, _, rfl, ?_⟩
          refine ⟨_, rfl, _, rfl, d, _, rfl, DPut.k (k := kx c m n) ((upd_ne hpd).trans hd2) (by rw [sqd_len]; exact sz_lt (by have := hc.le; omega)), _, _, rfl, rfl, rfl, ?_, ?_⟩
          · exact Ex.mut (e2.trans (Ex.new hp)) hd0
          · rw [upd_same]
            congr 2
            rw [sqd_len]
            exact sqd_put (x := kx c m) (fun j hj z => hin j hj (kx_inj.mp z))
      · obtain ⟨j, hj⟩ : ∃ j, j < n ∧ it (ap c) j m = it (ap c) n m := by
          refine Classical.byContradiction fun z => hin fun j hj z2 => z ⟨j, hj, z2⟩
        have hg : DGet H2 d (.int (it (ap c) n m : Nat)) (some (.int (j : Nat))) := by
          have := DGet.k (k := kx c m n) hd2
          rw [show kx c m n = kx c m j from (kx_inj.mpr hj.2).symm, sqd_some (fun i j a b z => hD i j a b (kx_inj.mp z)) hj.1, show kx c m j = kx c m n from kx_inj.mpr hj.2] at this
          exact this
        refine ⟨_, rfl, _, rfl, d, _, rfl, hg, false, rfl, ?_⟩
        refine ⟨_, rfl, _, rfl, _, rfl, d, _, rfl, hg, _, _, rfl, ?_⟩
        rw [maxc]
        refine ⟨_, rfl, _, rfl, d, _, rfl, hd2, _, rfl, _, rfl, d, _, rfl, hg, _, _, rfl, rfl, ?_⟩
        dsimp only
        rw [sqd_len, show ((n : Int) - (j : Int)) = ((n - j : Nat) : Int) by omega]
        have hrho := first_rep (it_det (ap c) m) hD hj.1 hj.2
        have hE2 := eb_succ hE hrho
        have hL0 : L0 ≤ 6561 := by
          have := Nat.le_of_dvd hr2.rho.1 (eb_dvd hE (by omega) hr2.rho)
          have := hr2.rl
          omega
        have hcl := hc.le
        exact ⟨L0, n - j, rfl, by omega, by omega, by omega, _, _, _, _, _, rfl, e2, hE2⟩
    · rintro σ H' ⟨T0, L0, y3, y4, y5, rfl, e0, hE⟩
      obtain ⟨rfl, rfl⟩ := eb_all hE hr2.rho
      exact ⟨_, rfl, _, rfl, sz_of (by simp), fun p hp => q p _ (e0.trans (Ex.new hp)) upd_same⟩

/-! tail: slots 0 change; cells [] -/
abbrev stail : Stmt := top 23
theorem sctail : FnScope ["change"] ["change"] (defScope stail) := ⟨rfl, rfl, rfl, by decide +kernel, rfl, by decide +kernel, by decide +kernel⟩
def spTail : Sp := fun vs H Q _ => ∃ a c t r, vs = [.ref a] ∧ H a = some (.tup (nv c)) ∧ Chg c ∧ Rh c t r ∧ RetV (.int (t : Nat)) H Q
theorem c_tail (T : Txt K mg) : Cal P w K mg base CX0 6 "tail" ["change"] (spTail) :=
  cal_of T.tail sctail (fun _ _ _ _ _ _ us hl => match us, hl with | [_], _ => rfl) (fun vs H Q E h => by obtain ⟨_, _, _, _, rfl, _⟩ := h; rfl) fun f cdv A outer s H vs Q E hr h => by
    have Cchecked := c_checked (P := P) (w := w) (base := base) T
    have Ctail_and_ring := c_tail_and_ring (P := P) (w := w) (base := base) T
    refine ⟨_, pss_nox (pss_one (ps_ret (pe_ix (ixT K rfl) (pe_cal Ctail_and_ring (hr.mono (by decide)) pass0 (pa_cons (pe_cal Cchecked (hr.mono (by decide)) pass0 (pa_cons (pv 0) pa_nil)) pa_nil)) pe_int (fun _ _ => rfl)))), ?_⟩
    obtain ⟨a, c, t, r, rfl, ha, hc, hr2, q⟩ := h
    exact ⟨_, rfl, a, c, rfl, ha, hc, fun H1 e1 => ⟨a, c, t, r, rfl, e1 _ _ ha, hc, hr2, fun p H2 e2 hp => ⟨p, _, 0, _, rfl, rfl, st_of hp, rfl, q _ (e1.trans e2)⟩⟩⟩
/-! ring: slots 0 change; cells [] -/
abbrev sring : Stmt := top 24
theorem scring : FnScope ["change"] ["change"] (defScope sring) := ⟨rfl, rfl, rfl, by decide +kernel, rfl, by decide +kernel, by decide +kernel⟩
def spRing : Sp := fun vs H Q _ => ∃ a c t r, vs = [.ref a] ∧ H a = some (.tup (nv c)) ∧ Chg c ∧ Rh c t r ∧ RetV (.int (r : Nat)) H Q
theorem c_ring (T : Txt K mg) : Cal P w K mg base CX0 6 "ring" ["change"] (spRing) :=
  cal_of T.ring scring (fun _ _ _ _ _ _ us hl => match us, hl with | [_], _ => rfl) (fun vs H Q E h => by obtain ⟨_, _, _, _, rfl, _⟩ := h; rfl) fun f cdv A outer s H vs Q E hr h => by
    have Cchecked := c_checked (P := P) (w := w) (base := base) T
    have Ctail_and_ring := c_tail_and_ring (P := P) (w := w) (base := base) T
    refine ⟨_, pss_nox (pss_one (ps_ret (pe_ix (ixT K rfl) (pe_cal Ctail_and_ring (hr.mono (by decide)) pass0 (pa_cons (pe_cal Cchecked (hr.mono (by decide)) pass0 (pa_cons (pv 0) pa_nil)) pa_nil)) pe_int (fun _ _ => rfl)))), ?_⟩
    obtain ⟨a, c, t, r, rfl, ha, hc, hr2, q⟩ := h
    exact ⟨_, rfl, a, c, rfl, ha, hc, fun H1 e1 => ⟨a, c, t, r, rfl, e1 _ _ ha, hc, hr2, fun p H2 e2 hp => ⟨p, _, 1, _, rfl, rfl, st_of hp, rfl, q _ (e1.trans e2)⟩⟩⟩
end
end Kx
namespace Kx
open PySem PySem.Spec PyProof.Rows L2 Evl

/-! ### data: what == asks -/
def fit (n : Nat) (d : PyData) : Prop := d.canLay0 = true ∧ d.depth ≤ n
theorem fit.mono {n m : Nat} {d : PyData} (h : fit n d) (k : n ≤ m) : fit m d := ⟨h.1, Nat.le_trans h.2 k⟩
theorem fit_non {n : Nat} : fit n .none := ⟨by simp [PyData.canLay0], by simp [PyData.depth]⟩
theorem fit_int {n : Nat} (i : Int) : fit n (.int i) := ⟨by simp [PyData.canLay0], by simp [PyData.depth]⟩
theorem fit_bool {n : Nat} (i : Bool) : fit n (.bool i) := ⟨by simp [PyData.canLay0], by simp [PyData.depth]⟩
theorem fit_all {n : Nat} : ∀ {ds : List PyData}, (∀ d ∈ ds, fit n d) → PyData.canLayAll0 ds = true ∧ PyData.depthAll ds ≤ n
  | [], _ => ⟨by simp [PyData.canLayAll0], by simp [PyData.depthAll]⟩
  | d :: ds, h => by
    have h1 := h d List.mem_cons_self
    have h2 := fit_all (ds := ds) fun e he => h e (List.mem_cons_of_mem _ he)
    refine ⟨?_, ?_⟩
    · simp only [PyData.canLayAll0, h1.1, h2.1, Bool.and_self]
    · simp only [PyData.depthAll]
      have := h1.2
      have := h2.2
      omega
theorem fit_list {n : Nat} {ds : List PyData} (h : ∀ d ∈ ds, fit n d) : fit (n + 1) (.list ds) := by
  have k := fit_all h
  exact ⟨by simp only [PyData.canLay0, k.1], by simp only [PyData.depth]; have := k.2; omega⟩
theorem fit_tup {n : Nat} {ds : List PyData} (h : ∀ d ∈ ds, fit n d) : fit (n + 1) (.tuple ds) := by
  have k := fit_all h
  exact ⟨by simp only [PyData.canLay0, k.1], by simp only [PyData.depth]; have := k.2; omega⟩
theorem fit.shaped {n : Nat} {d : PyData} (h : fit n d) (k : n ≤ 64) : SeqAt.shaped d = true := by
  unfold SeqAt.shaped
  rw [h.1, decide_eq_true (Nat.le_trans h.2 k)]
  rfl
def tD (c : List Nat) : PyData := .tuple (c.map fun i : Nat => .int (i : Int))
theorem fit_tD (c : List Nat) : fit 1 (tD c) := fit_tup fun d hd => by
  obtain ⟨i, _, rfl⟩ := List.mem_map.mp hd
  exact fit_int _
section
variable {K : PySem.W.Frag} {H : Hp}
theorem dpAll_of : ∀ {vs : List V} {ds : List PyData}, Paired (Dp K H) vs ds → DpAll K H vs ds
  | _, _, .nil => .nil
  | _, _, .cons h t => .cons h (dpAll_of t)
theorem dp_ints : ∀ is : List Int, DpAll K H (is.map V.int) (is.map PyData.int)
  | [] => .nil
  | i :: is => .cons (.int i) (dp_ints is)
theorem dp_nvs : ∀ is : List Nat, DpAll K H (nv is) (is.map fun i : Nat => PyData.int (i : Int))
  | [] => .nil
  | i :: is => .cons (.int _) (dp_nvs is)
theorem dp_tD {a : Addr} {c : List Nat} (h : SqT K H a (nv c)) : Dp K H (.ref a) (tD c) := .tup h (dp_nvs c)
theorem dpAll_len : ∀ {vs : List V} {ds : List PyData}, DpAll K H vs ds → vs.length = ds.length
  | _, _, .nil => rfl
  | _, _, .cons h t => by simp [dpAll_len t]
end
theorem eqv_empty (ds : List PyData) : PyData.eqv (.list ds) (.list []) = ds.isEmpty := by
  cases ds <;> simp [PyData.eqv, PyData.eqvAll]
theorem eqvAll_ints : ∀ xs ys : List Nat, PyData.eqvAll (xs.map fun i : Nat => PyData.int (i : Int)) (ys.map fun i : Nat => PyData.int (i : Int)) = decide (xs = ys)
  | [], [] => by simp [PyData.eqvAll]
  | [], y :: ys => by simp [PyData.eqvAll]
  | x :: xs, [] => by simp [PyData.eqvAll]
  | x :: xs, y :: ys => by
    have ih := eqvAll_ints xs ys
    rw [List.map_cons, List.map_cons, PyData.eqvAll, ih]
    simp only [PyData.eqv]
    by_cases h : x = y <;> simp [h]
    intro h2
    omega
theorem eqv_tD (xs ys : List Nat) : PyData.eqv (tD xs) (tD ys) = decide (xs = ys) := by
  unfold tD
  rw [PyData.eqv]
  exact eqvAll_ints xs ys
/-- an int, or a tuple of ints -/
def Itm (H : Hp) (x : V) : Prop := (∃ i, x = .int i) ∨ ∃ (q : Addr) (ns : List Int), x = .ref q ∧ H q = some (.tup (ns.map V.int))
theorem Itm.tup {H H' : Hp} (k : ∀ a xs, H a = some (.tup xs) → H' a = some (.tup xs)) {x : V} (h : Itm H x) : Itm H' x := h.imp id fun ⟨q, ns, h1, h2⟩ => ⟨q, ns, h1, k _ _ h2⟩
theorem itm_dp {K : PySem.W.Frag} {H : Hp} {x : V} (h : Itm H x) : ∃ d, Dp K H x d ∧ fit 1 d := by
  rcases h with ⟨i, rfl⟩ | ⟨q, ns, rfl, h⟩
  · exact ⟨_, .int i, fit_int i⟩
  · exact ⟨_, .tup (st_of h) (dp_ints ns), fit_tup fun d hd => by obtain ⟨i, _, rfl⟩ := List.mem_map.mp hd; exact fit_int _⟩
theorem itms_dp {K : PySem.W.Frag} {H : Hp} : ∀ {xs : List V}, (∀ x ∈ xs, Itm H x) → ∃ ds, DpAll K H xs ds ∧ ∀ d ∈ ds, fit 1 d
  | [], _ => ⟨[], .nil, fun d h => nomatch h⟩
  | x :: xs, h => by
    obtain ⟨d, h1, h2⟩ := itm_dp (K := K) (h x List.mem_cons_self)
    obtain ⟨ds, h3, h4⟩ := itms_dp (K := K) (xs := xs) fun y hy => h y (List.mem_cons_of_mem _ hy)
    refine ⟨d :: ds, .cons h1 h3, fun e he => ?_⟩
    rcases List.mem_cons.mp he with rfl | he
    · exact h2
    · exact h4 e he
/-- xs != [] of a list of such -/
theorem ne_nil {K : PySem.W.Frag} {H : Hp} {a p : Addr} {xs : List V} {Q : VK} (ha : H a = some (.lst xs)) (hx : ∀ x ∈ xs, Itm H x) (hp : H p = some (.lst [])) (q : Q (.bl (!xs.isEmpty)) H) : rNeD K (.ref a) (.ref p) H Q := by
  obtain ⟨ds, h1, h2⟩ := itms_dp (K := K) hx
  refine ⟨.list ds, .list [], .lst (sq_of ha) h1, .lst (sq_of hp) .nil, (fit_list h2).shaped (by decide), (fit_list (n := 0) (ds := []) (fun d h => by cases h)).shaped (by decide), ?_⟩
  rw [eqv_empty]
  have : ds.isEmpty = xs.isEmpty := by
    have := dpAll_len h1
    cases xs <;> cases ds <;> simp_all
  rw [this]
  exact q
/-! ### the deal -/
section
variable {d l : Addr} {H H' : Hp}
theorem Fd.setL (e : Fd d l H H') (hd : Deal d l H) {cs : List Int} (h1 : cs.length ≤ 100) (h2 : ∀ c ∈ cs, 0 ≤ c) : Fd d l H (upd H' l (.lst (cs.map V.int))) := by
  obtain ⟨h0, b, cs0, k1, k2, k3, k4, k5⟩ := e.deal hd
  refine ⟨fun _ => ⟨h0, b, cs, by rw [upd_ne h0]; exact k1, upd_same, h1, h2, k5⟩, fun a xs h => ?_, fun a o n1 n2 h => ?_⟩
  · have h' := e.tup _ _ h
    rw [upd_ne]
    · exact h'
    · rintro rfl
      rw [h'] at k2; cases k2
  · rw [upd_ne n2]
    exact e.keep _ _ n1 n2 h
theorem Fd.setD (e : Fd d l H H') (hd : Deal d l H) {b : Int} (hb : 0 ≤ b) : Fd d l H (upd H' d (.lst [.ref l, .int b])) := by
  obtain ⟨h0, b0, cs0, k1, k2, k3, k4, k5⟩ := e.deal hd
  refine ⟨fun _ => ⟨h0, b, cs0, upd_same, by rw [upd_ne h0.symm]; exact k2, k3, k4, hb⟩, fun a xs h => ?_, fun a o n1 n2 h => ?_⟩
  · have h' := e.tup _ _ h
    rw [upd_ne]
    · exact h'
    · rintro rfl
      rw [h'] at k1; cases k1
  · rw [upd_ne n1]
    exact e.keep _ _ n1 n2 h
theorem Fd.exd {H2 : Hp} (e : Fd d l H H') (x : Ex H' H2) : Fd d l H H2 := e.trans (.of_ex x)
end
end Kx
namespace Kx
open PySem PySem.Spec PyProof.Rows L2 Evl

section
variable {P : Program} {w : World} {K : PySem.W.Frag} {mg : Str → Option Value} {base : Heap}

/-! ### draws -/
/-! _law_any: slots 0 _law_deal, 1 _law_bound, 2 _law_rest; cells [] -/
abbrev s_law_any : Stmt := top 33
theorem sc_law_any : FnScope ["_law_deal", "_law_bound", "_law_rest"] ["_law_deal", "_law_bound"] (defScope s_law_any) := ⟨rfl, rfl, rfl, by decide +kernel, rfl, by decide +kernel, by decide +kernel⟩
def spAny : Sp := fun vs H Q _ => ∃ d l n, vs = [.ref d, .int (n : Nat)] ∧ 0 < n ∧ n < 2 ^ 200 ∧ Deal d l H ∧ ∀ (r : Nat) H', r < n → Fd d l H H' → Q (.int (r : Nat)) H'
theorem modr {x : Int} {n : Nat} (h : 0 < n) : ∃ r : Nat, x % (n : Int) = (r : Int) ∧ r < n := by
  have h1 := Int.emod_nonneg x (show (n : Int) ≠ 0 by omega)
  have h2 := Int.emod_lt_of_pos x (show (0 : Int) < n by omega)
  exact ⟨(x % n).toNat, by omega, by omega⟩
theorem ints_last (cs : List Int) (h : cs ≠ []) : ∃ c ∈ cs, atI (cs.map V.int) (-1) = some (.int c) ∧ (cs.map V.int)[(cs.map V.int).length - 1]? = some (.int c) := by
  refine ⟨cs.getLast h, List.getLast_mem h, ?_, ?_⟩
  · have e : cs.map V.int = cs.dropLast.map V.int ++ [.int (cs.getLast h)] := by
      rw [← List.map_singleton, ← List.map_append, List.dropLast_concat_getLast]
    rw [e]
    exact atI_last _ _
  · rw [List.length_map, List.getElem?_map, ← List.getLast?_eq_getElem?, List.getLast?_eq_some_getLast h]
    rfl
theorem ints_itm (H : Hp) (cs : List Int) : ∀ x ∈ cs.map V.int, Itm H x := fun x hx => by
  obtain ⟨i, _, rfl⟩ := List.mem_map.mp hx
  exact .inl ⟨i, rfl⟩
theorem c__law_any (T : Txt K mg) : Cal P w K mg base CX0 1 "_law_any" ["_law_deal", "_law_bound"] (spAny) :=
  cal_of T._law_any sc_law_any (fun _ _ _ _ _ _ us hl => match us, hl with | [_, _], _ => rfl) (fun vs H Q E h => by obtain ⟨_, _, _, rfl, _⟩ := h; rfl) fun f cdv A outer s H vs Q E hr h => by
    refine ⟨_, pss_nox (pss_cons (ps_while PassesOwn.never (PW.pt (pw_and (pt_cmpR (neDK K rfl hr.units) (pe_ix (ixL K rfl) (pv 0) pe_int (fun _ _ => rfl)) (pe_lst pa_nil) (nomark _)) (pw_and1 (pt_cmpR op_eq (pe_ix (ixL K rfl) (pe_ix (ixL K rfl) (pv 0) pe_int (fun _ _ => rfl)) (pe_un un_neg pe_int) (fun _ _ => rfl)) pe_int (nomark _))))) (pss_one (ps_expr (pe_bm0 PySem.F.plainAttrs_list PySem.F.slot_list_pop PySem.F.type_list_pop mt_pop (pe_ix (ixL K rfl) (pv 0) pe_int (fun _ _ => rfl))))))
        (pss_cons (ps_if (pt_cmpR (neDK K rfl hr.units) (pe_ix (ixL K rfl) (pv 0) pe_int (fun _ _ => rfl)) (pe_lst pa_nil) (nomark _)) (pss_cons (ps_set (i := 2) sc_law_any.nd rfl (Or.inl rfl) (pe_callTy int1 (by rfl) T.n_int (by decide +kernel) (pa_cons (pe_bm0 PySem.F.plainAttrs_list PySem.F.slot_list_pop PySem.F.type_list_pop mt_pop (pe_ix (ixL K rfl) (pv 0) pe_int (fun _ _ => rfl))) pa_nil)))
        (pss_cons (ps_expr (pe_bm PySem.F.plainAttrs_list PySem.F.slot_list_append PySem.F.type_list_append mt_append (pe_ix (ixL K rfl) (pv 0) pe_int (fun _ _ => rfl)) (pa_cons (pe_op op_fdivW (pv 2) (pv 1)) pa_nil)))
        (pss_one (ps_ret (pe_op op_mod (pv 2) (pv 1)))))) pss_nil)
        (pss_cons (ps_asg (pe_op op_mod (pe_callTy int1 (by rfl) T.n_int (by decide +kernel) (pa_cons (pe_op op_add (pe_op op_mul (pe_ix (ixL K rfl) (pv 0) pe_int (fun _ _ => rfl)) pe_int) pe_int) pa_nil)) pe_int) (pg_sub (pv 0) pe_int set_list))
        (pss_one (ps_ret (pe_op op_mod (pe_callTy int1 (by rfl) T.n_int (by decide +kernel) (pa_cons (pe_op op_fdiv (pe_ix (ixL K rfl) (pv 0) pe_int (fun _ _ => rfl)) pe_int) pa_nil)) (pv 1))))))), ?_⟩
    obtain ⟨d, l, n, rfl, hn, hn2, hd, q⟩ := h
    refine ⟨fun m σ H' => σ = [some (.ref d), some (.int (n : Nat)), none] ∧ Fd d l H H' ∧ ∃ (b : Int) (cs : List Int), H' d = some (.lst [.ref l, .int b]) ∧ H' l = some (.lst (cs.map V.int)) ∧ cs.length ≤ 100 ∧ (∀ c ∈ cs, 0 ≤ c) ∧ 0 ≤ b ∧ m = cs.length, ?_, ?_⟩
    · obtain ⟨h0, b, cs, k1, k2, k3, k4, k5⟩ := id hd
      exact ⟨cs.length, rfl, Fd.refl H, b, cs, k1, k2, k3, k4, k5, rfl⟩
    rintro m σ H' ⟨rfl, e, b, cs, k1, k2, k3, k4, k5, rfl⟩
    have hdl : d ≠ l := hd.1
    refine ⟨_, rfl, d, _, 0, _, rfl, rfl, sq_of k1, rfl, by decide, fun p hp => ?_⟩
    have ep : Ex H' (upd H' p (.lst [])) := Ex.new hp
    refine ne_nil (ep _ _ k2) (ints_itm _ _) upd_same ⟨_, rfl, ?_⟩
    have after : ∀ H2, Ex H' H2 → Fd d l H H2 → tSeq (tIfS (tTest (tOp (rNeD K) (tOp (rIxL K) (tVar 0) (tC (.int 0))) (tLst tNil)))
        (tSeq (tAsg (tCB rInt1 (tCons (tBM0 K "list" rPop (tOp (rIxL K) (tVar 0) (tC (.int 0)))) tNil)) (gName 2))
          (tSeq (tDrop (tBM K "list" rAppend (tOp (rIxL K) (tVar 0) (tC (.int 0))) (tCons (tOp (rI CDivW fun i j => .int (i / j)) (tVar 2) (tVar 1)) tNil)))
            (tRet (tOp (rI (fun _ j => 0 < j) fun i j => .int (i % j)) (tVar 2) (tVar 1))))) tNext)
        (tSeq (tAsg (tOp (rI (fun _ j => 0 < j) fun i j => .int (i % j)) (tCB rInt1 (tCons (tOp (rI0 fun i j => .int (i + j)) (tOp (rI CMul fun i j => .int (i * j)) (tOp (rIxL K) (tVar 0) (tC (.int 1))) (tC (.int 40693))) (tC (.int 71))) tNil)) (tC (.int 2147483647))) (gSub (tVar 0) (tC (.int 1)) rSetL))
          (tRet (tOp (rI (fun _ j => 0 < j) fun i j => .int (i % j)) (tCB rInt1 (tCons (tOp (rI CDiv fun i j => .int (i / j)) (tOp (rIxL K) (tVar 0) (tC (.int 1))) (tC (.int 64))) tNil)) (tVar 1))))
        { nx := fun x H' => Q V.non H', rt := Q } [some (.ref d), some (.int (n : Nat)), none] H2 := by
      intro H2 e2 f2
      refine ⟨_, rfl, d, _, 0, _, rfl, rfl, sq_of (e2 _ _ k1), rfl, by decide, fun p hp => ?_⟩
      have ep : Ex H2 (upd H2 p (.lst [])) := Ex.new hp
      refine ne_nil (ep _ _ (e2 _ _ k2)) (ints_itm _ _) upd_same ⟨_, rfl, ?_⟩
      by_cases hc : cs = []
      · subst hc
        refine ⟨_, rfl, d, _, 1, _, rfl, rfl, sq_of (ep _ _ (e2 _ _ k1)), rfl, b, _, rfl, rfl, .inr ⟨by omega, by omega⟩, _, _, rfl, rfl, .inl ⟨_, rfl, _, _, rfl, rfl, by omega, ?_⟩⟩
        have hb2 : 0 ≤ (b * 40693 + 71) % 2147483647 := Int.emod_nonneg _ (by omega)
        refine ⟨_, rfl, d, _, 1, 1, rfl, rfl, ep _ _ (e2 _ _ k1), rfl, ?_⟩
        have f3 : Fd d l H (upd (upd H2 p (.lst [])) d (.lst [.ref l, .int ((b * 40693 + 71) % 2147483647)])) := (f2.exd ep).setD hd hb2
        obtain ⟨r, hr1, hr2⟩ := modr (x := (b * 40693 + 71) % 2147483647 / 64) hn
        refine ⟨_, rfl, d, _, 1, _, rfl, rfl, sq_of upd_same, rfl, _, _, rfl, rfl, ⟨by omega, by omega⟩, .inl ⟨_, rfl, _, rfl, _, _, rfl, rfl, by omega, ?_⟩⟩
        dsimp only
        rw [hr1]
        exact q r _ hr2 f3
      · obtain ⟨c, hc1, hc2, hc3⟩ := ints_last cs hc
        rw [show (!(cs.map V.int).isEmpty) = true by cases cs; exact absurd rfl hc; rfl]
        refine ⟨_, rfl, d, _, 0, _, rfl, rfl, sq_of (ep _ _ (e2 _ _ k1)), rfl, .inl ⟨rfl, _, sq_of (ep _ _ (e2 _ _ k2))⟩, l, _, _, rfl, rfl, ep _ _ (e2 _ _ k2), hc3, .inl ⟨_, rfl, ?_⟩⟩
        rw [← List.map_dropLast]
        have hdr : ∀ x ∈ cs.dropLast, 0 ≤ x := fun x hx => k4 x (List.dropLast_subset _ hx)
        have hdl2 : cs.dropLast.length + 1 ≤ 100 := by
          rw [List.length_dropLast]
          have := List.length_pos_of_mem hc1
          omega
        have f3 : Fd d l H (upd (upd H2 p (.lst [])) l (.lst (cs.dropLast.map V.int))) := (f2.exd ep).setL hd (by omega) hdr
        have k6 : (upd (upd H2 p (.lst [])) l (.lst (cs.dropLast.map V.int))) d = some (.lst [.ref l, .int b]) := by rw [upd_ne hdl]; exact ep _ _ (e2 _ _ k1)
        refine ⟨_, rfl, d, _, 0, _, rfl, rfl, sq_of k6, rfl, .inl ⟨rfl, _, sq_of upd_same⟩, _, rfl, _, rfl, _, _, rfl, rfl, ⟨by omega, Nat.lt_trans (log2_small (k := 200) (by simpa using hn2) (by decide)) (by decide)⟩, l, _, _, rfl, rfl, upd_same, ?_, ?_⟩
        · rw [List.length_map]; exact sz_lt (by omega)
        have f4 : Fd d l H (upd (upd (upd H2 p (.lst [])) l (.lst (cs.dropLast.map V.int))) l (.lst ((cs.dropLast ++ [c / (n : Int)]).map V.int))) := f3.setL hd (by rw [List.length_append]; simpa using hdl2) (fun x hx => by
          rcases List.mem_append.mp hx with hx | hx
          · exact hdr x hx
          · rw [List.mem_singleton.mp hx]
            exact Int.ediv_nonneg (k4 c hc1) (by omega))
        obtain ⟨r, hr1, hr2⟩ := modr (x := c) hn
        refine ⟨_, rfl, _, rfl, _, _, rfl, rfl, by omega, ?_⟩
        dsimp only
        rw [hr1]
        rw [List.map_append] at f4
        exact q r _ hr2 f4
    by_cases hc : cs = []
    · subst hc
      exact after _ ep (e.exd ep)
    · obtain ⟨c, hc1, hc2, hc3⟩ := ints_last cs hc
      rw [show (!(cs.map V.int).isEmpty) = true by cases cs; exact absurd rfl hc; rfl]
      refine ⟨_, rfl, d, _, 0, _, rfl, rfl, sq_of (ep _ _ k1), rfl, 1, rfl, l, _, -1, _, rfl, rfl, sq_of (ep _ _ k2), hc2, rfl, _, rfl, ?_⟩
      by_cases h0 : c = 0
      · subst h0
        refine ⟨fun σ H2 => σ = [some (.ref d), some (.int (n : Nat)), none] ∧ Fd d l H H2 ∧ H2 d = some (.lst [.ref l, .int b]) ∧ H2 l = some (.lst (cs.dropLast.map V.int)), ?_, ?_⟩
        · rintro σ H2 ⟨h1, h2, h3, h4⟩
          refine ⟨cs.dropLast.length, ?_, h1, h2, b, cs.dropLast, h3, h4, ?_, fun x hx => k4 x (List.dropLast_subset _ hx), k5, rfl⟩
          · rw [List.length_dropLast]
            have := List.length_pos_of_mem hc1
            omega
          · rw [List.length_dropLast]; omega
        · refine ⟨_, rfl, d, _, 0, _, rfl, rfl, sq_of (ep _ _ k1), rfl, .inl ⟨rfl, _, sq_of (ep _ _ k2)⟩, l, _, _, rfl, rfl, ep _ _ k2, hc3, ?_⟩
          rw [← List.map_dropLast]
          exact ⟨rfl, (e.exd ep).setL hd (by rw [List.length_dropLast]; omega) (fun x hx => k4 x (List.dropLast_subset _ hx)), by rw [upd_ne hdl]; exact ep _ _ k1, upd_same⟩
      · rw [show decide (V.int c = V.int 0) = false by simp [h0]]
        exact after _ ep (e.exd ep)
end
end Kx
namespace Kx
open PySem PySem.Spec PyProof.Rows L2 Evl

section
variable {P : Program} {w : World} {K : PySem.W.Frag} {mg : Str → Option Value} {base : Heap}

/-! _law_of: slots 0 _law_deal, 1 _law_some; cells [] -/
abbrev s_law_of : Stmt := top 34
theorem sc_law_of : FnScope ["_law_deal", "_law_some"] ["_law_deal", "_law_some"] (defScope s_law_of) := ⟨rfl, rfl, rfl, by decide +kernel, rfl, by decide +kernel, by decide +kernel⟩
def spOf : Sp := fun vs H Q _ => ∃ d l a xs, vs = [.ref d, .ref a] ∧ Deal d l H ∧ H a = some (.lst xs) ∧ a ≠ d ∧ a ≠ l ∧ xs ≠ [] ∧ xs.length ≤ 1000 ∧ ∀ v H', v ∈ xs → Fd d l H H' → Q v H'
theorem len_pos {α : Type} {xs : List α} (h : xs ≠ []) : 0 < xs.length := by
  cases xs
  · exact absurd rfl h
  · simp
theorem c__law_of (T : Txt K mg) : Cal P w K mg base CX0 2 "_law_of" ["_law_deal", "_law_some"] (spOf) :=
  cal_of T._law_of sc_law_of (fun _ _ _ _ _ _ us hl => match us, hl with | [_, _], _ => rfl) (fun vs H Q E h => by obtain ⟨_, _, _, _, rfl, _⟩ := h; rfl) fun f cdv A outer s H vs Q E hr h => by
    have C_law_any := c__law_any (P := P) (w := w) (base := base) T
    refine ⟨_, pss_nox (pss_one (ps_ret (pe_ix (ixL K rfl) (pv 1) (pe_cal C_law_any (hr.mono (by decide)) pass0 (pa_cons (pv 0) (pa_cons (pe_callB (lenK K rfl) (by rfl) T.n_len (by decide +kernel) (pa_cons (pv 1) pa_nil)) pa_nil))) (fun _ _ => rfl)))), ?_⟩
    obtain ⟨d, l, a, xs, rfl, hd, ha, n1, n2, hx, hz, q⟩ := h
    refine ⟨_, rfl, _, rfl, _, rfl, a, xs, rfl, .inl (sq_of ha), d, l, xs.length, rfl, len_pos hx, Nat.lt_of_le_of_lt hz (by decide), hd, fun r H' hr2 f => ?_⟩
    exact ⟨a, xs, r, _, rfl, rfl, sq_of (f.keep _ _ n1 n2 ha), atI_nat (List.getElem?_eq_getElem hr2), q _ _ (List.getElem_mem _) f⟩

/-! _law_mixed: slots 0 _law_deal, 1 _law_some, 2 _law_left, 3 _law_found; cells [] -/
abbrev s_law_mixed : Stmt := top 35
theorem sc_law_mixed : FnScope ["_law_deal", "_law_some", "_law_left", "_law_found"] ["_law_deal", "_law_some"] (defScope s_law_mixed) := ⟨rfl, rfl, rfl, by decide +kernel, rfl, by decide +kernel, by decide +kernel⟩
def spMixed : Sp := fun vs H Q _ => ∃ d l a xs, vs = [.ref d, .ref a] ∧ Deal d l H ∧ H a = some (.lst xs) ∧ a ≠ d ∧ a ≠ l ∧ xs.length ≤ 1000 ∧ (∀ x ∈ xs, Itm H x) ∧
  ∀ p ys H', p ≠ d → p ≠ l → H p = none → Fd d l H H' → H' p = some (.lst ys) → ys.length = xs.length → (∀ y ∈ ys, y ∈ xs) → Q (.ref p) H'
theorem c__law_mixed (T : Txt K mg) : Cal P w K mg base CX0 2 "_law_mixed" ["_law_deal", "_law_some"] (spMixed) :=
  cal_of T._law_mixed sc_law_mixed (fun _ _ _ _ _ _ us hl => match us, hl with | [_, _], _ => rfl) (fun vs H Q E h => by obtain ⟨_, _, _, _, rfl, _⟩ := h; rfl) fun f cdv A outer s H vs Q E hr h => by
    have C_law_any := c__law_any (P := P) (w := w) (base := base) T
    refine ⟨_, pss_nox (pss_cons (ps_par (i := 2) (j := 3) (by rfl) sc_law_mixed.nd rfl rfl (by decide) rfl rfl (pa_cons (pe_callTy (lstK K rfl) (by rfl) T.n_list (by decide +kernel) (pa_cons (pv 1) pa_nil)) (pa_cons (pe_lst pa_nil) pa_nil)) (by rfl))
        (pss_cons (ps_while PassesOwn.never (pt_cmpR (neDK K rfl hr.units) (pv 2) (pe_lst pa_nil) (nomark _)) (pss_one (ps_expr (pe_bm PySem.F.plainAttrs_list PySem.F.slot_list_append PySem.F.type_list_append mt_append (pv 3) (pa_cons (pe_bm PySem.F.plainAttrs_list PySem.F.slot_list_pop PySem.F.type_list_pop mt_popAt (pv 2) (pa_cons (pe_cal C_law_any (hr.mono (by decide)) pass0 (pa_cons (pv 0) (pa_cons (pe_callB (lenK K rfl) (by rfl) T.n_len (by decide +kernel) (pa_cons (pv 2) pa_nil)) pa_nil))) pa_nil)) pa_nil)))))
        (pss_one (ps_ret (pv 3))))), ?_⟩
    obtain ⟨d, l, a, xs, rfl, hd, ha, n1, n2, hz, hi, q⟩ := h
    refine ⟨_, rfl, a, xs, rfl, .inl (sq_of ha), fun p hp => ⟨by exact Nat.zero_le _, fun g hg => ⟨_, _, rfl, ?_⟩⟩⟩
    have e1 : Ex H (upd H p (.lst xs)) := Ex.new hp
    have e2 : Ex (upd H p (.lst xs)) (upd (upd H p (.lst xs)) g (.lst [])) := Ex.new hg
    have hpg : p ≠ g := ne_of_none (show (upd H p (.lst xs)) p = some (.lst xs) from upd_same) hg
    have hg0 : H g = none := fresh_back e1 hg
    obtain ⟨pd, pl⟩ := hd.new hp
    obtain ⟨gd, gl⟩ := hd.new hg0
    refine ⟨fun m σ H' => σ = [some (.ref d), some (.ref a), some (.ref p), some (.ref g)] ∧ Fd d l H H' ∧ ∃ left found, H' p = some (.lst left) ∧ H' g = some (.lst found) ∧ left.length + found.length = xs.length ∧ (∀ y ∈ left, y ∈ xs) ∧ (∀ y ∈ found, y ∈ xs) ∧ m = left.length, ?_, ?_⟩
    · exact ⟨xs.length, rfl, .of_ex (e1.trans e2), xs, [], e2 _ _ upd_same, upd_same, by simp, fun y h => h, fun y h => (by simp at h), rfl⟩
    rintro m σ H' ⟨rfl, f, left, found, k1, k2, k3, k4, k5, rfl⟩
    refine ⟨_, rfl, Nat.zero_le _, fun o ho => ?_⟩
    have eo : Ex H' (upd H' o (.lst [])) := Ex.new ho
    refine ne_nil (eo _ _ k1) (fun x hx => ((hi x (k4 x hx)).tup f.tup).tup (fun a xs h => eo _ _ h)) upd_same ⟨_, rfl, ?_⟩
    by_cases hc : left = []
    · subst hc
      exact ⟨_, rfl, q g found _ gd gl hg0 (f.exd eo) (eo _ _ k2) (by simpa using k3) k5⟩
    · rw [show (!left.isEmpty) = true by cases left; exact absurd rfl hc; rfl]
      have hl0 := len_pos hc
      refine ⟨fun σ H2 => σ = [some (.ref d), some (.ref a), some (.ref p), some (.ref g)] ∧ Fd d l H H2 ∧ ∃ left2 found, H2 p = some (.lst left2) ∧ H2 g = some (.lst found) ∧ left2.length + found.length = xs.length ∧ (∀ y ∈ left2, y ∈ xs) ∧ (∀ y ∈ found, y ∈ xs) ∧ left2.length + 1 = left.length, ?_, ?_⟩
      · rintro σ H2 ⟨h1, h2, l2, f2, h3, h4, h5, h6, h7, h8⟩
        exact ⟨l2.length, by omega, h1, h2, l2, f2, h3, h4, h5, h6, h7, rfl⟩
      refine ⟨_, rfl, .inl ⟨rfl, _, sq_of (eo _ _ k2)⟩, _, rfl, .inl ⟨rfl, _, sq_of (eo _ _ k1)⟩, _, rfl, _, rfl, p, left, rfl, .inl (sq_of (eo _ _ k1)), d, l, left.length, rfl, hl0, Nat.lt_of_le_of_lt (show left.length ≤ 1000 by omega) (by decide), (f.exd eo).deal hd, fun r H3 hr2 f3 => ?_⟩
      have k1' : H3 p = some (.lst left) := f3.keep _ _ pd pl (eo _ _ k1)
      have k2' : H3 g = some (.lst found) := f3.keep _ _ gd gl (eo _ _ k2)
      have f4 : Fd d l H H3 := (f.exd eo).trans f3
      have hsi : seqIndex? (r : Int) left.length = some r := (ixN_seq (ixN_nat hr2)).1
      refine ⟨p, left, r, r, _, rfl, rfl, k1', by omega, by omega, hsi, List.getElem?_eq_getElem hr2, g, found, _, rfl, rfl, ?_, sz_lt (by omega), rfl, ?_⟩
      · rw [upd_ne hpg.symm]; exact k2'
      refine ⟨(f4.mut hd hp).mut hd hg0, left.eraseIdx r, found ++ [left[r]], by rw [upd_ne hpg]; exact upd_same, upd_same, ?_, fun y hy => k4 y (List.mem_of_mem_eraseIdx hy), ?_, ?_⟩
      · rw [List.length_eraseIdx_of_lt hr2, List.length_append, List.length_singleton]; omega
      · intro y hy
        rcases List.mem_append.mp hy with hy | hy
        · exact k5 y hy
        · rw [List.mem_singleton.mp hy]
          exact k4 _ (List.getElem_mem hr2)
      · rw [List.length_eraseIdx_of_lt hr2]; omega

/-! _law_then: slots 0 _law_one, 1 _law_other, 2 _law_state; cells ['_law_other'] -/
abbrev s_law_then : Stmt := top 36
theorem sc_law_then : FnScope ["_law_one", "_law_other", "_law_state"] ["_law_one", "_law_other"] (defScope s_law_then) := ⟨rfl, rfl, rfl, by decide +kernel, rfl, by decide +kernel, by decide +kernel⟩
theorem c__law_then (T : Txt K mg) : Cal P w K mg base CX0 1 "_law_then" ["_law_one", "_law_other"] (spAfter K) :=
  cal_of T._law_then sc_law_then (fun _ _ _ _ _ _ us hl => match us, hl with | [_, _], _ => rfl) (fun vs H Q E h => by obtain ⟨_, _, _, _, rfl, _⟩ := h; rfl) fun f cdv A outer s H vs Q E hr h => by
    refine ⟨_, pss_nox (pss_one (ps_ret (pe_callTy (tupK K rfl) (by rfl) T.n_tuple (by decide +kernel) (pa_cons (pe_lc (own := [("_law_state", 2)]) (tt := tYes) (by rfl) sc_law_then.nd (pi_tupK K rfl (pv 0)) (blkOk_by (N := ["_law_one", "_law_other", "_law_state"]) (sc := defScope s_law_then) (by decide +kernel)) (fun _ _ _ _ _ => (pg_name (i := 2) sc_law_then.nd rfl (Or.inl rfl))) (fun _ _ _ _ _ => pts_nil) (fun _ _ _ _ _ => (pe_ix (ixT K rfl) (pv 1) (pv 2) (fun _ _ => rfl)))) pa_nil)))), ?_⟩
    obtain ⟨a, b, c, d, rfl, _, hb, hc, hl, ha, q⟩ := h
    refine after_way ha hb hc hl q (fun H' Q k => ⟨_, rfl, k⟩) (fun x => rfl) fun x H' Q h1 k hx => ?_
    exact ⟨_, rfl, _, rfl, b, nv d, (x : Int), _, rfl, rfl, h1, nv_at (ap_get hx), k⟩

/-- tuple(list(range(n))) -/
theorem idle_way {tn : TE} {σ : L2.St} {H : Hp} {Q : VK} {n : Nat} (hn : n ≤ 1000) (h : ∀ Q : VK, Q (.int (n : Int)) H → tn σ H Q) (q : RetT (nv (List.range n)) H Q) : tCB (rTupS K) (tCons (tLstRg (tRg1 tn)) tNil) σ H Q := by
  refine h _ ⟨_, rfl, .of_le (by omega) (by omega) (by omega) (by omega), fun p hp => ⟨p, _, rfl, .inl ⟨sq_of upd_same, fun l hl => q l _ ((Ex.new hp).trans (Ex.new hl)) ?_⟩⟩⟩
  rw [rg_nv]
  exact upd_same
/-! _law_power: slots 0 _law_one, 1 _law_count, 2 _law_found, 3 _law_step, 4 _law_left; cells [] -/
abbrev s_law_power : Stmt := top 37
theorem sc_law_power : FnScope ["_law_one", "_law_count", "_law_found", "_law_step", "_law_left"] ["_law_one", "_law_count"] (defScope s_law_power) := ⟨rfl, rfl, rfl, by decide +kernel, rfl, by decide +kernel, by decide +kernel⟩
def spPower : Sp := fun vs H Q _ => ∃ a c k, vs = [.ref a, .int (k : Nat)] ∧ H a = some (.tup (nv c)) ∧ Chg c ∧ RetT (nv (pw c k)) H Q
theorem c__law_power (T : Txt K mg) : Cal P w K mg base CX0 2 "_law_power" ["_law_one", "_law_count"] (spPower) :=
  cal_of T._law_power sc_law_power (fun _ _ _ _ _ _ us hl => match us, hl with | [_, _], _ => rfl) (fun vs H Q E h => by obtain ⟨_, _, _, rfl, _⟩ := h; rfl) fun f cdv A outer s H vs Q E hr h => by
    have C_law_then := c__law_then (P := P) (w := w) (base := base) T
    refine ⟨_, pss_nox (pss_cons (ps_par3 (i := 2) (j := 3) (l := 4) (by rfl) sc_law_power.nd rfl rfl rfl (by decide) (by decide) (by decide) rfl rfl rfl (pa_cons (pe_callTy (tupK K rfl) (by rfl) T.n_tuple (by decide +kernel) (pa_cons (pe_listRg rfl (by rfl) T.n_list (prg_1 (by rfl) T.n_range (pe_callB (lenK K rfl) (by rfl) T.n_len (by decide +kernel) (pa_cons (pv 0) pa_nil)))) pa_nil)) (pa_cons (pv 0) (pa_cons (pv 1) pa_nil))) (by rfl))
        (pss_cons (ps_while PassesOwn.never (pt_cmpR op_gt (pv 4) pe_int (nomark _)) (pss_cons (ps_if (pt_cmpR op_eq (pe_op op_mod (pe_callTy int1 (by rfl) T.n_int (by decide +kernel) (pa_cons (pv 4) pa_nil)) pe_int) pe_int (nomark _)) (pss_one (ps_set (i := 2) sc_law_power.nd rfl (Or.inl rfl) (pe_cal C_law_then (hr.mono (by decide)) pass0 (pa_cons (pv 2) (pa_cons (pv 3) pa_nil))))) pss_nil)
        (pss_one (ps_par (i := 3) (j := 4) (by rfl) sc_law_power.nd rfl rfl (by decide) rfl rfl (pa_cons (pe_cal C_law_then (hr.mono (by decide)) pass0 (pa_cons (pv 3) (pa_cons (pv 3) pa_nil))) (pa_cons (pe_op op_fdiv (pv 4) pe_int) pa_nil)) (by rfl)))))
        (pss_one (ps_ret (pv 2))))), ?_⟩
    obtain ⟨a, c, k, rfl, ha, hc, q⟩ := h
    have hcl := hc.le
    refine idle_way (n := c.length) (by omega) (fun Q k => ⟨_, rfl, a, _, rfl, .inr (st_of ha), by rw [nv_len]; exact k⟩) fun p H1 e1 hp => ?_
    refine ⟨_, rfl, _, rfl, _, _, _, rfl, ?_⟩
    refine ⟨fun m σ H' => ∃ p1 p2 i j, σ = [some (.ref a), some (.int (k : Nat)), some (.ref p1), some (.ref p2), some (.int (m : Nat))] ∧ Ex H H' ∧ H' p1 = some (.tup (nv (pw c i))) ∧ H' p2 = some (.tup (nv (pw c j))) ∧ i + j * m = k, ?_, ?_⟩
    · exact ⟨k, p, a, 0, 1, rfl, e1, by rw [pw_zero]; exact hp, by rw [pw_one]; exact e1 _ _ ha, by omega⟩
    rintro m σ H' ⟨p1, p2, i, j, rfl, e, h1, h2, hk⟩
    by_cases hm : m = 0
    · subst hm
      refine ⟨_, rfl, _, _, rfl, rfl, false, by simp, _, rfl, q p1 H' e ?_⟩
      rw [h1, ← hk, Nat.mul_zero, Nat.add_zero]
    · refine ⟨_, rfl, _, _, rfl, rfl, true, by simp; omega, ?_⟩
      refine ⟨fun σ H2 => ∃ p1 p2 i j, σ = [some (.ref a), some (.int (k : Nat)), some (.ref p1), some (.ref p2), some (.int ((m / 2 : Nat) : Nat))] ∧ Ex H H2 ∧ H2 p1 = some (.tup (nv (pw c i))) ∧ H2 p2 = some (.tup (nv (pw c j))) ∧ i + j * (m / 2) = k, ?_, ?_⟩
      · rintro σ H2 ⟨q1, q2, i2, j2, z1, z2, z3, z4, z5⟩
        exact ⟨m / 2, by omega, q1, q2, i2, j2, z1, z2, z3, z4, z5⟩
      have bel : ∀ x, Below (pw c x).length (pw c j) := fun x => by rw [pw_len]; exact pw_lt hc j
      have bel2 : ∀ x, Below (pw c j).length (pw c x) := fun x => by rw [pw_len]; exact pw_lt hc x
      -- the second part of the turn
      have part2 : ∀ (p1 : Addr) (i : Nat) (H2 : Hp), Ex H H2 → H2 p1 = some (.tup (nv (pw c i))) → H2 p2 = some (.tup (nv (pw c j))) → i + (j + j) * (m / 2) = k →
          tPar 3 4 (tCons (tCall (spAfter K) [] E0 (tCons (tVar 3) (tCons (tVar 3) tNil))) (tCons (tOp (rI CDiv fun i j => .int (i / j)) (tVar 4) (tC (.int 2))) tNil))
            { nx := fun σ H2 => ∃ p1 p2 i j, σ = [some (.ref a), some (.int (k : Nat)), some (.ref p1), some (.ref p2), some (.int ((m / 2 : Nat) : Nat))] ∧ Ex H H2 ∧ H2 p1 = some (.tup (nv (pw c i))) ∧ H2 p2 = some (.tup (nv (pw c j))) ∧ i + j * (m / 2) = k, rt := Q }
            [some (.ref a), some (.int (k : Nat)), some (.ref p1), some (.ref p2), some (.int (m : Nat))] H2 := by
        intro p1 i H2 e2 k1 k2 k3
        refine ⟨_, rfl, _, rfl, p2, p2, pw c j, pw c j, rfl, st_of k2, st_of k2, bel j, by rw [pw_len]; omega, k2, fun p3 H3 e3 k4 => ?_⟩
        refine ⟨_, rfl, _, _, rfl, rfl, ⟨by omega, by omega⟩, _, _, rfl, ?_⟩
        refine ⟨p1, p3, i, j + j, ?_, e2.trans e3, e3 _ _ k1, ?_, k3⟩
        · rfl
        · rw [← thn_pw hc]; exact k4
      by_cases hodd : m % 2 = 1
      · refine ⟨_, rfl, .inl ⟨_, rfl, _, _, rfl, rfl, by omega, rfl, true, by simp; omega, ?_⟩⟩
        refine ⟨_, rfl, _, rfl, p1, p2, pw c i, pw c j, rfl, st_of h1, st_of h2, bel2 i, by rw [pw_len]; omega, h1, fun p3 H3 e3 k4 => ?_⟩
        refine part2 p3 (i + j) H3 (e.trans e3) (by rw [← thn_pw hc]; exact k4) (e3 _ _ h2) ?_
        rw [← hk]
        have e5 : m = 2 * (m / 2) + 1 := by omega
        conv => rhs; rw [e5]
        grind
      · refine ⟨_, rfl, .inl ⟨_, rfl, _, _, rfl, rfl, by omega, rfl, false, by simp; omega, ?_⟩⟩
        refine part2 p1 i H' e h1 h2 ?_
        rw [← hk]
        have e5 : m = 2 * (m / 2) := by omega
        conv => rhs; rw [e5]
        grind

/-- a list of changes, each a tuple -/
def Cols (H : Hp) (xs : List V) (cs : List (List Nat)) : Prop := Paired (fun x c => ∃ q, x = .ref q ∧ H q = some (.tup (nv c))) xs cs
theorem Cols.tup {H H' : Hp} (k : ∀ a xs, H a = some (.tup xs) → H' a = some (.tup xs)) {xs : List V} {cs : List (List Nat)} (h : Cols H xs cs) : Cols H' xs cs := paired_mono (fun v r ⟨q, h1, h2⟩ => ⟨q, h1, k _ _ h2⟩) h
theorem Cols.len {H : Hp} {xs : List V} {cs : List (List Nat)} (h : Cols H xs cs) : xs.length = cs.length := paired_len h
theorem paired_get2 {α β : Type} {P : α → β → Prop} : ∀ {as : List α} {bs : List β}, Paired P as bs → ∀ (i : Nat) (b : β), bs[i]? = some b → ∃ a, as[i]? = some a ∧ P a b := fun h i b e => paired_get h i b e
theorem Cols.get {H : Hp} {xs : List V} {cs : List (List Nat)} (h : Cols H xs cs) {i : Nat} {c : List Nat} (e : cs[i]? = some c) : ∃ q, xs[i]? = some (.ref q) ∧ H q = some (.tup (nv c)) := by
  obtain ⟨x, h1, q, rfl, h2⟩ := paired_get h i c e
  exact ⟨q, h1, h2⟩
/-- all of one size n, within it -/
def Tab (n : Nat) (cs : List (List Nat)) : Prop := 0 < n ∧ n ≤ 24 ∧ cs ≠ [] ∧ cs.length ≤ 10 ∧ ∀ c ∈ cs, c.length = n ∧ Below n c
theorem Tab.chg {n : Nat} {cs : List (List Nat)} (h : Tab n cs) {c : List Nat} (hc : c ∈ cs) : Chg c ∧ c.length = n := by
  obtain ⟨h1, h2, h3, h4, h5⟩ := h
  obtain ⟨h6, h7⟩ := h5 c hc
  exact ⟨⟨by omega, by omega, by rw [h6]; exact h7⟩, h6⟩
theorem Tab.get {n : Nat} {cs : List (List Nat)} (h : Tab n cs) {k : Nat} (hk : k < cs.length) : cs[k]? = some (cs.getD k []) ∧ Chg (cs.getD k []) ∧ (cs.getD k []).length = n := by
  have e : cs[k]? = some (cs.getD k []) := by
    rw [List.getD_eq_getElem?_getD, List.getElem?_eq_getElem hk]; rfl
  have := h.chg (List.mem_of_getElem? e)
  exact ⟨e, this.1, this.2⟩
/-- a row done, from left to right -/
def dn (n : Nat) (cs : List (List Nat)) (row : List Nat) : List Nat := row.foldl (fun f k => thn f (cs.getD k [])) (List.range n)
theorem dn_chg {n : Nat} {cs : List (List Nat)} (h : Tab n cs) : ∀ {row : List Nat}, Below cs.length row → ∀ {f : List Nat}, Chg f → f.length = n → Chg (row.foldl (fun f k => thn f (cs.getD k [])) f) ∧ (row.foldl (fun f k => thn f (cs.getD k [])) f).length = n
  | [], _, f, hf, he => ⟨hf, he⟩
  | k :: row, hb, f, hf, he => by
    obtain ⟨_, h1, h2⟩ := h.get (hb k List.mem_cons_self)
    rw [List.foldl_cons]
    exact dn_chg h (fun x hx => hb x (List.mem_cons_of_mem _ hx)) (thn_chg hf h1 (by omega)) (by rw [thn_len]; exact he)
theorem dn_ok {n : Nat} {cs : List (List Nat)} (h : Tab n cs) {row : List Nat} (hb : Below cs.length row) : Chg (dn n cs row) ∧ (dn n cs row).length = n := dn_chg h hb (range_chg h.1 h.2.1) (by simp)
theorem dn_take {n : Nat} {cs : List (List Nat)} {row : List Nat} {i k : Nat} (h : row[i]? = some k) : dn n cs (row.take (i + 1)) = thn (dn n cs (row.take i)) (cs.getD k []) := by
  unfold dn
  rw [List.take_add_one, h, List.foldl_append]
  rfl
theorem below_take {n : Nat} {row : List Nat} (h : Below n row) (i : Nat) : Below n (row.take i) := fun x hx => h x (List.mem_of_mem_take hx)

/-! _law_done: slots 0 _law_some, 1 _law_row, 2 _law_found, 3 _law_command; cells [] -/
abbrev s_law_done : Stmt := top 38
theorem sc_law_done : FnScope ["_law_some", "_law_row", "_law_found", "_law_command"] ["_law_some", "_law_row"] (defScope s_law_done) := ⟨rfl, rfl, rfl, by decide +kernel, rfl, by decide +kernel, by decide +kernel⟩
def spDone : Sp := fun vs H Q _ => ∃ a b xs cs n row, vs = [.ref a, .ref b] ∧ H a = some (.lst xs) ∧ Cols H xs cs ∧ Tab n cs ∧ H b = some (.tup (nv row)) ∧ Below cs.length row ∧ row.length ≤ 1000 ∧ RetT (nv (dn n cs row)) H Q
theorem c__law_done (T : Txt K mg) : Cal P w K mg base CX0 2 "_law_done" ["_law_some", "_law_row"] (spDone) :=
  cal_of T._law_done sc_law_done (fun _ _ _ _ _ _ us hl => match us, hl with | [_, _], _ => rfl) (fun vs H Q E h => by obtain ⟨_, _, _, _, _, _, rfl, _⟩ := h; rfl) fun f cdv A outer s H vs Q E hr h => by
    have C_law_then := c__law_then (P := P) (w := w) (base := base) T
    refine ⟨_, pss_nox (pss_cons (ps_set (i := 2) sc_law_done.nd rfl (Or.inl rfl) (pe_callTy (tupK K rfl) (by rfl) T.n_tuple (by decide +kernel) (pa_cons (pe_listRg rfl (by rfl) T.n_list (prg_1 (by rfl) T.n_range (pe_callB (lenK K rfl) (by rfl) T.n_len (by decide +kernel) (pa_cons (pe_ix (ixL K rfl) (pv 0) pe_int (fun _ _ => rfl)) pa_nil)))) pa_nil)))
        (pss_cons (ps_for PassesOwn.never rfl (pi_tupK K rfl (pv 1)) (pg_name (i := 3) sc_law_done.nd rfl (Or.inl rfl)) (pss_one (ps_set (i := 2) sc_law_done.nd rfl (Or.inl rfl) (pe_cal C_law_then (hr.mono (by decide)) pass0 (pa_cons (pv 2) (pa_cons (pe_ix (ixL K rfl) (pv 0) (pv 3) (fun _ _ => rfl)) pa_nil))))))
        (pss_one (ps_ret (pv 2))))), ?_⟩
    obtain ⟨a, b, xs, cs, n, row, rfl, ha, hC, hT, hb, hrow, hrl, q⟩ := h
    have h0 : 0 < cs.length := len_pos hT.2.2.1
    obtain ⟨hc0, hc1, hc2⟩ := hT.get h0
    obtain ⟨q0, hq0, hq1⟩ := hC.get hc0
    refine idle_way (n := n) (by have := hT.2.1; omega) (fun Q k => ⟨_, rfl, a, xs, 0, _, rfl, rfl, sq_of ha, atI_nat (j := 0) hq0, q0, _, rfl, .inr (st_of hq1), by rw [nv_len, hc2]; exact k⟩) fun p H1 e1 hp => ?_
    dsimp only
    refine q_forT (a := b) (xs := nv row) (fun H1 _ Q k => ⟨_, rfl, k H1 (Ex.refl _)⟩) (st_of (e1 _ _ hb))
      (fun i σ H' => ∃ p1 y, σ = [some (.ref a), some (.ref b), some (.ref p1), y] ∧ Ex H H' ∧ H' p1 = some (.tup (nv (dn n cs (row.take i))))) (fun H2 e2 => ⟨p, _, rfl, e1.trans e2, e2 _ _ hp⟩)
      (fun i σ H' _ ⟨_, _, _, e, _⟩ => st_of (e _ _ hb)) ?_ ?_
    · rintro i x σ H' hx ⟨p1, y, rfl, e, hp1⟩
      obtain ⟨k, hk, rfl⟩ := nv_get_of hx
      have hkl := hrow k (List.mem_of_getElem? hk)
      obtain ⟨hc0, hc1, hc2⟩ := hT.get hkl
      obtain ⟨q0, hq0, hq1⟩ := hC.get hc0
      obtain ⟨d1, d2⟩ := dn_ok hT (below_take hrow i)
      refine ⟨_, rfl, _, rfl, _, rfl, a, xs, k, _, rfl, rfl, sq_of (e _ _ ha), atI_nat hq0, p1, q0, _, _, rfl, st_of hp1, st_of (e _ _ hq1), ?_, by rw [d2]; have := hT.2.1; omega, hp1, fun p3 H3 e3 k4 => ?_⟩
      · rw [hc2]
        have z := d1.lt
        rw [d2] at z
        exact z
      · refine ⟨p3, _, rfl, e.trans e3, ?_⟩
        rw [dn_take hk]
        exact k4
    · rintro σ H' ⟨p1, y, rfl, e, hp1⟩
      rw [nv_len, List.take_length] at hp1
      exact ⟨_, rfl, q p1 H' e hp1⟩

/-! _law_place: slots 0 _law_many, 1 _law_s, 2 _law_q, 3 _law_r, 4 _law_side; cells [] -/
abbrev s_law_place : Stmt := top 39
theorem sc_law_place : FnScope ["_law_many", "_law_s", "_law_q", "_law_r", "_law_side"] ["_law_many", "_law_s", "_law_q", "_law_r", "_law_side"] (defScope s_law_place) := ⟨rfl, rfl, rfl, by decide +kernel, rfl, by decide +kernel, by decide +kernel⟩
def place (m s q r side : Nat) : Nat := if r = 0 then q else 2 * m + 2 * (q * (s - 1) + r - 1) + side
def spPlace : Sp := fun vs H Q _ => ∃ m s q r side : Nat, vs = [.int (m : Nat), .int (s : Nat), .int (q : Nat), .int (r : Nat), .int (side : Nat)] ∧ 0 < s ∧ s ≤ 1000 ∧ m ≤ 1000 ∧ q ≤ 1000 ∧ r ≤ 1000 ∧ Q (.int (place m s q r side : Nat)) H
theorem c__law_place (T : Txt K mg) : Cal P w K mg base CX0 1 "_law_place" ["_law_many", "_law_s", "_law_q", "_law_r", "_law_side"] (spPlace) :=
  cal_of T._law_place sc_law_place (fun _ _ _ _ _ _ us hl => match us, hl with | [_, _, _, _, _], _ => rfl) (fun vs H Q E h => by obtain ⟨_, _, _, _, _, rfl, _⟩ := h; rfl) fun f cdv A outer s H vs Q E hr h => by
    refine ⟨_, pss_nox (pss_one (ps_ret (pe_ifExp (pt_cmpR op_eq (pv 3) pe_int (nomark _)) (pv 2) (pe_op op_add (pe_op op_add (pe_op op_mul pe_int (pv 0)) (pe_op op_mul pe_int (pe_op op_sub (pe_op op_add (pe_op op_mul (pv 2) (pe_op op_sub (pv 1) pe_int)) (pv 3)) pe_int))) (pv 4))))), ?_⟩
    obtain ⟨m, s, qq, r, side, rfl, hs, hs2, hm, hq, hr2, q⟩ := h
    unfold place at q
    by_cases h0 : r = 0
    · subst h0
      exact ⟨_, rfl, rfl, true, by simp, _, rfl, q⟩
    · rw [if_neg h0] at q
      refine ⟨_, rfl, rfl, false, by simp [h0], _, rfl, _, _, rfl, rfl, .inl ⟨by omega, by omega⟩, _, rfl, _, rfl, _, _, rfl, rfl, _, _, rfl, rfl, .inl ⟨by omega, by omega⟩, _, rfl, _, _, rfl, rfl, _, _, rfl, rfl, _, _, rfl, rfl, .inl ⟨by omega, by omega⟩, _, _, rfl, rfl, _, rfl, _, _, rfl, rfl, ?_⟩
      dsimp only
      have e : (2 * (m : Int) + 2 * ((qq : Int) * ((s : Int) - 1) + (r : Int) - 1) + (side : Int)) = ((2 * m + 2 * (qq * (s - 1) + r - 1) + side : Nat) : Int) := by
        have e1 : ((s : Int) - 1) = ((s - 1 : Nat) : Int) := by omega
        rw [e1, ← Int.natCast_mul]
        generalize qq * (s - 1) = z
        omega
      rw [e]
      exact q
end
end Kx
namespace Kx
open PySem PySem.Spec PyProof.Rows L2 Evl

section
variable {P : Program} {w : World} {K : PySem.W.Frag} {mg : Str → Option Value} {base : Heap}

theorem lst_rev {σ : L2.St} {H : Hp} {Q : VK} {te : TE} {tr : TA} (h : te σ H fun x H1 => ∃ a xs, x = .ref a ∧ SqL K H1 a xs ∧ ∀ p, H1 p = none → tr σ (upd H1 p (.lst xs.reverse)) fun ys H2 => (V.ref p :: ys).length ≤ sizeLine ∧ ∀ o, H2 o = none → Q (.ref o) (upd H2 o (.lst (V.ref p :: ys)))) :
    tLst (tCons (tRevL K te) tr) σ H Q := h
/-! _law_draw: slots 0 _law_script, 1 _law_salt, 2 _law_cells, 3 _law_blend, 4 _law_cell; cells [] -/
abbrev s_law_draw : Stmt := top 32
theorem sc_law_draw : FnScope ["_law_script", "_law_salt", "_law_cells", "_law_blend", "_law_cell"] ["_law_script", "_law_salt"] (defScope s_law_draw) := ⟨rfl, rfl, rfl, by decide +kernel, rfl, by decide +kernel, by decide +kernel⟩
def spDraw (K : PySem.W.Frag) : Sp := fun vs H Q _ => ∃ (a : Addr) (zs : List Int), vs = [.ref a, .int 13] ∧ SqL K H a (zs.map V.int) ∧ zs.length ≤ 63 ∧ ∀ d l H', H d = none → H l = none → Ex H H' → Deal d l H' → Q (.ref d) H'
theorem cut48 (zs : List Int) : ∃ cs : List Int, cutV (zs.map V.int) none (some 48) = cs.map V.int ∧ cs.length ≤ 63 ∨ 63 < zs.length := by
  by_cases h : zs.length ≤ 63
  · refine ⟨(zs.drop (HT.sIx (zs.map V.int).length 0 none)).take (HT.sIx (zs.map V.int).length (zs.map V.int).length (some 48) - HT.sIx (zs.map V.int).length 0 none), .inl ⟨?_, ?_⟩⟩
    · unfold cutV
      rw [List.map_take, List.map_drop]
    · rw [List.length_take, List.length_drop]; omega
  · exact ⟨[], .inr (by omega)⟩
theorem c__law_draw (T : Txt K mg) : Cal P w K mg base CX0 1 "_law_draw" ["_law_script", "_law_salt"] (spDraw K) :=
  cal_of T._law_draw sc_law_draw (fun _ _ _ _ _ _ us hl => match us, hl with | [_, _], _ => rfl) (fun vs H Q E h => by obtain ⟨_, _, rfl, _⟩ := h; rfl) fun f cdv A outer s H vs Q E hr h => by
    refine ⟨_, pss_nox (pss_cons (ps_setLc (i := 2) (own := [("_law_cell", 4)]) (tt := tYes) (by rfl) sc_law_draw.nd rfl rfl (sw_true rfl rfl rfl (by decide +kernel)) (pi_listK K rfl (pe_slice (slLK K rfl) (pv 0) po_none (po_some pe_int))) (blkOk_by (N := ["_law_script", "_law_salt", "_law_cells", "_law_blend", "_law_cell"]) (sc := defScope s_law_draw) (by decide +kernel)) (fun _ _ _ _ _ => (pg_name (i := 4) sc_law_draw.nd rfl (Or.inl rfl))) (fun _ _ _ _ _ => pts_nil) (fun _ _ _ _ _ => (pe_callB abs1 (by rfl) T.n_abs (by decide +kernel) (pa_cons (pe_callTy int1 (by rfl) T.n_int (by decide +kernel) (pa_cons (pv 4) pa_nil)) pa_nil))))
        (pss_cons (ps_set (i := 3) sc_law_draw.nd rfl (Or.inl rfl) (pe_op op_add pe_int (pe_op op_mul pe_int (pv 1))))
        (pss_cons (ps_for PassesOwn.never rfl (pi_listK K rfl (pv 2)) (pg_name (i := 4) sc_law_draw.nd rfl (Or.inl rfl)) (pss_one (ps_set (i := 3) sc_law_draw.nd rfl (Or.inl rfl) (pe_op op_mod (pe_callTy int1 (by rfl) T.n_int (by decide +kernel) (pa_cons (pe_op op_add (pe_op op_add (pe_op op_mul (pv 3) pe_int) (pe_op op_mod (pv 4) pe_int)) pe_int) pa_nil)) pe_int))))
        (pss_one (ps_ret (pe_lst (pa_cons (pe_revLK K rfl (pe_lc (own := [("_law_cell", 4)]) (by rfl) sc_law_draw.nd (pi_listK K rfl (pv 2)) (blkOk_by (N := ["_law_script", "_law_salt", "_law_cells", "_law_blend", "_law_cell"]) (sc := defScope s_law_draw) (by decide +kernel)) (fun _ _ _ _ _ => (pg_name (i := 4) sc_law_draw.nd rfl (Or.inl rfl))) (fun _ _ _ _ _ => (pts_one (pt_cmpR op_ge (pv 4) (pe_op op_pow pe_int pe_int) (nomark _)))) (fun _ _ _ _ _ => (pv 4)))) (pa_cons (pv 3) pa_nil)))))))), ?_⟩
    obtain ⟨a, zs, rfl, ha, hz, q⟩ := h
    obtain ⟨cs, hc⟩ := cut48 zs
    rcases hc with ⟨hc1, hc2⟩ | hc
    rotate_left
    · omega
    refine seq1 (asg1 (lc_NL (xs := cs.map V.int) (Ex.frame H) (fun H1 _ => Ex.frame H1) (fun _ => true) (fun _ y => ∃ c : Int, y = .int c ∧ 0 ≤ c) (fun _ _ => False)
      (fun Q k => ⟨_, rfl, 48, rfl, a, _, rfl, ha, fun p hp => ?_⟩) (by rw [List.length_map]; omega) (fun x => rfl) (fun i x H1 _ _ Qb k => tYes_go (Ex.frame H) Qb k) (fun i x H1 e hx _ Q k => ?_) (fun p H2 ys hp e hy pr => ?_)))
    · rw [hc1]
      exact k p _ hp (Ex.new hp) upd_same
    · rw [List.getElem?_map, Option.map_eq_some_iff] at hx
      obtain ⟨c, _, rfl⟩ := hx
      refine ⟨_, rfl, .inl ⟨_, rfl, _, rfl, k _ H1 (Ex.refl _) (.inl ⟨_, rfl, ?_⟩)⟩⟩
      split <;> omega
    · rw [filt_yes, List.length_map] at pr
      obtain ⟨es, rfl, he1, he2⟩ := paired_ints pr
      rw [List.length_range] at he1
      refine ⟨_, rfl, _, _, rfl, rfl, .inr ⟨by omega, by omega⟩, _, _, rfl, rfl, ?_⟩
      dsimp only
      refine q_forLn (a := p) (xs := es.map V.int) (fun H1 _ Q k => ⟨_, rfl, k H1 (Ex.refl _)⟩) (sq_of hy) (fun i σ H' => ∃ b y, σ = [some (.ref a), some (.int 13), some (.ref p), some (.int b), y] ∧ 0 ≤ b ∧ Ex H2 H')
        (fun H1 e1 => ⟨_, _, rfl, by omega, e1⟩) (fun i σ H' _ ⟨_, _, _, _, e⟩ => sq_of (e _ _ hy)) ?_ ?_
      · rintro i x σ H' hx ⟨b, y, rfl, hb, e1⟩
        rw [List.getElem?_map, Option.map_eq_some_iff] at hx
        obtain ⟨c, _, rfl⟩ := hx
        refine ⟨_, rfl, _, _, rfl, rfl, .inr ⟨by omega, by omega⟩, _, rfl, _, _, rfl, rfl, by omega, _, _, rfl, rfl, _, _, rfl, rfl, .inl ⟨_, rfl, _, _, rfl, rfl, by omega, _, _, rfl, Int.emod_nonneg _ (by omega), e1⟩⟩
      · rintro σ H' ⟨b, y, rfl, hb, e1⟩
        refine ret1 ?_
        have hsub : H2 p = some (.lst (es.map V.int)) := hy
        refine lst_rev (lc_L (a := p) (xs := es.map V.int) (Ex.frame H') (fun i => decide ((10 : Int) ^ 18 ≤ es.getD i 0)) (fun _ y => ∃ c : Int, y = .int c ∧ 0 ≤ c) (fun _ _ => False)
          (fun Q k => ⟨_, rfl, k _ (Ex.refl _) (sq_of (e1 _ _ hy))⟩) (fun H3 e3 => sq_of (e3 _ _ (e1 _ _ hy))) (by rw [List.length_map]; omega) (fun x => rfl) (fun i x H1 e3 hx Qb k => ?_) (fun i x H1 e3 hx _ Q k => ?_) (fun r H3 ys hr0 e3 hy3 pr => ?_))
        · rw [List.getElem?_map, Option.map_eq_some_iff] at hx
          obtain ⟨c, hc, rfl⟩ := hx
          refine ⟨_, rfl, _, _, rfl, rfl, ⟨by omega, by omega, by decide⟩, _, _, rfl, rfl, _, rfl, ?_⟩
          have := k H1 (Ex.refl _)
          rw [List.getD_eq_getElem?_getD, hc] at this
          exact this
        · rw [List.getElem?_map, Option.map_eq_some_iff] at hx
          obtain ⟨c, hc, rfl⟩ := hx
          exact ⟨_, rfl, k _ _ (Ex.refl _) (.inl ⟨c, rfl, he2 c (List.mem_of_getElem? hc)⟩)⟩
        · obtain ⟨gs, rfl, hg1, hg2⟩ := paired_ints pr
          have hg3 : gs.length ≤ 100 := by
            rw [hg1]
            refine Nat.le_trans (List.length_filter_le _ _) ?_
            rw [List.length_range, List.length_map]
            omega
          refine ⟨r, _, rfl, sq_of hy3, fun l hl => ⟨_, rfl, sz_of (by simp), fun d hd => ?_⟩⟩
          have e4 := Ex.new (o := .lst (gs.map V.int).reverse) hl
          have e5 := Ex.new (o := .lst [.ref l, .int b]) hd
          have e6 : Ex H H3 := (e.trans e1).trans e3
          have hdl : d ≠ l := fun z => by
            subst z
            rw [upd_same] at hd; cases hd
          refine q d l _ (fresh_back (e6.trans e4) hd) (fresh_back e6 hl) ((e6.trans e4).trans e5) ⟨hdl, b, gs.reverse, upd_same, ?_, by rw [List.length_reverse]; exact hg3, fun c hc => hg2 c (List.mem_reverse.mp hc), hb⟩
          rw [upd_ne hdl.symm, upd_same, List.map_reverse]

/-! _law_alike: slots 0 _law_rounds_here, 1 _law_count, 2 _law_found, 3 _law_back; cells [] -/
abbrev s_law_alike : Stmt := top 47
theorem sc_law_alike : FnScope ["_law_rounds_here", "_law_count", "_law_found", "_law_back"] ["_law_rounds_here", "_law_count"] (defScope s_law_alike) := ⟨rfl, rfl, rfl, by decide +kernel, rfl, by decide +kernel, by decide +kernel⟩
def alk (bs : List Bool) (back k : Nat) : Bool := bs.getD (if k < bs.length then k else back + (k - back) % (bs.length - back)) false
def spAlike (K : PySem.W.Frag) : Sp := fun vs H Q _ => ∃ p l back k bs, vs = [.ref p, .int (k : Nat)] ∧ H p = some (.tup [.ref l, .int (back : Nat)]) ∧ SqL K H l (bs.map V.bl) ∧ back < bs.length ∧ Q (.bl (alk bs back k)) H
theorem c__law_alike (T : Txt K mg) : Cal P w K mg base CX0 1 "_law_alike" ["_law_rounds_here", "_law_count"] (spAlike K) :=
  cal_of T._law_alike sc_law_alike (fun _ _ _ _ _ _ us hl => match us, hl with | [_, _], _ => rfl) (fun vs H Q E h => by obtain ⟨_, _, _, _, _, rfl, _⟩ := h; rfl) fun f cdv A outer s H vs Q E hr h => by
    refine ⟨_, pss_nox (pss_cons (ps_asg (pv 0) (pg_tupK K rfl 2 rfl (pgs_cons (pg_name (i := 2) sc_law_alike.nd rfl (Or.inl rfl)) (pgs_cons (pg_name (i := 3) sc_law_alike.nd rfl (Or.inl rfl)) pgs_nil))))
        (pss_one (ps_ret (pe_ifExp (pt_cmpR op_lt (pv 1) (pe_callB (lenK K rfl) (by rfl) T.n_len (by decide +kernel) (pa_cons (pv 2) pa_nil)) (nomark _)) (pe_ix (ixL K rfl) (pv 2) (pv 1) (fun _ _ => rfl)) (pe_ix (ixL K rfl) (pv 2) (pe_op op_add (pv 3) (pe_op op_mod (pe_callTy int1 (by rfl) T.n_int (by decide +kernel) (pa_cons (pe_op op_sub (pv 1) (pv 3)) pa_nil)) (pe_op op_sub (pe_callB (lenK K rfl) (by rfl) T.n_len (by decide +kernel) (pa_cons (pv 2) pa_nil)) (pv 3)))) (fun _ _ => rfl)))))), ?_⟩
    obtain ⟨p, l, back, k, bs, rfl, hp, hl, hb, q⟩ := h
    have get : ∀ i, i < bs.length → (bs.map V.bl)[i]? = some (.bl (bs.getD i false)) := fun i hi => by
      rw [List.getElem?_map, List.getElem?_eq_getElem hi, List.getD_eq_getElem?_getD, List.getElem?_eq_getElem hi]; rfl
    refine ⟨_, rfl, p, _, rfl, st_of hp, rfl, _, _, rfl, _, _, rfl, rfl, ?_⟩
    unfold alk at q
    by_cases hk : k < bs.length
    · rw [if_pos hk] at q
      exact ⟨_, rfl, _, rfl, l, _, rfl, .inl hl, _, _, rfl, rfl, true, by simp [hk], _, rfl, _, rfl, l, _, k, _, rfl, rfl, hl, atI_nat (get k hk), q⟩
    · rw [if_neg hk] at q
      refine ⟨_, rfl, _, rfl, l, _, rfl, .inl hl, _, _, rfl, rfl, false, by simpa using hk, _, rfl, _, rfl, _, rfl, _, rfl, _, _, rfl, rfl, .inl ⟨_, rfl, _, rfl, l, _, rfl, .inl hl, _, rfl, _, _, rfl, rfl, _, _, rfl, rfl, by rw [List.length_map]; omega, _, _, rfl, rfl, l, _, ((back + (k - back) % (bs.length - back) : Nat) : Int), _, rfl, ?_, hl, atI_nat (get _ ?_), q⟩⟩
      · dsimp only
        rw [List.length_map, show ((k : Int) - (back : Int)) = ((k - back : Nat) : Int) by omega, show ((bs.length : Int) - (back : Int)) = ((bs.length - back : Nat) : Int) by omega, ← Int.natCast_emod]
        rfl
      · have := Nat.mod_lt (k - back) (show 0 < bs.length - back by omega)
        omega

theorem Rho.dist_le {α : Type} {x : Nat → α} {t r n : Nat} (h : Rho x t r) (d : Dist x n) : n ≤ t + r := by
  refine Nat.le_of_not_lt fun z => ?_
  have := h.1
  exact d t (t + r) (by omega) z ((h.2 t r).mpr (.inr ⟨Nat.le_refl _, Nat.dvd_refl _⟩))
theorem pw_det {c : List Nat} (h : Chg c) : Det (pw c) := fun i j e => by
  rw [← thn_pw h, ← thn_pw h, e]
def kl (c : List Nat) : List Key := c.map fun i : Nat => (.inl (i : Int) : Key)
theorem kl_kV (c : List Nat) : (kl c).map kV = nv c := by
  unfold kl nv
  rw [List.map_map]
  rfl
theorem kl_inj {c d : List Nat} : kl c = kl d ↔ c = d := by
  constructor
  · intro h
    have h2 := congrArg (List.map kV) h
    rw [kl_kV, kl_kV] at h2
    unfold nv at h2
    refine (List.map_inj_right (f := fun i : Nat => V.int (i : Int)) fun x y e => ?_).mp h2
    have := V.int.inj e
    omega
  · intro h; rw [h]
/-! _law_tail: slots 0 _law_one, 1 _law_seen, 2 _law_found; cells [] -/
abbrev s_law_tail : Stmt := top 49
theorem sc_law_tail : FnScope ["_law_one", "_law_seen", "_law_found"] ["_law_one"] (defScope s_law_tail) := ⟨rfl, rfl, rfl, by decide +kernel, rfl, by decide +kernel, by decide +kernel⟩
theorem c__law_tail (T : Txt K mg) : Cal P w K mg base CX0 2 "_law_tail" ["_law_one"] (spTR) :=
  cal_of T._law_tail sc_law_tail (fun _ _ _ _ _ _ us hl => match us, hl with | [_], _ => rfl) (fun vs H Q E h => by obtain ⟨_, _, _, _, rfl, _⟩ := h; rfl) fun f cdv A outer s H vs Q E hr h => by
    have C_law_then := c__law_then (P := P) (w := w) (base := base) T
    refine ⟨_, pss_nox (pss_cons (ps_par (i := 1) (j := 2) (by rfl) sc_law_tail.nd rfl rfl (by decide) rfl rfl (pa_cons (pe_dnewT) (pa_cons (pe_callTy (tupK K rfl) (by rfl) T.n_tuple (by decide +kernel) (pa_cons (pe_listRg rfl (by rfl) T.n_list (prg_1 (by rfl) T.n_range (pe_callB (lenK K rfl) (by rfl) T.n_len (by decide +kernel) (pa_cons (pv 0) pa_nil)))) pa_nil)) pa_nil)) (by rfl))
        (pss_cons (ps_while PassesOwn.never (pt_cmp (pc_dnotin (hu_of hr) (pv 2) (pv 1))) (pss_cons (ps_dput (hu_of hr) (pv 1) (pv 2) (pe_callB call_len_dT (by rfl) T.n_len (by decide +kernel) (pa_cons (pv 1) pa_nil)) rfl)
        (pss_one (ps_set (i := 2) sc_law_tail.nd rfl (Or.inl rfl) (pe_cal C_law_then (hr.mono (by decide)) pass0 (pa_cons (pv 2) (pa_cons (pv 0) pa_nil)))))))
        (pss_one (ps_ret (pe_tup (pa_cons (pe_dget (hu_of hr) (pv 1) (pv 2) (fun _ _ => rfl)) (pa_cons (pe_op op_sub (pe_callB call_len_dT (by rfl) T.n_len (by decide +kernel) (pa_cons (pv 1) pa_nil)) (pe_dget (hu_of hr) (pv 1) (pv 2) (fun _ _ => rfl))) pa_nil))))))), ?_⟩
    obtain ⟨a, c, t, r, rfl, ha, hc, hr2, q⟩ := h
    have hcl := hc.le
    intro d hd
    have e0 : Ex H (upd H d (.dT [])) := Ex.new hd
    have had : a ≠ d := ne_of_none ha hd
    refine idle_way (n := c.length) (by omega) (fun Q k => ⟨_, rfl, a, _, rfl, .inr (st_of (e0 _ _ ha)), by rw [nv_len]; exact k⟩) fun p H1 e1 hp => ?_
    refine ⟨_, _, rfl, ?_⟩
    refine ⟨fun m σ H' => ∃ n p1, m = t + r - n ∧ σ = [some (.ref a), some (.ref d), some (.ref p1)] ∧ Ex H H' ∧ H' d = some (.dT (sqd (fun k => kl (pw c k)) n)) ∧ H' p1 = some (.tup (nv (pw c n))) ∧ Dist (pw c) n, ?_, ?_⟩
    · exact ⟨t + r, 0, p, rfl, rfl, e0.trans e1, e1 _ _ upd_same, by rw [pw_zero]; exact hp, fun i j h1 h2 => absurd h2 (Nat.not_lt_zero _)⟩
    rintro m σ H' ⟨n, p1, rfl, rfl, e2, hd2, hp1, hD⟩
    have hn := hr2.rho.dist_le hD
    have hb1 := hr2.tl
    have hb2 := hr2.rl
    have hkey : H' p1 = some (.tup ((kl (pw c n)).map kV)) := by rw [kl_kV]; exact hp1
    by_cases hin : ∀ j, j < n → pw c j ≠ pw c n
    · have hn2 := hr2.rho.dist_le (hD.succ hin)
      refine ⟨_, rfl, _, rfl, d, none, rfl, ?_, true, rfl, ?_⟩
      · have := DGet.t hd2 hkey
        rw [sqd_none (fun j hj z => hin j hj (kl_inj.mp z))] at this
        exact this
      refine ⟨fun σ H3 => ∃ p1, σ = [some (.ref a), some (.ref d), some (.ref p1)] ∧ Ex H H3 ∧ H3 d = some (.dT (sqd (fun k => kl (pw c k)) (n + 1))) ∧ H3 p1 = some (.tup (nv (pw c (n + 1)))), ?_, ?_⟩
      · rintro σ H3 ⟨p2, h1, h2, h3, h4⟩
        exact ⟨t + r - (n + 1), by omega, n + 1, p2, rfl, h1, h2, h3, h4, hD.succ hin⟩
      · refine ⟨_, rfl, d, _, rfl, hd2, _, rfl, _, rfl, d, _, rfl, DPut.t hd2 hkey (by rw [sqd_len]; exact sz_lt (by omega)), ?_⟩
        rw [sqd_len]
        have hput := sqd_put (x := fun k => kl (pw c k)) (fun j hj z => hin j hj (kl_inj.mp z))
        have hput' : putK (sqd (fun k => kl (pw c k)) n) (kl (pw c n)) (.int (n : Int)) = sqd (fun k => kl (pw c k)) (n + 1) := hput
        rw [hput']
        have e3 : Ex H (upd H' d (.dT (sqd (fun k => kl (pw c k)) (n + 1)))) := Ex.mut e2 hd
        have hpd : p1 ≠ d := fun z => by rw [z, hd2] at hp1; cases hp1
        refine ⟨_, rfl, _, rfl, p1, a, pw c n, c, rfl, ?_, st_of (e3 _ _ ha), pw_lt hc n, by rw [pw_len]; omega, ?_, fun p3 H3 e4 h4 => ⟨p3, rfl, e3.trans e4, e4 _ _ upd_same, ?_⟩⟩
        · exact st_of (by rw [upd_ne hpd]; exact hp1)
        · rw [upd_ne hpd]; exact hp1
        · rw [h4]
          have := thn_pw hc n 1
          rw [pw_one] at this
          rw [this]
    · obtain ⟨j, hj⟩ : ∃ j, j < n ∧ pw c j = pw c n := by
        refine Classical.byContradiction fun z => hin fun j hj z2 => z ⟨j, hj, z2⟩
      have hg : DGet H' d (.ref p1) (some (.int (j : Nat))) := by
        have := DGet.t hd2 hkey
        rw [show kl (pw c n) = (fun k => kl (pw c k)) j from (kl_inj.mpr hj.2).symm, sqd_some (fun i j a b z => hD i j a b (kl_inj.mp z)) hj.1] at this
        exact this
      have hrho := first_rep (pw_det hc) hD hj.1 hj.2
      obtain ⟨rfl, rfl⟩ := hrho.toE.uniq hr2.rho.toE
      refine ⟨_, rfl, _, rfl, d, _, rfl, hg, false, rfl, ?_⟩
      refine ⟨_, rfl, _, rfl, d, _, rfl, hg, _, rfl, d, _, rfl, hd2, _, rfl, _, rfl, d, _, rfl, hg, _, _, rfl, rfl, sz_of (by simp), fun p hp => q p _ (e2.trans (Ex.new hp)) ?_⟩
      dsimp only
      rw [sqd_len, show ((n : Int) - (j : Int)) = ((n - j : Nat) : Int) by omega]
      exact upd_same

/-! _law_raised: slots 0 _law_one, 1 _law_count, 2 _law_first, 3 _law_length; cells [] -/
abbrev s_law_raised : Stmt := top 54
theorem sc_law_raised : FnScope ["_law_one", "_law_count", "_law_first", "_law_length"] ["_law_one", "_law_count"] (defScope s_law_raised) := ⟨rfl, rfl, rfl, by decide +kernel, rfl, by decide +kernel, by decide +kernel⟩
def spRaised : Sp := fun vs H Q _ => ∃ a c k, vs = [.ref a, .int (k : Nat)] ∧ H a = some (.tup (nv c)) ∧ Chg c ∧ RetT (nv (pw c k)) H Q
theorem c__law_raised (T : Txt K mg) : Cal P w K mg base CX0 3 "_law_raised" ["_law_one", "_law_count"] (spRaised) :=
  cal_of T._law_raised sc_law_raised (fun _ _ _ _ _ _ us hl => match us, hl with | [_, _], _ => rfl) (fun vs H Q E h => by obtain ⟨_, _, _, rfl, _⟩ := h; rfl) fun f cdv A outer s H vs Q E hr h => by
    have C_law_power := c__law_power (P := P) (w := w) (base := base) T
    have C_law_tail := c__law_tail (P := P) (w := w) (base := base) T
    refine ⟨_, pss_nox (pss_cons (ps_asg (pe_cal C_law_tail (hr.mono (by decide)) pass0 (pa_cons (pv 0) pa_nil)) (pg_tupK K rfl 2 rfl (pgs_cons (pg_name (i := 2) sc_law_raised.nd rfl (Or.inl rfl)) (pgs_cons (pg_name (i := 3) sc_law_raised.nd rfl (Or.inl rfl)) pgs_nil))))
        (pss_one (ps_ret (pe_cal C_law_power (hr.mono (by decide)) pass0 (pa_cons (pv 0) (pa_cons (pe_ifExp (pt_cmpR op_lt (pv 1) (pv 2) (nomark _)) (pv 1) (pe_op op_add (pv 2) (pe_op op_mod (pe_callTy int1 (by rfl) T.n_int (by decide +kernel) (pa_cons (pe_op op_sub (pv 1) (pv 2)) pa_nil)) (pv 3)))) pa_nil)))))), ?_⟩
    obtain ⟨a, c, k, rfl, ha, hc, q⟩ := h
    obtain ⟨t, r, hr2⟩ := rh_ex hc
    have hrp := hr2.rho.1
    refine ⟨_, rfl, a, c, t, r, rfl, ha, hc, hr2, fun p H1 e1 hp => ⟨p, _, rfl, st_of hp, rfl, _, _, rfl, _, _, rfl, rfl, _, rfl, _, rfl, _, rfl, _, _, rfl, rfl, ?_⟩⟩
    by_cases hk : k < t
    · exact ⟨true, by simp [hk], _, rfl, a, c, k, rfl, e1 _ _ ha, hc, fun p2 H2 e2 h2 => q p2 H2 (e1.trans e2) h2⟩
    · refine ⟨false, by simpa using hk, _, rfl, _, rfl, _, rfl, _, _, rfl, rfl, .inl ⟨_, rfl, _, rfl, _, _, rfl, rfl, by omega, _, _, rfl, rfl, a, c, t + (k - t) % r, ?_, e1 _ _ ha, hc, fun p2 H2 e2 h2 => q p2 H2 (e1.trans e2) ?_⟩⟩
      · dsimp only
        rw [show ((k : Int) - (t : Int)) = ((k - t : Nat) : Int) by omega, ← Int.natCast_emod]
        rfl
      · rw [h2]
        have := (hr2.rho.2 (t + (k - t) % r) (r * ((k - t) / r))).mpr (.inr ⟨by omega, Nat.dvd_mul_right _ _⟩)
        have h3 := Nat.mod_add_div (k - t) r
        rw [this, show t + (k - t) % r + r * ((k - t) / r) = k by omega]

/-! _law_times: slots 0 _law_deal; cells [] -/
abbrev s_law_times : Stmt := top 53
theorem sc_law_times : FnScope ["_law_deal"] ["_law_deal"] (defScope s_law_times) := ⟨rfl, rfl, rfl, by decide +kernel, rfl, by decide +kernel, by decide +kernel⟩
def spTimes : Sp := fun vs H Q _ => ∃ d l, vs = [.ref d] ∧ Deal d l H ∧ ∀ (n : Nat) H', n < 2 ^ 200 → Fd d l H H' → Q (.int (n : Nat)) H'
theorem c__law_times (T : Txt K mg) : Cal P w K mg base CX0 3 "_law_times" ["_law_deal"] (spTimes) :=
  cal_of T._law_times sc_law_times (fun _ _ _ _ _ _ us hl => match us, hl with | [_], _ => rfl) (fun vs H Q E h => by obtain ⟨_, _, rfl, _⟩ := h; rfl) fun f cdv A outer s H vs Q E hr h => by
    have C_law_any := c__law_any (P := P) (w := w) (base := base) T
    have C_law_of := c__law_of (P := P) (w := w) (base := base) T
    refine ⟨_, pss_nox (pss_one (ps_ret (pe_cal C_law_of (hr.mono (by decide)) pass0 (pa_cons (pv 0) (pa_cons (pe_lst (pa_cons pe_int (pa_cons pe_int (pa_cons pe_int (pa_cons pe_int (pa_cons pe_int (pa_cons (pe_cal C_law_any (hr.mono (by decide)) pass0 (pa_cons (pv 0) (pa_cons pe_int pa_nil))) (pa_cons (pe_cal C_law_any (hr.mono (by decide)) pass0 (pa_cons (pv 0) (pa_cons pe_int pa_nil))) (pa_cons (pe_cal C_law_any (hr.mono (by decide)) pass0 (pa_cons (pv 0) (pa_cons (pe_op op_pow pe_int pe_int) pa_nil))) pa_nil))))))))) pa_nil))))), ?_⟩
    obtain ⟨d, l, rfl, hd, q⟩ := h
    refine ⟨_, rfl, _, rfl, d, l, 7, rfl, by decide, by decide, hd, fun r1 H1 h1 f1 => ?_⟩
    refine ⟨_, rfl, d, l, 40, rfl, by decide, by decide, f1.deal hd, fun r2 H2 h2 f2 => ?_⟩
    refine ⟨_, rfl, _, _, rfl, rfl, ⟨by omega, by omega, by decide⟩, d, l, 10 ^ 30, by rfl, by decide, by decide, f2.deal (f1.deal hd), fun r3 H3 h3 f3 => ?_⟩
    refine ⟨sz_of (by simp), fun p hp => ?_⟩
    have f4 := (f1.trans f2).trans f3
    have hd3 := f4.deal hd
    obtain ⟨n1, n2⟩ := hd3.new hp
    refine ⟨d, l, p, _, rfl, hd3.ex (Ex.new hp), upd_same, n1, n2, by simp, by simp, fun v H4 hv f5 => ?_⟩
    have f6 := (f4.exd (Ex.new hp)).trans f5
    have big : ∀ n : Nat, n < 10 ^ 30 → n < 2 ^ 200 := fun n h => Nat.lt_trans h (by decide)
    simp only [List.mem_cons, List.not_mem_nil, or_false] at hv
    rcases hv with rfl | rfl | rfl | rfl | rfl | rfl | rfl | rfl
    · exact q 0 _ (by decide) f6
    · exact q 1 _ (by decide) f6
    · exact q 1 _ (by decide) f6
    · exact q 2 _ (by decide) f6
    · exact q 3 _ (by decide) f6
    · exact q r1 _ (big _ (Nat.lt_trans h1 (by decide))) f6
    · exact q r2 _ (big _ (Nat.lt_trans h2 (by decide))) f6
    · exact q r3 _ (big _ h3) f6
end
end Kx
namespace Kx
open PySem PySem.Spec PyProof.Rows L2 Evl

section
variable {P : Program} {w : World} {K : PySem.W.Frag} {mg : Str → Option Value} {base : Heap}

/-! _law_steps: slots 0 _law_some, 1 _law_state, 2 _law_change; cells ['_law_some'] -/
abbrev s_law_steps : Stmt := top 45
theorem sc_law_steps : FnScope ["_law_some", "_law_state", "_law_change"] ["_law_some"] (defScope s_law_steps) := ⟨rfl, rfl, rfl, by decide +kernel, rfl, by decide +kernel, by decide +kernel⟩
abbrev scNest : Scope := relS { kind := .function, names := [(".0", .local), ("_law_state", .cell), ("_law_some", .free)], isGenerator := false, isCoroutine := false } (defScope s_law_steps)
def rowOf (cs : List (List Nat)) (s : Nat) : List Nat := cs.map fun c => ap c s
def spSteps : Sp := fun vs H Q _ => ∃ a xs cs n, vs = [.ref a] ∧ H a = some (.lst xs) ∧ Cols H xs cs ∧ Tab n cs ∧
  ∀ p us H', H p = none → Ex H H' → H' p = some (.lst us) → us.length = n → (∀ s, s < n → ∃ q, us[s]? = some (.ref q) ∧ H' q = some (.lst (nv (rowOf cs s)))) → Q (.ref p) H'
theorem c__law_steps (T : Txt K mg) : Cal P w K mg base CX0 1 "_law_steps" ["_law_some"] (spSteps) :=
  cal_of T._law_steps sc_law_steps (fun _ _ _ _ _ _ us hl => match us, hl with | [_], _ => rfl) (fun vs H Q E h => by obtain ⟨_, _, _, _, rfl, _⟩ := h; rfl) fun f cdv A outer s H vs Q E hr h => by
    refine ⟨_, pss_nox (pss_one (ps_ret (pe_lc (own := [("_law_state", 1)]) (tt := tYes) (by rfl) sc_law_steps.nd (pi_range1 (by rfl) T.n_range (pa_cons (pe_callB (lenK K rfl) (by rfl) T.n_len (by decide +kernel) (pa_cons (pe_ix (ixL K rfl) (pv 0) pe_int (fun _ _ => rfl)) pa_nil)) pa_nil)) (blkOk_by (N := ["_law_some", "_law_state", "_law_change"]) (sc := defScope s_law_steps) (by decide +kernel)) (fun _ _ _ _ _ => (pg_name (i := 1) sc_law_steps.nd rfl (Or.inr rfl))) (fun _ _ _ _ _ => pts_nil) (fun _ _ _ _ _ => (pe_lc (own := [("_law_change", 2)]) (tt := tYes) (by rfl) sc_law_steps.nd (pi_listK K rfl (pv 0)) (blkOk_by (N := ["_law_some", "_law_state", "_law_change"]) (sc := scNest) (by decide +kernel)) (fun _ _ _ _ _ => (pg_name (i := 2) sc_law_steps.nd rfl (Or.inl rfl))) (fun _ _ _ _ _ => pts_nil) (fun _ _ _ _ _ => (pe_ix (ixT K rfl) (pv 2) (pv 1) (fun _ _ => rfl)))))))), ?_⟩
    obtain ⟨a, xs, cs, n, rfl, ha, hC, hT, q⟩ := h
    have h0 : 0 < cs.length := len_pos hT.2.2.1
    obtain ⟨hc0, hc1, hc2⟩ := hT.get h0
    obtain ⟨q0, hq0, hq1⟩ := hC.get hc0
    have hn24 := hT.2.1
    refine ⟨_, rfl, a, xs, 0, _, rfl, rfl, sq_of ha, atI_nat (j := 0) hq0, q0, _, rfl, .inr (st_of hq1), _, rfl, by rw [nv_len]; omega, by rw [nv_len]; omega, fun Dl hD => ?_⟩
    rw [nv_len, hc2, show ((n : Nat) : Int).toNat = n by omega]
    refine lc_range (lo := 0) (n := n) (fun i H' => Ex H H' ∧ ∃ us, H' Dl = some (.lst us) ∧ us.length = i ∧ ∀ s, s < i → ∃ q, us[s]? = some (.ref q) ∧ q ≠ Dl ∧ H' q = some (.lst (nv (rowOf cs s)))) ⟨Ex.new hD, [], upd_same, rfl, fun s h => absurd h (Nat.not_lt_zero _)⟩ ?_ ?_
    · rintro i H' hi ⟨e, us, k1, k2, k3⟩
      refine ⟨rfl, ?_⟩
      refine (lc_L (a := a) (xs := xs) (Ex.frame H') (fun _ => true) (fun j y => y = .int (ap (cs.getD j []) i : Nat)) (fun _ _ => False) (fun Q k => ⟨_, rfl, k H' (Ex.refl _) (sq_of (e _ _ ha))⟩) (fun H1 e1 => sq_of (e1 _ _ (e _ _ ha))) (by rw [hC.len]; have := hT.2.2.2.1; omega) (fun x => by rfl)
        (fun j x H1 _ _ Qb k => tYes_go (Ex.frame H') Qb k) (fun j x H1 e1 hx _ Q k => ?_) (fun p H2 ys hp e2 hy pr => ?_) :
        tLc (iList K (tVar 0)) (gName 2) tYes (tOp (rIxT K) (tVar 2) (tVar 1)) [2] [some (.ref a), some (.int ((0 : Int) + (i : Nat))), none] H' fun y H4 => ∃ acc, H4 Dl = some (.lst acc) ∧ acc.length < sizeLine ∧ (Ex H (upd H4 Dl (.lst (acc ++ [y]))) ∧ ∃ us, (upd H4 Dl (.lst (acc ++ [y]))) Dl = some (.lst us) ∧ us.length = i + 1 ∧ ∀ s, s < i + 1 → ∃ q, us[s]? = some (.ref q) ∧ q ≠ Dl ∧ (upd H4 Dl (.lst (acc ++ [y]))) q = some (.lst (nv (rowOf cs s)))))
      · have hj : j < cs.length := by rw [← hC.len]; exact (List.getElem?_eq_some_iff.mp hx).1
        obtain ⟨hc0, hc1, hc2⟩ := hT.get hj
        obtain ⟨q0, hq0, hq1⟩ := hC.get hc0
        rw [hx] at hq0
        cases hq0
        refine ⟨_, rfl, _, rfl, q0, nv (cs.getD j []), (0 : Int) + i, _, rfl, rfl, st_of (e1 _ _ (e _ _ hq1)), ?_, k _ H1 (Ex.refl _) (.inl rfl)⟩
        rw [Int.zero_add]
        exact nv_at (ap_get (by rw [hc2]; exact hi))
      · rw [filt_yes, hC.len] at pr
        have ey := paired_pure pr
        have hpD : p ≠ Dl := fun z => by rw [z, k1] at hp; cases hp
        refine ⟨us, e2 _ _ k1, sz_lt (by omega), (e.trans e2).mut hD, _, upd_same, by simp [k2], fun s hs => ?_⟩
        by_cases hsi : s < i
        · obtain ⟨q1, m1, m2, m3⟩ := k3 s hsi
          refine ⟨q1, ?_, m2, ?_⟩
          · rw [List.getElem?_append_left (by omega)]; exact m1
          · rw [upd_ne m2]; exact e2 _ _ m3
        · obtain rfl : s = i := by omega
          refine ⟨p, ?_, hpD, ?_⟩
          · rw [List.getElem?_append_right (by omega), k2, Nat.sub_self]; rfl
          · rw [upd_ne hpD, hy, ey]
            congr 2
            unfold nv rowOf
            rw [List.map_map]
            apply List.ext_getElem?
            intro j
            by_cases hj : j < cs.length
            · rw [List.getElem?_map, List.getElem?_range hj, List.getElem?_map, (hT.get hj).1]
              rfl
            · rw [List.getElem?_eq_none (by simpa using hj), List.getElem?_eq_none (by simpa using hj)]
    · rintro H' ⟨e, us, k1, k2, k3⟩
      exact q Dl us H' hD e k1 k2 fun s hs => let ⟨q1, m1, _, m3⟩ := k3 s hs; ⟨q1, m1, m3⟩

/-! _law_columns: slots 0 _law_many, 1 _law_deal, 2 _law_form, 3 _law_to, 4 _law_state; cells ['_law_deal', '_law_many', '_law_to'] -/
abbrev s_law_columns : Stmt := top 43
theorem sc_law_columns : FnScope ["_law_many", "_law_deal", "_law_form", "_law_to", "_law_state"] ["_law_many", "_law_deal", "_law_form"] (defScope s_law_columns) := ⟨rfl, rfl, rfl, by decide +kernel, rfl, by decide +kernel, by decide +kernel⟩
def RetC (d l : Addr) (n : Nat) (H : Hp) (Q : VK) : Prop := ∀ p c H', Fd d l H H' → H' p = some (.tup (nv c)) → c.length = n → Below n c → Q (.ref p) H'
def spCol : Sp := fun vs H Q _ => ∃ (n : Nat) (d l : Addr) (f : Int), vs = [.int (n : Nat), .ref d, .int f] ∧ 0 < n ∧ n ≤ 24 ∧ Deal d l H ∧ RetC d l n H Q
theorem col_way {d l : Addr} {n : Nat} {H : Hp} {Q : VK} {ta : TA} {te : TE} {σ : L2.St} {j : Nat} {vs : List Nat} (hd : Deal d l H) (hn : n ≤ 24) (hi : ∀ Q : List V → Hp → Prop, Q [.int (n : Nat)] H → ta σ H Q) (hw : ∀ x, wipe ((wipe σ vs).set j (some x)) vs = wipe σ vs)
    (he : ∀ (i : Nat) H1, Fd d l H H1 → i < n → ∀ Q : VK, (∀ (c : Nat) H2, Fd d l H1 H2 → c < n → Q (.int (c : Nat)) H2) → te ((wipe σ vs).set j (some (.int (i : Nat)))) H1 Q) (q : RetC d l n H Q) :
    tCB (rTupS K) (tCons (tLc (iRng1 ta) (gName j) tYes te vs) tNil) σ H Q := by
  refine cb1 (lc_R1 (n := (n : Int)) (Fd.frame hd) (fun _ => true) (fun _ y => ∃ c : Nat, y = .int (c : Int) ∧ c < n) (fun _ _ => False) ⟨by omega, by omega⟩ (fun Q k => hi Q (k H (Fd.refl H))) hw (fun i H1 _ _ Qb k => tYes_go (Fd.frame hd) Qb k)
    (fun i H1 f1 h1 _ Q k => he i H1 f1 (by omega) Q fun c H2 f2 hc => k _ H2 f2 (.inl ⟨c, rfl, hc⟩)) fun p H2 ys hp f hy pr => ?_)
  rw [filt_yes] at pr
  obtain ⟨cs, rfl, h1, h2⟩ := paired_nats pr
  exact ⟨p, _, rfl, .inl ⟨sq_of hy, fun r hr => q r cs _ (f.exd (Ex.new hr)) upd_same (by rw [h1]; simp) h2⟩⟩
theorem nv_mem {c : List Nat} {y : V} (h : y ∈ nv c) : ∃ i ∈ c, y = .int (i : Nat) := by
  obtain ⟨i, h1, h2⟩ := List.mem_map.mp h
  exact ⟨i, h1, h2.symm⟩
theorem nv_of {P : Nat → Prop} : ∀ {ys : List V}, (∀ y ∈ ys, ∃ i : Nat, y = .int (i : Int) ∧ P i) → ∃ c, ys = nv c ∧ c.length = ys.length ∧ ∀ x ∈ c, P x
  | [], _ => ⟨[], rfl, rfl, fun x h => by cases h⟩
  | y :: ys, h => by
    obtain ⟨i, rfl, hi⟩ := h y List.mem_cons_self
    obtain ⟨c, h1, h2, h3⟩ := nv_of (ys := ys) fun z hz => h z (List.mem_cons_of_mem _ hz)
    refine ⟨i :: c, by rw [h1]; rfl, by simp [h2], fun x hx => ?_⟩
    rcases List.mem_cons.mp hx with rfl | hx
    · exact hi
    · exact h3 x hx
theorem itm_nv (H : Hp) (c : List Nat) : ∀ x ∈ nv c, Itm H x := fun x hx => by
  obtain ⟨i, _, rfl⟩ := nv_mem hx
  exact .inl ⟨_, rfl⟩
theorem nv_rep (n k : Nat) : (List.replicate n [V.int (k : Int)]).flatten = nv (List.replicate n k) := by
  induction n with
  | zero => rfl
  | succ n ih =>
    rw [List.replicate_succ, List.flatten_cons, ih, List.replicate_succ]
    rfl
theorem c__law_columns (T : Txt K mg) : Cal P w K mg base CX0 3 "_law_columns" ["_law_many", "_law_deal", "_law_form"] (spCol) :=
  cal_of T._law_columns sc_law_columns (fun _ _ _ _ _ _ us hl => match us, hl with | [_, _, _], _ => rfl) (fun vs H Q E h => by obtain ⟨_, _, _, _, rfl, _⟩ := h; rfl) fun f cdv A outer s H vs Q E hr h => by
    have C_law_any := c__law_any (P := P) (w := w) (base := base) T
    have C_law_mixed := c__law_mixed (P := P) (w := w) (base := base) T
    refine ⟨_, pss_nox (pss_cons (ps_set (i := 3) sc_law_columns.nd rfl (Or.inr rfl) (pe_cal C_law_any (hr.mono (by decide)) pass0 (pa_cons (pv 1) (pa_cons (pv 0) pa_nil))))
        (pss_cons (ps_if (pt_cmpR op_eq (pv 2) pe_int (nomark _)) (pss_one (ps_ret (pe_callTy (tupK K rfl) (by rfl) T.n_tuple (by decide +kernel) (pa_cons (pe_lc (own := [("_law_state", 4)]) (tt := tYes) (by rfl) sc_law_columns.nd (pi_range1 (by rfl) T.n_range (pa_cons (pv 0) pa_nil)) (blkOk_by (N := ["_law_many", "_law_deal", "_law_form", "_law_to", "_law_state"]) (sc := defScope s_law_columns) (by decide +kernel)) (fun _ _ _ _ _ => (pg_name (i := 4) sc_law_columns.nd rfl (Or.inl rfl))) (fun _ _ _ _ _ => pts_nil) (fun _ _ _ _ _ => (pe_callB (max2 rfl) (by rfl) T.n_max (by decide +kernel) (pa_cons pe_int (pa_cons (pe_op op_sub (pv 4) pe_int) pa_nil))))) pa_nil)))) pss_nil)
        (pss_cons (ps_if (pt_cmpR op_eq (pv 2) pe_int (nomark _)) (pss_one (ps_ret (pe_callTy (tupK K rfl) (by rfl) T.n_tuple (by decide +kernel) (pa_cons (pe_lc (own := [("_law_state", 4)]) (tt := tYes) (by rfl) sc_law_columns.nd (pi_range1 (by rfl) T.n_range (pa_cons (pv 0) pa_nil)) (blkOk_by (N := ["_law_many", "_law_deal", "_law_form", "_law_to", "_law_state"]) (sc := defScope s_law_columns) (by decide +kernel)) (fun _ _ _ _ _ => (pg_name (i := 4) sc_law_columns.nd rfl (Or.inl rfl))) (fun _ _ _ _ _ => pts_nil) (fun _ _ _ _ _ => (pe_callB (min2 rfl) (by rfl) T.n_min (by decide +kernel) (pa_cons (pe_op op_sub (pv 0) pe_int) (pa_cons (pe_op op_add (pe_op op_add (pv 4) pe_int) (pe_op op_mod (pv 3) pe_int)) pa_nil))))) pa_nil)))) pss_nil)
        (pss_cons (ps_if (pt_cmpR op_eq (pv 2) pe_int (nomark _)) (pss_one (ps_ret (pe_callTy (tupK K rfl) (by rfl) T.n_tuple (by decide +kernel) (pa_cons (pe_lc (own := [("_law_state", 4)]) (tt := tYes) (by rfl) sc_law_columns.nd (pi_range1 (by rfl) T.n_range (pa_cons (pv 0) pa_nil)) (blkOk_by (N := ["_law_many", "_law_deal", "_law_form", "_law_to", "_law_state"]) (sc := defScope s_law_columns) (by decide +kernel)) (fun _ _ _ _ _ => (pg_name (i := 4) sc_law_columns.nd rfl (Or.inl rfl))) (fun _ _ _ _ _ => pts_nil) (fun _ _ _ _ _ => (pe_op op_mod (pe_callTy int1 (by rfl) T.n_int (by decide +kernel) (pa_cons (pe_op op_add (pv 4) (pv 3)) pa_nil)) (pv 0)))) pa_nil)))) pss_nil)
        (pss_cons (ps_if (pt_cmpR op_eq (pv 2) pe_int (nomark _)) (pss_one (ps_ret (pe_callTy (tupK K rfl) (by rfl) T.n_tuple (by decide +kernel) (pa_cons (pe_op op_rep (pe_lst (pa_cons (pv 3) pa_nil)) (pv 0)) pa_nil)))) pss_nil)
        (pss_cons (ps_if (pt_cmpR op_eq (pv 2) pe_int (nomark _)) (pss_one (ps_ret (pe_callTy (tupK K rfl) (by rfl) T.n_tuple (by decide +kernel) (pa_cons (pe_cal C_law_mixed (hr.mono (by decide)) pass0 (pa_cons (pv 1) (pa_cons (pe_listRg rfl (by rfl) T.n_list (prg_1 (by rfl) T.n_range (pv 0))) pa_nil))) pa_nil)))) pss_nil)
        (pss_cons (ps_if (pt_cmpR op_eq (pv 2) pe_int (nomark _)) (pss_one (ps_ret (pe_callTy (tupK K rfl) (by rfl) T.n_tuple (by decide +kernel) (pa_cons (pe_lc (own := [("_law_state", 4)]) (tt := tYes) (by rfl) sc_law_columns.nd (pi_range1 (by rfl) T.n_range (pa_cons (pv 0) pa_nil)) (blkOk_by (N := ["_law_many", "_law_deal", "_law_form", "_law_to", "_law_state"]) (sc := defScope s_law_columns) (by decide +kernel)) (fun _ _ _ _ _ => (pg_name (i := 4) sc_law_columns.nd rfl (Or.inl rfl))) (fun _ _ _ _ _ => pts_nil) (fun _ _ _ _ _ => (pe_callB (max2 rfl) (by rfl) T.n_max (by decide +kernel) (pa_cons pe_int (pa_cons (pe_op op_sub (pe_op op_sub (pv 4) pe_int) (pe_op op_mod (pv 3) pe_int)) pa_nil))))) pa_nil)))) pss_nil)
        (pss_one (ps_ret (pe_callTy (tupK K rfl) (by rfl) T.n_tuple (by decide +kernel) (pa_cons (pe_lc (own := [("_law_state", 4)]) (tt := tYes) (by rfl) sc_law_columns.nd (pi_range1 (by rfl) T.n_range (pa_cons (pv 0) pa_nil)) (blkOk_by (N := ["_law_many", "_law_deal", "_law_form", "_law_to", "_law_state"]) (sc := defScope s_law_columns) (by decide +kernel)) (fun _ _ _ _ _ => (pg_name (i := 4) sc_law_columns.nd rfl (Or.inl rfl))) (fun _ _ _ _ _ => pts_nil) (fun _ _ _ _ _ => (pe_cal C_law_any (hr.mono (by decide)) pass0 (pa_cons (pv 1) (pa_cons (pv 0) pa_nil))))) pa_nil))))))))))), ?_⟩
    obtain ⟨n, d, l, f, rfl, hn, hn2, hd, q⟩ := h
    refine ⟨_, rfl, _, rfl, d, l, n, rfl, hn, Nat.lt_of_le_of_lt hn2 (by decide), hd, fun to H1 hto f1 => ?_⟩
    have hd1 := f1.deal hd
    have q1 : RetC d l n H1 Q := fun p c H' f2 => q p c H' (f1.trans f2)
    by_cases h0 : f = 0
    · subst h0
      refine ⟨_, rfl, rfl, true, by simp, ?_⟩
      refine ite_t (ret1 (col_way hd1 hn2 (fun Q k => ⟨_, rfl, k⟩) (fun x => rfl) (fun i H2 f2 hi Q k => ?_) q1))
      refine ⟨_, rfl, _, _, rfl, rfl, _, _, rfl, ?_⟩
      rw [show (if (i : Int) - 1 > 0 then (i : Int) - 1 else 0) = ((i - 1 : Nat) : Int) by split <;> omega]
      exact k _ H2 (Fd.refl _) (by omega)
    refine ⟨_, rfl, rfl, false, by simp [h0], ?_⟩
    by_cases h1 : f = 1
    · subst h1
      refine ⟨_, rfl, rfl, true, by simp, ?_⟩
      refine ite_t (ret1 (col_way hd1 hn2 (fun Q k => ⟨_, rfl, k⟩) (fun x => rfl) (fun i H2 f2 hi Q k => ?_) q1))
      refine ⟨_, rfl, _, _, rfl, rfl, _, rfl, _, _, rfl, rfl, _, rfl, _, _, rfl, rfl, by omega, _, _, rfl, rfl, _, _, rfl, ?_⟩
      rw [show (if (i : Int) + 1 + (to : Int) % 2 < (n : Int) - 1 then (i : Int) + 1 + (to : Int) % 2 else (n : Int) - 1) = ((min (n - 1) (i + 1 + to % 2) : Nat) : Int) by split <;> omega]
      exact k _ H2 (Fd.refl _) (by omega)
    refine ⟨_, rfl, rfl, false, by simp [h1], ?_⟩
    by_cases h2 : f = 2
    · subst h2
      refine ⟨_, rfl, rfl, true, by simp, ?_⟩
      refine ite_t (ret1 (col_way hd1 hn2 (fun Q k => ⟨_, rfl, k⟩) (fun x => rfl) (fun i H2 f2 hi Q k => ?_) q1))
      obtain ⟨r, hr1, hr2⟩ := modr (x := (i : Int) + (to : Int)) hn
      refine ⟨_, rfl, _, rfl, _, _, rfl, rfl, .inl ⟨_, rfl, _, rfl, _, _, rfl, rfl, by omega, ?_⟩⟩
      dsimp only
      rw [hr1]
      exact k r H2 (Fd.refl _) hr2
    refine ⟨_, rfl, rfl, false, by simp [h2], ?_⟩
    by_cases h3 : f = 3
    · subst h3
      refine ⟨_, rfl, rfl, true, by simp, ?_⟩
      refine ⟨_, rfl, sz_of (by simp), fun p hp => ⟨_, rfl, p, _, _, rfl, rfl, upd_same, by omega, by omega, ?_, fun r hr => ⟨r, _, rfl, .inl ⟨sq_of upd_same, fun s hs => ?_⟩⟩⟩⟩
      · exact sz_of (by simp; omega)
      · refine q1 s (List.replicate n to) _ (.of_ex (((Ex.new hp).trans (Ex.new hr)).trans (Ex.new hs))) ?_ (by simp) (fun x hx => ?_)
        · rw [upd_same, show ((n : Nat) : Int).toNat = n by omega, nv_rep]
        · rw [List.eq_of_mem_replicate hx]; exact hto
    refine ⟨_, rfl, rfl, false, by simp [h3], ?_⟩
    by_cases h4 : f = 4
    · subst h4
      refine ⟨_, rfl, rfl, true, by simp, ?_⟩
      refine ⟨_, rfl, _, rfl, _, rfl, .of_le (by omega) (by omega) (by omega) (by omega), fun p hp => ?_⟩
      obtain ⟨p1, p2⟩ := hd1.new hp
      rw [rg_nv]
      refine ⟨d, l, p, _, rfl, hd1.ex (Ex.new hp), upd_same, p1, p2, by rw [nv_len, List.length_range]; omega, itm_nv _ _, fun r ys H2 r1 r2 hr f2 hy hl hm => ?_⟩
      obtain ⟨c, rfl, c1, c2⟩ := nv_of (P := fun x => x < n) (ys := ys) fun y hy => by
        obtain ⟨i, hi, e⟩ := nv_mem (hm y hy)
        exact ⟨i, e, List.mem_range.mp hi⟩
      refine ⟨r, _, rfl, .inl ⟨sq_of hy, fun s hs => q1 s c _ ((Fd.of_ex (Ex.new hp)).trans (f2.exd (Ex.new hs))) upd_same ?_ c2⟩⟩
      rw [c1, hl, nv_len, List.length_range]
    refine ⟨_, rfl, rfl, false, by simp [h4], ?_⟩
    by_cases h5 : f = 5
    · subst h5
      refine ⟨_, rfl, rfl, true, by simp, ?_⟩
      refine ite_t (ret1 (col_way hd1 hn2 (fun Q k => ⟨_, rfl, k⟩) (fun x => rfl) (fun i H2 f2 hi Q k => ?_) q1))
      refine ⟨_, rfl, _, _, rfl, rfl, _, rfl, _, _, rfl, rfl, by omega, _, _, rfl, rfl, _, _, rfl, ?_⟩
      rw [show (if (i : Int) - 1 - (to : Int) % 2 > 0 then (i : Int) - 1 - (to : Int) % 2 else 0) = ((i - 1 - to % 2 : Nat) : Int) by split <;> omega]
      exact k _ H2 (Fd.refl _) (by omega)
    refine ⟨_, rfl, rfl, false, by simp [h5], ?_⟩
    refine ite_f (next1 ?_)
    dsimp only
    refine ret1 (col_way hd1 hn2 (fun Q k => ⟨_, rfl, k⟩) (fun x => rfl) (fun i H2 f2 hi Q k => ?_) q1)
    exact ⟨_, rfl, _, rfl, d, l, n, rfl, hn, Nat.lt_of_le_of_lt hn2 (by decide), f2.deal hd1, fun r H3 hr2 f3 => k r H3 f3 hr2⟩
end
end Kx
namespace Kx
open PySem PySem.Spec PyProof.Rows L2 Evl

section
variable {P : Program} {w : World} {K : PySem.W.Frag} {mg : Str → Option Value} {base : Heap}

/-! _law_members: slots 0 _law_firsts, 1 _law_end, 2 _law_most, 3 _law_found, 4 _law_at, 5 _law_s, 6 _law_one; cells ['_law_most'] -/
abbrev s_law_members : Stmt := top 41
theorem sc_law_members : FnScope ["_law_firsts", "_law_end", "_law_most", "_law_found", "_law_at", "_law_s", "_law_one"] ["_law_firsts", "_law_end", "_law_most"] (defScope s_law_members) := ⟨rfl, rfl, rfl, by decide +kernel, rfl, by decide +kernel, by decide +kernel⟩
def spMembers (K : PySem.W.Frag) : Sp := fun vs H Q _ => ∃ (a : Addr) (fs : List Nat) (e : Nat) (most : Int), vs = [.ref a, .int (e : Nat), .int most] ∧ H a = some (.lst (nv fs)) ∧ 0 < e ∧ most ≤ 100 ∧ fs.length ≤ 100 ∧
  ∀ p ms H', H p = none → Ex H H' → H' p = some (.lst (nv ms)) → ms.length ≤ 300 → (∀ c ∈ ms, (c : Int) ≤ most) → Q (.ref p) H'
theorem nv_app (c : List Nat) (x : Nat) : nv c ++ [.int (x : Int)] = nv (c ++ [x]) := by simp [nv]
theorem c__law_members (T : Txt K mg) : Cal P w K mg base CX0 1 "_law_members" ["_law_firsts", "_law_end", "_law_most"] (spMembers K) :=
  cal_of T._law_members sc_law_members (fun _ _ _ _ _ _ us hl => match us, hl with | [_, _, _], _ => rfl) (fun vs H Q E h => by obtain ⟨_, _, _, _, rfl, _⟩ := h; rfl) fun f cdv A outer s H vs Q E hr h => by
    refine ⟨_, pss_nox (pss_cons (ps_par (i := 3) (j := 4) (by rfl) sc_law_members.nd rfl rfl (by decide) rfl rfl (pa_cons (pe_lst pa_nil) (pa_cons pe_int pa_nil)) (by rfl))
        (pss_cons (ps_for PassesOwn.never rfl (pi_listK K rfl (pv 0)) (pg_name (i := 5) sc_law_members.nd rfl (Or.inl rfl)) (pss_cons (ps_expr (pe_bm PySem.F.plainAttrs_list PySem.F.slot_list_append PySem.F.type_list_append mt_append (pv 3) (pa_cons (pv 4) pa_nil)))
        (pss_one (ps_set (i := 4) sc_law_members.nd rfl (Or.inl rfl) (pe_op op_add (pv 4) (pv 5))))))
        (pss_cons (ps_while PassesOwn.never (pt_cmpR op_le (pv 4) (pv 2) (nomark _)) (pss_cons (ps_expr (pe_bm PySem.F.plainAttrs_list PySem.F.slot_list_append PySem.F.type_list_append mt_append (pv 3) (pa_cons (pv 4) pa_nil)))
        (pss_one (ps_set (i := 4) sc_law_members.nd rfl (Or.inl rfl) (pe_op op_add (pv 4) (pv 1))))))
        (pss_one (ps_ret (pe_lc (own := [("_law_one", 6)]) (by rfl) sc_law_members.nd (pi_listK K rfl (pv 3)) (blkOk_by (N := ["_law_firsts", "_law_end", "_law_most", "_law_found", "_law_at", "_law_s", "_law_one"]) (sc := defScope s_law_members) (by decide +kernel)) (fun _ _ _ _ _ => (pg_name (i := 6) sc_law_members.nd rfl (Or.inl rfl))) (fun _ _ _ _ _ => (pts_one (pt_cmpR op_le (pv 6) (pv 2) (nomark _)))) (fun _ _ _ _ _ => (pv 6)))))))), ?_⟩
    obtain ⟨a, fs, e, most, rfl, ha, he, hm, hfl, q⟩ := h
    refine ⟨Nat.zero_le _, fun g hg => ⟨_, _, rfl, ?_⟩⟩
    have e0 : Ex H (upd H g (.lst [])) := Ex.new hg
    have hag : a ≠ g := ne_of_none ha hg
    dsimp only
    refine q_forLn (a := a) (xs := nv fs) (fun H1 _ Q k => ⟨_, rfl, k H1 (Ex.refl _)⟩) (sq_of (e0 _ _ ha))
      (fun i σ H' => ∃ (k0 : Nat) (ms : List Nat) (y : Option V), σ = [some (.ref a), some (.int (e : Nat)), some (.int most), some (.ref g), some (.int (k0 : Nat)), y, none] ∧ Ex H H' ∧ H' g = some (.lst (nv ms)) ∧ ms.length = i)
      (fun H1 e1 => ⟨0, [], _, rfl, e0.trans e1, e1 _ _ upd_same, rfl⟩) (fun i σ H' _ ⟨_, _, _, _, e, _⟩ => sq_of (e _ _ ha)) ?_ ?_
    · rintro i x σ H' hx ⟨k0, ms, y, rfl, e1, k1, k2⟩
      obtain ⟨s, hs, rfl⟩ := nv_get_of hx
      have hi : i < fs.length := (List.getElem?_eq_some_iff.mp hs).1
      refine ⟨_, rfl, .inl ⟨rfl, _, sq_of k1⟩, _, rfl, g, _, _, rfl, rfl, k1, by rw [nv_len]; exact sz_lt (by omega), ?_⟩
      refine ⟨_, rfl, _, rfl, _, _, rfl, rfl, k0 + s, ms ++ [k0], _, rfl, e1.mut hg, ?_, by simp [k2]⟩
      rw [upd_same, nv_app]
    · rintro σ H' ⟨k0, ms, y, rfl, e1, k1, k2⟩
      rw [nv_len] at k2
      refine ⟨fun m σ H' => ∃ (k0 : Nat) (ms : List Nat), σ = [some (.ref a), some (.int (e : Nat)), some (.int most), some (.ref g), some (.int (k0 : Nat)), y, none] ∧ Ex H H' ∧ H' g = some (.lst (nv ms)) ∧ ms.length + m ≤ 220 ∧ m = (most + 1 - (k0 : Int)).toNat, ⟨_, k0, ms, rfl, e1, k1, by omega, rfl⟩, ?_⟩
      rintro m σ H2 ⟨k02, ms2, rfl, e2, k3, k4, rfl⟩
      by_cases hle : (k02 : Int) ≤ most
      · refine ⟨_, rfl, _, rfl, _, _, rfl, rfl, true, by simp [hle], ?_⟩
        refine ⟨fun σ H3 => ∃ (k0 : Nat) (ms : List Nat), σ = [some (.ref a), some (.int (e : Nat)), some (.int most), some (.ref g), some (.int (k0 : Nat)), y, none] ∧ Ex H H3 ∧ H3 g = some (.lst (nv ms)) ∧ ms.length = ms2.length + 1 ∧ k0 = k02 + e, ?_, ?_⟩
        · rintro σ H3 ⟨k03, ms3, z1, z2, z3, z4, z5⟩
          exact ⟨(most + 1 - (k03 : Int)).toNat, by omega, k03, ms3, z1, z2, z3, by omega, rfl⟩
        · refine ⟨_, rfl, .inl ⟨rfl, _, sq_of k3⟩, _, rfl, g, _, _, rfl, rfl, k3, by rw [nv_len]; exact sz_lt (by omega), ?_⟩
          refine ⟨_, rfl, _, rfl, _, _, rfl, rfl, k02 + e, ms2 ++ [k02], rfl, e2.mut hg, ?_, by simp, rfl⟩
          rw [upd_same, nv_app]
      · refine ⟨_, rfl, _, rfl, _, _, rfl, rfl, false, by simpa using hle, ?_⟩
        refine ite_f ?_
        dsimp only
        refine ret1 ?_
        refine lc_L (a := g) (xs := nv ms2) (Ex.frame H2) (fun i => decide ((ms2.getD i 0 : Int) ≤ most)) (fun _ y => ∃ c : Nat, y = .int (c : Int) ∧ (c : Int) ≤ most) (fun _ _ => False)
          (fun Q k => ⟨_, rfl, k _ (Ex.refl _) (sq_of k3)⟩) (fun H3 e3 => sq_of (e3 _ _ k3)) (by rw [nv_len]; omega) (fun x => rfl) (fun i x H1 e3 hx Qb k => ?_) (fun i x H1 e3 hx hf Q k => ?_) (fun r H3 ys hr0 e3 hy3 pr => ?_)
        · obtain ⟨s, hs, rfl⟩ := nv_get_of hx
          have := k H1 (Ex.refl _)
          rw [List.getD_eq_getElem?_getD, hs] at this
          exact ⟨_, rfl, _, rfl, _, _, rfl, rfl, _, rfl, this⟩
        · obtain ⟨s, hs, rfl⟩ := nv_get_of hx
          rw [List.getD_eq_getElem?_getD, hs] at hf
          exact ⟨_, rfl, k _ _ (Ex.refl _) (.inl ⟨s, rfl, of_decide_eq_true hf⟩)⟩
        · obtain ⟨gs, rfl, hg1, hg2⟩ := paired_nats pr
          refine q r gs H3 (fresh_back e2 hr0) (e2.trans e3) hy3 ?_ hg2
          rw [hg1]
          refine Nat.le_trans (List.length_filter_le _ _) ?_
          rw [List.length_range, nv_len]
          omega

/-! _law_two: slots 0 _law_firsts, 1 _law_end, 2 _law_one, 3 _law_other, 4 _law_s, 5 _law_many, 6 _law_ones, 7 _law_others, 8 _law_longer, 9 _law_second, 10 _law_q, 11 _law_r, 12 _law_state; cells ['_law_end', '_law_many', '_law_one', '_law_other', '_law_s'] -/
abbrev s_law_two : Stmt := top 40
theorem sc_law_two : FnScope ["_law_firsts", "_law_end", "_law_one", "_law_other", "_law_s", "_law_many", "_law_ones", "_law_others", "_law_longer", "_law_second", "_law_q", "_law_r", "_law_state"] ["_law_firsts", "_law_end"] (defScope s_law_two) := ⟨rfl, rfl, rfl, by decide +kernel, rfl, by decide +kernel, by decide +kernel⟩
def prd : List Nat → Nat
  | [] => 1
  | s :: r => 2 * s * prd r
theorem prd_app : ∀ a b, prd (a ++ b) = prd a * prd b
  | [], b => by simp [prd]
  | s :: a, b => by
    rw [List.cons_append, prd, prd, prd_app a b]
    simp only [Nat.mul_assoc]
theorem prd_rev : ∀ a, prd a.reverse = prd a
  | [] => rfl
  | s :: a => by
    rw [List.reverse_cons, prd_app, prd_rev a]
    simp [prd, Nat.mul_comm]
theorem prd_pos : ∀ {a : List Nat}, (∀ s ∈ a, 0 < s) → 0 < prd a
  | [], _ => by simp [prd]
  | s :: a, h => by
    have h1 := h s List.mem_cons_self
    have h2 := prd_pos (a := a) fun x hx => h x (List.mem_cons_of_mem _ hx)
    exact Nat.mul_pos (by omega) h2
theorem prd_step {l : List Nat} {i s : Nat} (h : l[i]? = some s) : prd (l.take (i + 1)) = prd (l.take i) * (2 * s) := by
  rw [List.take_add_one, h, prd_app]
  simp [prd]
theorem prd_le {l : List Nat} (h : ∀ s ∈ l, 0 < s) (i : Nat) : prd (l.take i) ≤ prd l := by
  conv => rhs; rw [← List.take_append_drop i l, prd_app]
  exact Nat.le_mul_of_pos_right _ (prd_pos fun s hs => h s (List.mem_of_mem_drop hs))
theorem prd_pos_take {l : List Nat} (h : ∀ s ∈ l, 0 < s) (i : Nat) : 0 < prd (l.take i) := prd_pos fun s hs => h s (List.mem_of_mem_take hs)
def Two (H : Hp) (p : Addr) (n : Nat) : Prop := ∃ q1 q2 c1 c2, H p = some (.lst [.ref q1, .ref q2]) ∧ H q1 = some (.tup (nv c1)) ∧ H q2 = some (.tup (nv c2)) ∧ c1.length = n ∧ c2.length = n ∧ Below n c1 ∧ Below n c2
def spTwo (K : PySem.W.Frag) : Sp := fun vs H Q _ => ∃ (a : Addr) (fs : List Nat) (e : Nat), vs = [.ref a, .int (e : Nat)] ∧ H a = some (.tup (nv fs)) ∧ 0 < e ∧ (∀ s ∈ fs, 0 < s) ∧ e * prd fs ≤ 24 ∧
  ∀ p H', H p = none → Ex H H' → Two H' p (e * prd fs) → Q (.ref p) H'
theorem place_lt {m s q r side : Nat} (hq : q < m) (hr : r + 1 ≤ s) (hs : side ≤ 1) : place m s q r side < 2 * m * s := by
  unfold place
  obtain ⟨t, rfl⟩ : ∃ t, s = t + 1 := ⟨s - 1, by omega⟩
  obtain ⟨k, rfl⟩ : ∃ k, m = q + 1 + k := ⟨m - q - 1, by omega⟩
  have e1 : 2 * (q + 1 + k) * (t + 1) = 2 * (q + 1 + k) + 2 * (q * t + t + k * t) := by grind
  rw [e1, show t + 1 - 1 = t by omega]
  have : 0 ≤ k * t := Nat.zero_le _
  split
  · omega
  · omega
/-- [power(tuple(l), s - r) for r in range(s)] -/
theorem ones_way {H : Hp} {Q : VK} {m s : Nat} {o : Addr} {c : List Nat} {σ : L2.St} {te1 te2 ts : TE} {E : XK} {j : Nat} {vs : List Nat} (ho : H o = some (.lst (nv c))) (hc : Chg c) (hm : c.length = m) (hs : s ≤ 1000) (hw : ∀ x, wipe ((wipe σ vs).set j (some x)) vs = wipe σ vs)
    (h0 : ∀ H' (Q : VK), Q (.int (s : Nat)) H' → ts σ H' Q)
    (h1 : ∀ x H' (Q : VK), Q (.ref o) H' → te1 ((wipe σ vs).set j (some x)) H' Q) (h2 : ∀ (i : Nat) H' (Q : VK), i < s → Q (.int ((s - i : Nat) : Nat)) H' → te2 ((wipe σ vs).set j (some (.int (i : Nat)))) H' Q)
    (q : ∀ p us H', H p = none → Ex H H' → H' p = some (.lst us) → (∀ r, r < s → ∃ q d, us[r]? = some (.ref q) ∧ H' q = some (.tup (nv d)) ∧ d.length = m ∧ Below m d) → Q (.ref p) H') :
    tLc (iRng1 (tCons ts tNil)) (gName j) tYes (tCall spPower [] E (tCons (tCB (rTupS K) (tCons te1 tNil)) (tCons te2 tNil))) vs σ H Q := by
  refine lc_R1 (n := (s : Int)) (Ex.frame H) (fun _ => true) (fun _ _ => False) (fun _ xs => ∃ d, xs = nv d ∧ d.length = m ∧ Below m d) ⟨by omega, by omega⟩ (fun Q k => h0 H _ (k H (Ex.refl H))) hw (fun i H1 _ _ Qb k => tYes_go (Ex.frame H) Qb k) (fun i H1 e1 hi _ Q k => ?_) (fun p H2 ys hp e hy pr => ?_)
  · refine h1 _ H1 _ ⟨o, _, rfl, .inl ⟨sq_of (e1 _ _ ho), fun t ht => h2 i _ _ (by omega) ⟨t, c, s - i, rfl, upd_same, hc, fun p2 H3 e3 h3 => k _ H3 ((Ex.new ht).trans e3) (.inr ⟨p2, _, rfl, h3, _, rfl, ?_, ?_⟩)⟩⟩⟩
    · rw [pw_len, hm]
    · rw [← hm]; exact pw_lt hc _
  · rw [filt_yes] at pr
    have pr := paired_tups pr
    refine q p ys H2 hp e hy fun r hr => ?_
    have hl : ys.length = s := by rw [← paired_len pr, List.length_range]; omega
    obtain ⟨a, _, q1, xs, h3, h4, d, rfl, h5, h6⟩ := paired_get pr r _ (List.getElem?_eq_getElem (by omega))
    exact ⟨q1, d, by rw [List.getElem?_eq_getElem (by omega), h3], h4, h5, h6⟩
/-- [place(many, s, q, s - 1, side) for q in range(many)] -/
theorem seconds_way {H : Hp} {Q : VK} {m s side : Nat} {σ : L2.St} {tm ta tb tq td ts : TE} {E : XK} {j : Nat} {vs : List Nat} (hm : m ≤ 24) (hs0 : 0 < s) (hs : s ≤ 24) (hsd : side ≤ 1) (hw : ∀ x, wipe ((wipe σ vs).set j (some x)) vs = wipe σ vs)
    (h0 : ∀ H' (Q : VK), Q (.int (m : Nat)) H' → tm σ H' Q)
    (h1 : ∀ (i : Nat) H' (Q : List V → Hp → Prop), i < m → Q [.int (m : Nat), .int (s : Nat), .int (i : Nat), .int ((s - 1 : Nat) : Nat), .int (side : Nat)] H' → (tCons ta (tCons tb (tCons tq (tCons td (tCons ts tNil))))) ((wipe σ vs).set j (some (.int (i : Nat)))) H' Q)
    (q : ∀ p d H', H p = none → Ex H H' → H' p = some (.lst (nv d)) → d.length = m → Below (2 * m * s) d → Q (.ref p) H') :
    tLc (iRng1 (tCons tm tNil)) (gName j) tYes (tCall spPlace [] E (tCons ta (tCons tb (tCons tq (tCons td (tCons ts tNil)))))) vs σ H Q := by
  refine lc_R1 (n := (m : Int)) (Ex.frame H) (fun _ => true) (fun _ y => ∃ c : Nat, y = .int (c : Int) ∧ c < 2 * m * s) (fun _ _ => False) ⟨by omega, by omega⟩ (fun Q k => h0 H _ (k H (Ex.refl H))) hw (fun i H1 _ _ Qb k => tYes_go (Ex.frame H) Qb k) (fun i H1 e1 hi _ Q k => ?_) (fun p H2 ys hp e hy pr => ?_)
  · exact h1 i H1 _ (by omega) ⟨m, s, i, s - 1, side, rfl, hs0, by omega, by omega, by omega, by omega, k _ H1 (Ex.refl _) (.inl ⟨_, rfl, place_lt (by omega) (by omega) hsd⟩)⟩
  · rw [filt_yes] at pr
    obtain ⟨c, rfl, h2, h3⟩ := paired_nats pr
    exact q p c H2 hp e hy (by rw [h2]; simp) h3
/-- a place appended -/
theorem app_place {H : Hp} {l : Addr} {m s qq r side : Nat} {c : List Nat} {σ : L2.St} {tl ta tb tq tr ts : TE} {E : XK} {D : Ends} (hl : H l = some (.lst (nv c))) (hc : c.length ≤ 1000) (hs0 : 0 < s) (hs : s ≤ 24) (hm : m ≤ 24) (hq : qq < m) (hr : r + 1 ≤ s) (hsd : side ≤ 1)
    (h0 : ∀ (Q : VK), Q (.ref l) H → tl σ H Q)
    (h1 : ∀ (Q : List V → Hp → Prop), Q [.int (m : Nat), .int (s : Nat), .int (qq : Nat), .int (r : Nat), .int (side : Nat)] H → (tCons ta (tCons tb (tCons tq (tCons tr (tCons ts tNil))))) σ H Q)
    (k : ∀ x, x < 2 * m * s → D.nx σ (upd H l (.lst (nv (c ++ [x]))))) :
    tDrop (tBM K "list" rAppend tl (tCons (tCall spPlace [] E (tCons ta (tCons tb (tCons tq (tCons tr (tCons ts tNil)))))) tNil)) D σ H := by
  refine h0 _ ⟨.inl ⟨rfl, _, sq_of hl⟩, cons1 (call1 (h1 _ ⟨m, s, qq, r, side, rfl, hs0, by omega, by omega, by omega, by omega, l, _, _, rfl, rfl, hl, by rw [nv_len]; exact sz_lt (by omega), ?_⟩))⟩
  rw [nv_app]
  exact k _ (place_lt hq hr hsd)
theorem below_app {n x : Nat} {c : List Nat} (h : Below n c) (hx : x < n) : Below n (c ++ [x]) := fun y hy => by
  rcases List.mem_append.mp hy with hy | hy
  · exact h y hy
  · rw [List.mem_singleton.mp hy]; exact hx
theorem below_app2 {n : Nat} {c d : List Nat} (h : Below n c) (hx : Below n d) : Below n (c ++ d) := fun y hy => by
  rcases List.mem_append.mp hy with hy | hy
  · exact h y hy
  · exact hx y hy
theorem below_mono {n m : Nat} {c : List Nat} (h : Below n c) (k : n ≤ m) : Below m c := fun x hx => Nat.lt_of_lt_of_le (h x hx) k
theorem nv_app2 (c d : List Nat) : nv c ++ nv d = nv (c ++ d) := by simp [nv]
theorem nv_rev (c : List Nat) : (nv c).reverse = nv c.reverse := by simp [nv]
theorem c__law_two (T : Txt K mg) : Cal P w K mg base CX0 3 "_law_two" ["_law_firsts", "_law_end"] (spTwo K) :=
  cal_of T._law_two sc_law_two (fun _ _ _ _ _ _ us hl => match us, hl with | [_, _], _ => rfl) (fun vs H Q E h => by obtain ⟨_, _, _, rfl, _⟩ := h; rfl) fun f cdv A outer s H vs Q E hr h => by
    have C_law_place := c__law_place (P := P) (w := w) (base := base) T
    have C_law_power := c__law_power (P := P) (w := w) (base := base) T
    refine ⟨_, pss_nox (pss_cons (ps_asg (pe_tup (pa_cons (pe_listRg rfl (by rfl) T.n_list (prg_1 (by rfl) T.n_range (pv 1))) (pa_cons (pe_lc (own := [("_law_state", 12)]) (tt := tYes) (by rfl) sc_law_two.nd (pi_range1 (by rfl) T.n_range (pa_cons (pv 1) pa_nil)) (blkOk_by (N := ["_law_firsts", "_law_end", "_law_one", "_law_other", "_law_s", "_law_many", "_law_ones", "_law_others", "_law_longer", "_law_second", "_law_q", "_law_r", "_law_state"]) (sc := defScope s_law_two) (by decide +kernel)) (fun _ _ _ _ _ => (pg_name (i := 12) sc_law_two.nd rfl (Or.inl rfl))) (fun _ _ _ _ _ => pts_nil) (fun _ _ _ _ _ => (pe_op op_mod (pe_callTy int1 (by rfl) T.n_int (by decide +kernel) (pa_cons (pe_op op_add (pv 12) pe_int) pa_nil)) (pv 1)))) pa_nil))) (pg_tupK K rfl 2 rfl (pgs_cons (pg_name (i := 2) sc_law_two.nd rfl (Or.inr rfl)) (pgs_cons (pg_name (i := 3) sc_law_two.nd rfl (Or.inr rfl)) pgs_nil))))
        (pss_cons (ps_for PassesOwn.never rfl (pi_tupK K rfl (pe_revTK K rfl (pv 0))) (pg_name (i := 4) sc_law_two.nd rfl (Or.inr rfl)) (pss_cons (ps_set (i := 5) sc_law_two.nd rfl (Or.inr rfl) (pe_callB (lenK K rfl) (by rfl) T.n_len (by decide +kernel) (pa_cons (pv 2) pa_nil)))
        (pss_cons (ps_par (i := 6) (j := 7) (by rfl) sc_law_two.nd rfl rfl (by decide) rfl rfl (pa_cons (pe_lc (own := [("_law_r", 11)]) (tt := tYes) (by rfl) sc_law_two.nd (pi_range1 (by rfl) T.n_range (pa_cons (pv 4) pa_nil)) (blkOk_by (N := ["_law_firsts", "_law_end", "_law_one", "_law_other", "_law_s", "_law_many", "_law_ones", "_law_others", "_law_longer", "_law_second", "_law_q", "_law_r", "_law_state"]) (sc := defScope s_law_two) (by decide +kernel)) (fun _ _ _ _ _ => (pg_name (i := 11) sc_law_two.nd rfl (Or.inl rfl))) (fun _ _ _ _ _ => pts_nil) (fun _ _ _ _ _ => (pe_cal C_law_power (hr.mono (by decide)) pass0 (pa_cons (pe_callTy (tupK K rfl) (by rfl) T.n_tuple (by decide +kernel) (pa_cons (pv 2) pa_nil)) (pa_cons (pe_op op_sub (pv 4) (pv 11)) pa_nil))))) (pa_cons (pe_lc (own := [("_law_r", 11)]) (tt := tYes) (by rfl) sc_law_two.nd (pi_range1 (by rfl) T.n_range (pa_cons (pv 4) pa_nil)) (blkOk_by (N := ["_law_firsts", "_law_end", "_law_one", "_law_other", "_law_s", "_law_many", "_law_ones", "_law_others", "_law_longer", "_law_second", "_law_q", "_law_r", "_law_state"]) (sc := defScope s_law_two) (by decide +kernel)) (fun _ _ _ _ _ => (pg_name (i := 11) sc_law_two.nd rfl (Or.inl rfl))) (fun _ _ _ _ _ => pts_nil) (fun _ _ _ _ _ => (pe_cal C_law_power (hr.mono (by decide)) pass0 (pa_cons (pe_callTy (tupK K rfl) (by rfl) T.n_tuple (by decide +kernel) (pa_cons (pv 3) pa_nil)) (pa_cons (pe_op op_sub (pv 4) (pv 11)) pa_nil))))) pa_nil)) (by rfl))
        (pss_cons (ps_set (i := 8) sc_law_two.nd rfl (Or.inl rfl) (pe_op op_cat (pv 2) (pe_lc (own := [("_law_q", 10)]) (tt := tYes) (by rfl) sc_law_two.nd (pi_range1 (by rfl) T.n_range (pa_cons (pv 5) pa_nil)) (blkOk_by (N := ["_law_firsts", "_law_end", "_law_one", "_law_other", "_law_s", "_law_many", "_law_ones", "_law_others", "_law_longer", "_law_second", "_law_q", "_law_r", "_law_state"]) (sc := defScope s_law_two) (by decide +kernel)) (fun _ _ _ _ _ => (pg_name (i := 10) sc_law_two.nd rfl (Or.inl rfl))) (fun _ _ _ _ _ => pts_nil) (fun _ _ _ _ _ => (pe_cal C_law_place (hr.mono (by decide)) pass0 (pa_cons (pv 5) (pa_cons (pv 4) (pa_cons (pv 10) (pa_cons (pe_op op_sub (pv 4) pe_int) (pa_cons pe_int pa_nil))))))))))
        (pss_cons (ps_set (i := 9) sc_law_two.nd rfl (Or.inl rfl) (pe_op op_cat (pv 3) (pe_lc (own := [("_law_q", 10)]) (tt := tYes) (by rfl) sc_law_two.nd (pi_range1 (by rfl) T.n_range (pa_cons (pv 5) pa_nil)) (blkOk_by (N := ["_law_firsts", "_law_end", "_law_one", "_law_other", "_law_s", "_law_many", "_law_ones", "_law_others", "_law_longer", "_law_second", "_law_q", "_law_r", "_law_state"]) (sc := defScope s_law_two) (by decide +kernel)) (fun _ _ _ _ _ => (pg_name (i := 10) sc_law_two.nd rfl (Or.inl rfl))) (fun _ _ _ _ _ => pts_nil) (fun _ _ _ _ _ => (pe_cal C_law_place (hr.mono (by decide)) pass0 (pa_cons (pv 5) (pa_cons (pv 4) (pa_cons (pv 10) (pa_cons (pe_op op_sub (pv 4) pe_int) (pa_cons pe_int pa_nil))))))))))
        (pss_cons (ps_for PassesOwn.never rfl (pi_range1 (by rfl) T.n_range (pa_cons (pv 5) pa_nil)) (pg_name (i := 10) sc_law_two.nd rfl (Or.inl rfl)) (pss_one (ps_for PassesOwn.never rfl (pi_range2 (by rfl) T.n_range (pa_cons pe_int (pa_cons (pv 4) pa_nil))) (pg_name (i := 11) sc_law_two.nd rfl (Or.inl rfl)) (pss_cons (ps_expr (pe_bm PySem.F.plainAttrs_list PySem.F.slot_list_append PySem.F.type_list_append mt_append (pv 8) (pa_cons (pe_cal C_law_place (hr.mono (by decide)) pass0 (pa_cons (pv 5) (pa_cons (pv 4) (pa_cons (pv 10) (pa_cons (pe_op op_sub (pv 11) pe_int) (pa_cons pe_int pa_nil)))))) pa_nil)))
        (pss_cons (ps_expr (pe_bm PySem.F.plainAttrs_list PySem.F.slot_list_append PySem.F.type_list_append mt_append (pv 9) (pa_cons (pe_cal C_law_place (hr.mono (by decide)) pass0 (pa_cons (pv 5) (pa_cons (pv 4) (pa_cons (pe_ix (ixT K rfl) (pe_ix (ixL K rfl) (pv 6) (pv 11) (fun _ _ => rfl)) (pv 10) (fun _ _ => rfl)) (pa_cons (pe_op op_sub (pv 4) pe_int) (pa_cons pe_int pa_nil)))))) pa_nil)))
        (pss_cons (ps_expr (pe_bm PySem.F.plainAttrs_list PySem.F.slot_list_append PySem.F.type_list_append mt_append (pv 8) (pa_cons (pe_cal C_law_place (hr.mono (by decide)) pass0 (pa_cons (pv 5) (pa_cons (pv 4) (pa_cons (pe_ix (ixT K rfl) (pe_ix (ixL K rfl) (pv 7) (pv 11) (fun _ _ => rfl)) (pv 10) (fun _ _ => rfl)) (pa_cons (pe_op op_sub (pv 4) pe_int) (pa_cons pe_int pa_nil)))))) pa_nil)))
        (pss_one (ps_expr (pe_bm PySem.F.plainAttrs_list PySem.F.slot_list_append PySem.F.type_list_append mt_append (pv 9) (pa_cons (pe_cal C_law_place (hr.mono (by decide)) pass0 (pa_cons (pv 5) (pa_cons (pv 4) (pa_cons (pv 10) (pa_cons (pe_op op_sub (pv 11) pe_int) (pa_cons pe_int pa_nil)))))) pa_nil))))))))))
        (pss_one (ps_asg (pe_tup (pa_cons (pv 8) (pa_cons (pv 9) pa_nil))) (pg_tupK K rfl 2 rfl (pgs_cons (pg_name (i := 2) sc_law_two.nd rfl (Or.inr rfl)) (pgs_cons (pg_name (i := 3) sc_law_two.nd rfl (Or.inr rfl)) pgs_nil)))))))))))
        (pss_one (ps_ret (pe_lst (pa_cons (pe_callTy (tupK K rfl) (by rfl) T.n_tuple (by decide +kernel) (pa_cons (pv 2) pa_nil)) (pa_cons (pe_callTy (tupK K rfl) (by rfl) T.n_tuple (by decide +kernel) (pa_cons (pv 3) pa_nil)) pa_nil))))))), ?_⟩
    obtain ⟨a, fs, e, rfl, ha, he, hf, hsz, q⟩ := h
    have hpp := prd_pos hf
    have hel : e ≤ 24 := Nat.le_trans (Nat.le_mul_of_pos_right e hpp) hsz
    refine ⟨_, rfl, _, rfl, .of_le (by omega) (by omega) (by omega) (by omega), fun o1 ho1 => ?_⟩
    have e1 : Ex H (upd H o1 (.lst (rgV 0 (e : Int)))) := Ex.new ho1
    refine cons1 (lc_R1 (n := (e : Int)) (Ex.frame _) (fun _ => true) (fun _ y => ∃ c : Nat, y = .int (c : Int) ∧ c < e) (fun _ _ => False) ⟨by omega, by omega⟩ (fun Q k => ⟨_, rfl, k _ (Ex.refl _)⟩) (fun x => rfl) (fun i H1 _ _ Qb k => tYes_go (Ex.frame H) Qb k)
      (fun i H1 f1 h1 _ Q k => ?_) (fun o2 H2 ys ho2 e2 hy pr => ?_))
    · obtain ⟨r, hr1, hr2⟩ := modr (x := (i : Int) + 1) he
      refine ⟨_, rfl, _, _, rfl, rfl, .inl ⟨_, rfl, _, rfl, _, _, rfl, rfl, by omega, ?_⟩⟩
      dsimp only
      rw [hr1]
      exact k _ H1 (Ex.refl _) (.inl ⟨r, rfl, hr2⟩)
    rw [filt_yes] at pr
    obtain ⟨c2, rfl, hc1, hc2⟩ := paired_nats pr
    rw [List.length_range, show ((e : Nat) : Int).toNat = e by omega] at hc1
    have ho1' : H2 o1 = some (.lst (nv (List.range e))) := by
      have := e2 _ _ (upd_same (H := H) (a := o1) (o := .lst (rgV 0 (e : Int))))
      rw [rg_nv] at this
      exact this
    have e3 : Ex H H2 := e1.trans e2
    refine ⟨sz_of (by simp), fun p hp => ⟨p, _, rfl, st_of upd_same, rfl, _, _, rfl, _, _, rfl, rfl, ?_⟩⟩
    have e4 : Ex H (upd H2 p (.tup [.ref o1, .ref o2])) := e3.trans (Ex.new hp)
    dsimp only
    refine seq1 ⟨_, rfl, a, _, rfl, st_of (e4 _ _ ha), fun rv hrv => ?_⟩
    have e5 := e4.trans (Ex.new (o := .tup (nv fs).reverse) hrv)
    refine ⟨rv, rfl, ⟨_, st_of upd_same⟩, for_tup (xs := nv fs.reverse) (fun i σ H' => ∃ (o1 o2 : Addr) (c1 c2 : List Nat) (y4 y5 y6 y7 y8 y9 y10 y11 : Option V), σ = [some (.ref a), some (.int (e : Nat)), some (.ref o1), some (.ref o2), y4, y5, y6, y7, y8, y9, y10, y11, none] ∧ Ex H H' ∧ H' rv = some (.tup (nv fs.reverse)) ∧
      H' o1 = some (.lst (nv c1)) ∧ H' o2 = some (.lst (nv c2)) ∧ c1.length = e * prd (fs.reverse.take i) ∧ c2.length = e * prd (fs.reverse.take i) ∧ Below (e * prd (fs.reverse.take i)) c1 ∧ Below (e * prd (fs.reverse.take i)) c2) ?_ ?_ ?_ ?_⟩
    · refine ⟨o1, o2, List.range e, c2, _, _, _, _, _, _, _, _, rfl, e5, by rw [← nv_rev]; exact upd_same, Ex.new hrv _ _ (Ex.new hp _ _ ho1'), Ex.new hrv _ _ (Ex.new hp _ _ hy), ?_⟩
      rw [show prd (fs.reverse.take 0) = 1 from rfl, Nat.mul_one]
      exact ⟨by simp, hc1, fun x hx => List.mem_range.mp hx, hc2⟩
    · rintro i σ H' _ ⟨_, _, _, _, _, _, _, _, _, _, _, _, _, _, h, _⟩
      exact st_of h
    · rintro i x σ H' hx ⟨o1, o2, c1, c2, y4, y5, y6, y7, y8, y9, y10, y11, rfl, e6, hrv6, h1, h2, l1, l2, b1, b2⟩
      obtain ⟨s, hs, rfl⟩ := nv_get_of hx
      have hfr : ∀ s ∈ fs.reverse, 0 < s := fun s h => hf s (List.mem_reverse.mp h)
      have hs0 : 0 < s := hfr s (List.mem_of_getElem? hs)
      have hle : e * prd (fs.reverse.take (i + 1)) ≤ 24 := Nat.le_trans (Nat.mul_le_mul_left e (prd_le hfr (i + 1))) (by rw [prd_rev]; exact hsz)
      rw [prd_step hs] at hle
      have hpt := prd_pos_take hfr i
      have hnext : e * prd (fs.reverse.take (i + 1)) = 2 * (e * prd (fs.reverse.take i)) * s := by
        rw [prd_step hs]; grind
      have hle2 : 2 * (e * prd (fs.reverse.take i)) * s ≤ 24 := by
        rw [← hnext, prd_step hs]; exact hle
      rw [hnext]
      have hm0 : 0 < e * prd (fs.reverse.take i) := Nat.mul_pos he hpt
      generalize e * prd (fs.reverse.take i) = m at *
      have hm24 : m ≤ 24 := by
        have := Nat.le_mul_of_pos_right (2 * m) hs0
        omega
      have hs24 : s ≤ 24 := by
        have : 1 * s ≤ 2 * m * s := Nat.mul_le_mul_right s (by omega)
        omega
      have k1 : Chg c1 := ⟨by omega, by omega, by rw [l1]; exact b1⟩
      have k2 : Chg c2 := ⟨by omega, by omega, by rw [l2]; exact b2⟩
      refine ⟨_, rfl, o1, _, rfl, .inl (sq_of h1), ?_⟩
      rw [nv_len, l1]
      dsimp only
      refine seq1 (par1 (cons1 (ones_way h1 k1 l1 (by omega) (fun x => rfl) (fun H' Q k => ⟨_, rfl, k⟩) (fun x H' Q k => ⟨_, rfl, k⟩) (fun j H' Q hj k => ⟨_, rfl, _, rfl, _, _, rfl, rfl, ?_⟩) (fun u1 us1 H7 hu1 e7 hus1 hr1 => ?_))))
      · dsimp only
        rw [show ((s : Int) - (j : Int)) = ((s - j : Nat) : Int) by omega]
        exact k
      refine cons1 (ones_way (e7 _ _ h2) k2 l2 (by omega) (fun x => rfl) (fun H' Q k => ⟨_, rfl, k⟩) (fun x H' Q k => ⟨_, rfl, k⟩) (fun j H' Q hj k => ⟨_, rfl, _, rfl, _, _, rfl, rfl, ?_⟩) (fun u2 us2 H8 hu2 e8 hus2 hr2 => ?_))
      · dsimp only
        rw [show ((s : Int) - (j : Int)) = ((s - j : Nat) : Int) by omega]
        exact k
      refine ⟨_, _, rfl, ?_⟩
      have x8 : Ex H' H8 := e7.trans e8
      dsimp only
      refine seq1 (asg1 (op1 ⟨_, rfl, ?_⟩))
      have sub1 : ((s : Int) - 1) = ((s - 1 : Nat) : Int) := by omega
      refine seconds_way (m := m) (s := s) (side := 0) hm24 hs0 hs24 (by omega) (fun x => rfl) (fun H' Q k => ⟨_, rfl, k⟩) (fun j H' Q hj k => ⟨_, rfl, _, rfl, _, rfl, _, rfl, _, _, rfl, rfl, ?_⟩) (fun v1 d1 H9 hv1 e9 hd1 ld1 bd1 => ?_)
      · dsimp only; rw [sub1]; exact k
      refine ⟨o1, v1, _, _, rfl, rfl, e9 _ _ (x8 _ _ h1), hd1, by rw [nv_len, nv_len]; exact sz_of (by omega), fun g1 hg1 => ?_⟩
      rw [nv_app2]
      have x9 : Ex H8 (upd H9 g1 (.lst (nv (c1 ++ d1)))) := e9.trans (Ex.new hg1)
      dsimp only
      refine seq1 (asg1 (op1 ⟨_, rfl, ?_⟩))
      refine seconds_way (m := m) (s := s) (side := 1) hm24 hs0 hs24 (by omega) (fun x => rfl) (fun H' Q k => ⟨_, rfl, k⟩) (fun j H' Q hj k => ⟨_, rfl, _, rfl, _, rfl, _, rfl, _, _, rfl, rfl, ?_⟩) (fun v2 d2 H10 hv2 e10 hd2 ld2 bd2 => ?_)
      · dsimp only; rw [sub1]; exact k
      refine ⟨o2, v2, _, _, rfl, rfl, e10 _ _ (x9 _ _ (x8 _ _ h2)), hd2, by rw [nv_len, nv_len]; exact sz_of (by omega), fun g2 hg2 => ?_⟩
      rw [nv_app2]
      have x10 : Ex H8 (upd H10 g2 (.lst (nv (c2 ++ d2)))) := (x9.trans e10).trans (Ex.new hg2)
      have hg1' : H10 g1 = some (.lst (nv (c1 ++ d1))) := e10 _ _ upd_same
      have g12 : g1 ≠ g2 := ne_of_none hg1' hg2
      have fg1 : H8 g1 = none := fresh_back e9 hg1
      have fg2 : H8 g2 = none := fresh_back (x9.trans e10) hg2
      have hmle : m ≤ 2 * m * s := by
        have : 2 * m * 1 ≤ 2 * m * s := Nat.mul_le_mul_left _ hs0
        omega
      dsimp only
      refine q_forR1 (n := (m : Int)) (fun H1 _ Q k => ⟨_, rfl, k H1 (Ex.refl _)⟩) ⟨by omega, by omega⟩
        (fun i2 σ H' => ∃ (x1 x2 : List Nat) (y10 y11 : Option V), σ = [some (.ref a), some (.int (e : Nat)), some (.ref o1), some (.ref o2), some (.int (s : Nat)), some (.int (m : Nat)), some (.ref u1), some (.ref u2), some (.ref g1), some (.ref g2), y10, y11, none] ∧ Ex H8 H' ∧ H' g1 = some (.lst (nv x1)) ∧ H' g2 = some (.lst (nv x2)) ∧
          x1.length = 2 * m + 2 * ((s - 1) * i2) ∧ x2.length = 2 * m + 2 * ((s - 1) * i2) ∧ Below (2 * m * s) x1 ∧ Below (2 * m * s) x2) (fun H1 z => ⟨c1 ++ d1, c2 ++ d2, _, _, rfl, x10.trans z, z _ _ (by rw [upd_ne g12]; exact hg1'), z _ _ upd_same, by simp; omega, by simp; omega, below_app2 (below_mono b1 hmle) bd1, below_app2 (below_mono b2 hmle) bd2⟩) ?_ ?_
      · rintro i2 σ H' hi2 ⟨x1, x2, y10, y11, rfl, ex, k3, k4, k5, k6, k7, k8⟩
        have hi2 : i2 < m := by omega
        have hcap : 2 * m + 2 * ((s - 1) * m) = 2 * m * s := by
          obtain ⟨t, rfl⟩ : ∃ t, s = t + 1 := ⟨s - 1, by omega⟩
          rw [show t + 1 - 1 = t by omega]
          grind
        have hcap2 : (s - 1) * i2 + (s - 1) ≤ (s - 1) * m := by
          have := Nat.mul_le_mul_left (s - 1) (show i2 + 1 ≤ m by omega)
          rw [Nat.mul_succ] at this
          exact this
        refine s_forR2 (lo := 1) (n := (s : Int)) (fun H1 _ Q k => ⟨_, rfl, k H1 (Ex.refl _)⟩) ⟨by omega, by omega, by omega, by omega⟩
          (fun j σ H' => ∃ (x1 x2 : List Nat) (y11 : Option V), σ = [some (.ref a), some (.int (e : Nat)), some (.ref o1), some (.ref o2), some (.int (s : Nat)), some (.int (m : Nat)), some (.ref u1), some (.ref u2), some (.ref g1), some (.ref g2), some (.int (i2 : Nat)), y11, none] ∧ Ex H8 H' ∧ H' g1 = some (.lst (nv x1)) ∧ H' g2 = some (.lst (nv x2)) ∧
            x1.length = 2 * m + 2 * ((s - 1) * i2 + j) ∧ x2.length = 2 * m + 2 * ((s - 1) * i2 + j) ∧ Below (2 * m * s) x1 ∧ Below (2 * m * s) x2) (fun H1 z => ⟨x1, x2, _, rfl, ex.trans z, z _ _ k3, z _ _ k4, k5, k6, k7, k8⟩) ?_ ?_
        · rintro j σ H' hj ⟨x1, x2, y11, rfl, ex, k3, k4, k5, k6, k7, k8⟩
          have hj : j + 1 < s := by omega
          have hj1 : (1 : Int) + (j : Int) = ((j + 1 : Nat) : Int) := by omega
          have hj2 : ((j + 1 : Nat) : Int) - 1 = (j : Int) := by omega
          rw [hj1]
          obtain ⟨q1, f1, m1, m2, m3, m4⟩ := hr1 (j + 1) hj
          obtain ⟨q2, f2, w1, w2, w3, w4⟩ := hr2 (j + 1) hj
          have gi1 : f1[i2]? = some (ap f1 i2) := ap_get (by omega)
          have gi2 : f2[i2]? = some (ap f2 i2) := ap_get (by omega)
          have li1 : ap f1 i2 < m := ap_lt m4 (by omega)
          have li2 : ap f2 i2 < m := ap_lt w4 (by omega)
          -- longer.append(place(many, s, q, r - 1, 0))
          refine seq1 (app_place (m := m) (s := s) (qq := i2) (r := j) (side := 0) k3 (by omega) hs0 hs24 hm24 hi2 (by omega) (by omega) (fun Q k => ⟨_, rfl, k⟩) (fun Q k => ⟨_, rfl, _, rfl, _, rfl, _, rfl, _, _, rfl, rfl, by dsimp only; rw [hj2]; exact k⟩) fun z1 hz1 => ?_)
          have n1 : Ex H8 (upd H' g1 (.lst (nv (x1 ++ [z1])))) := ex.mut fg1
          have n1b : (upd H' g1 (.lst (nv (x1 ++ [z1])))) g2 = some (.lst (nv x2)) := by rw [upd_ne g12.symm]; exact k4
          dsimp only
          refine seq1 (app_place (m := m) (s := s) (qq := ap f1 i2) (r := s - 1) (side := 1) n1b (by omega) hs0 hs24 hm24 li1 (by omega) (by omega) (fun Q k => ⟨_, rfl, k⟩)
            (fun Q k => ⟨_, rfl, _, rfl, _, rfl, _, rfl, u1, us1, _, _, rfl, rfl, sq_of (n1 _ _ (e8 _ _ hus1)), atI_nat m1, _, rfl, q1, nv f1, _, _, rfl, rfl, st_of (n1 _ _ (e8 _ _ m2)), nv_at gi1, _, rfl, _, _, rfl, rfl, by dsimp only; rw [sub1]; exact k⟩) fun z2 hz2 => ?_)
          have n2 := n1.mut (o := .lst (nv (x2 ++ [z2]))) fg2
          have n2b : (upd (upd H' g1 (.lst (nv (x1 ++ [z1])))) g2 (.lst (nv (x2 ++ [z2])))) g1 = some (.lst (nv (x1 ++ [z1]))) := by rw [upd_ne g12]; exact upd_same
          dsimp only
          refine seq1 (app_place (m := m) (s := s) (qq := ap f2 i2) (r := s - 1) (side := 0) n2b (by simp; omega) hs0 hs24 hm24 li2 (by omega) (by omega) (fun Q k => ⟨_, rfl, k⟩)
            (fun Q k => ⟨_, rfl, _, rfl, _, rfl, _, rfl, u2, us2, _, _, rfl, rfl, sq_of (n2 _ _ hus2), atI_nat w1, _, rfl, q2, nv f2, _, _, rfl, rfl, st_of (n2 _ _ w2), nv_at gi2, _, rfl, _, _, rfl, rfl, by dsimp only; rw [sub1]; exact k⟩) fun z3 hz3 => ?_)
          have n3 := n2.mut (o := .lst (nv (x1 ++ [z1] ++ [z3]))) fg1
          have n3b : (upd (upd (upd H' g1 (.lst (nv (x1 ++ [z1])))) g2 (.lst (nv (x2 ++ [z2])))) g1 (.lst (nv (x1 ++ [z1] ++ [z3])))) g2 = some (.lst (nv (x2 ++ [z2]))) := by rw [upd_ne g12.symm]; exact upd_same
          dsimp only
          refine app_place (m := m) (s := s) (qq := i2) (r := j) (side := 1) n3b (by simp; omega) hs0 hs24 hm24 hi2 (by omega) (by omega) (fun Q k => ⟨_, rfl, k⟩) (fun Q k => ⟨_, rfl, _, rfl, _, rfl, _, rfl, _, _, rfl, rfl, by dsimp only; rw [hj2]; exact k⟩) fun z4 hz4 => ?_
          refine ⟨x1 ++ [z1] ++ [z3], x2 ++ [z2] ++ [z4], _, rfl, n3.mut fg2, by rw [upd_ne g12]; exact upd_same, upd_same, by simp; omega, by simp; omega, below_app (below_app k7 hz1) hz3, below_app (below_app k8 hz2) hz4⟩
        · rintro σ H' ⟨x1, x2, y11, rfl, ex, k3, k4, k5, k6, k7, k8⟩
          refine ⟨x1, x2, _, _, rfl, ex, k3, k4, ?_, ?_, k7, k8⟩
          · rw [k5, Nat.mul_succ]; omega
          · rw [k6, Nat.mul_succ]; omega
      · rintro σ H' ⟨x1, x2, y10, y11, rfl, ex, k3, k4, k5, k6, k7, k8⟩
        have hcap : 2 * m + 2 * ((s - 1) * m) = 2 * m * s := by
          obtain ⟨t, rfl⟩ : ∃ t, s = t + 1 := ⟨s - 1, by omega⟩
          rw [show t + 1 - 1 = t by omega]
          grind
        rw [show ((m : Nat) : Int).toNat = m by omega, hcap] at k5 k6
        refine ⟨_, rfl, _, rfl, sz_of (by simp), fun p2 hp2 => ⟨p2, _, rfl, st_of upd_same, rfl, _, _, rfl, _, _, rfl, rfl, ?_⟩⟩
        have n5 := Ex.new (o := .tup [.ref g1, .ref g2]) hp2
        have n6 := (x8.trans ex).trans n5
        exact ⟨g1, g2, x1, x2, _, _, _, _, _, _, _, _, rfl, e6.trans n6, n6 _ _ hrv6, n5 _ _ k3, n5 _ _ k4, k5, k6, k7, k8⟩
    · rintro σ H' ⟨o1, o2, c1, c2, y4, y5, y6, y7, y8, y9, y10, y11, rfl, e6, hrv6, h1, h2, l1, l2, b1, b2⟩
      rw [show prd (fs.reverse.take (nv fs.reverse).length) = prd fs by rw [nv_len, List.take_length, prd_rev]] at l1 l2 b1 b2
      refine ⟨_, rfl, o1, _, rfl, .inl ⟨sq_of h1, fun p1 hp1 => ?_⟩⟩
      have n1 := Ex.new (o := .tup (nv c1)) hp1
      refine ⟨_, rfl, o2, _, rfl, .inl ⟨sq_of (n1 _ _ h2), fun p2 hp2 => ?_⟩⟩
      have n2 := Ex.new (o := .tup (nv c2)) hp2
      refine ⟨sz_of (by simp), fun p3 hp3 => ?_⟩
      have n3 := Ex.new (o := .lst [.ref p1, .ref p2]) hp3
      exact q p3 _ (fresh_back (e6.trans (n1.trans n2)) hp3) (((e6.trans n1).trans n2).trans n3) ⟨p1, p2, c1, c2, upd_same, n3 _ _ (n2 _ _ upd_same), n3 _ _ upd_same, l1, l2, b1, b2⟩
end
end Kx
namespace Kx
open PySem PySem.Spec PyProof.Rows L2 Evl

section
variable {P : Program} {w : World} {K : PySem.W.Frag} {mg : Str → Option Value} {base : Heap}

theorem nv_ints (c : List Nat) : nv c = (c.map fun i : Nat => (i : Int)).map V.int := by
  unfold nv
  rw [List.map_map]
  rfl
theorem cut6 {ss : List Nat} (h : ss ≠ []) : ∃ cs, cutV (nv ss) none (some 6) = nv cs ∧ cs ≠ [] ∧ cs.length ≤ 6 ∧ ∀ c ∈ cs, c ∈ ss := by
  refine ⟨ss.take 6, ?_, ?_, ?_, fun c hc => List.mem_of_mem_take hc⟩
  · unfold cutV
    rw [show HT.sIx (nv ss).length 0 none = 0 from HT.sIx_none _ _, show HT.sIx (nv ss).length (nv ss).length (some 6) = min 6 (nv ss).length from HT.sIx_nat _ _ 6, List.drop_zero, Nat.sub_zero]
    have : nv (ss.take 6) = (nv ss).take 6 := by simp [nv, List.map_take]
    rw [this]
    rcases Nat.le_total 6 (nv ss).length with z | z
    · rw [Nat.min_eq_left z]
    · rw [Nat.min_eq_right z, List.take_of_length_le (Nat.le_refl _), List.take_of_length_le z]
  · cases ss with
    | nil => exact absurd rfl h
    | cons a r => simp
  · rw [List.length_take]; omega
theorem nats_last (cs : List Nat) (h : cs ≠ []) : ∃ c ∈ cs, atI (nv cs) (-1) = some (.int (c : Nat)) ∧ (nv cs)[(nv cs).length - 1]? = some (.int (c : Nat)) := by
  obtain ⟨c, h1, h2, h3⟩ := ints_last (cs.map fun i : Nat => (i : Int)) (fun z => h (List.map_eq_nil_iff.mp z))
  obtain ⟨k, h4, rfl⟩ := List.mem_map.mp h1
  rw [← nv_ints] at h2 h3
  exact ⟨k, h4, h2, h3⟩
/-! _law_falling: slots 0 _law_deal, 1 _law_most, 2 _law_end, 3 _law_firsts, 4 _law_turn, 5 _law_some, 6 _law_one; cells [] -/
abbrev s_law_falling : Stmt := top 42
theorem sc_law_falling : FnScope ["_law_deal", "_law_most", "_law_end", "_law_firsts", "_law_turn", "_law_some", "_law_one"] ["_law_deal", "_law_most"] (defScope s_law_falling) := ⟨rfl, rfl, rfl, by decide +kernel, rfl, by decide +kernel, by decide +kernel⟩
def spFalling : Sp := fun vs H Q _ => ∃ d l, vs = [.ref d, .int 7] ∧ Deal d l H ∧ ∀ p p1 fs (e : Nat) H', Fd d l H H' → H' p = some (.tup [.ref p1, .int (e : Nat)]) → H' p1 = some (.tup (nv fs)) → 0 < e → e ≤ 4 → fs.length ≤ 3 → (∀ s ∈ fs, 0 < s ∧ s ≤ 7) → Q (.ref p) H'
theorem c__law_falling (T : Txt K mg) : Cal P w K mg base CX0 3 "_law_falling" ["_law_deal", "_law_most"] (spFalling) :=
  cal_of T._law_falling sc_law_falling (fun _ _ _ _ _ _ us hl => match us, hl with | [_, _], _ => rfl) (fun vs H Q E h => by obtain ⟨_, _, rfl, _⟩ := h; rfl) fun f cdv A outer s H vs Q E hr h => by
    have C_law_any := c__law_any (P := P) (w := w) (base := base) T
    have C_law_members := c__law_members (P := P) (w := w) (base := base) T
    have C_law_of := c__law_of (P := P) (w := w) (base := base) T
    refine ⟨_, pss_nox (pss_cons (ps_par (i := 2) (j := 3) (by rfl) sc_law_falling.nd rfl rfl (by decide) rfl rfl (pa_cons (pe_cal C_law_of (hr.mono (by decide)) pass0 (pa_cons (pv 0) (pa_cons (pe_lst (pa_cons pe_int (pa_cons pe_int (pa_cons pe_int (pa_cons pe_int (pa_cons pe_int (pa_cons pe_int pa_nil))))))) pa_nil))) (pa_cons (pe_lst pa_nil) pa_nil)) (by rfl))
        (pss_cons (ps_for PassesOwn.never rfl (pi_range1 (by rfl) T.n_range (pa_cons (pe_cal C_law_any (hr.mono (by decide)) pass0 (pa_cons (pv 0) (pa_cons pe_int pa_nil))) pa_nil)) (pg_name (i := 4) sc_law_falling.nd rfl (Or.inl rfl)) (pss_cons (ps_setLc (i := 5) (own := [("_law_one", 6)]) (by rfl) sc_law_falling.nd rfl rfl (sw_true rfl rfl rfl (by decide +kernel)) (pi_listK K rfl (pe_cal C_law_members (hr.mono (by decide)) pass0 (pa_cons (pv 3) (pa_cons (pv 2) (pa_cons (pe_op op_sub (pv 1) (pe_callB (sumK K rfl rfl) (by rfl) T.n_sum (by decide +kernel) (pa_cons (pv 3) pa_nil))) pa_nil))))) (blkOk_by (N := ["_law_deal", "_law_most", "_law_end", "_law_firsts", "_law_turn", "_law_some", "_law_one"]) (sc := defScope s_law_falling) (by decide +kernel)) (fun _ _ _ _ _ => (pg_name (i := 6) sc_law_falling.nd rfl (Or.inl rfl))) (fun _ _ _ _ _ => (pts_one (pt_cmpR op_gt (pv 6) pe_int (nomark _)))) (fun _ _ _ _ _ => (pv 6)))
        (pss_one (ps_if (PW.pt (pw_and (pt_cmpR (neDK K rfl hr.units) (pv 5) (pe_lst pa_nil) (nomark _)) (pw_and1 (PW.pt (pw_or (pt_cmpR (neDK K rfl hr.units) (pv 3) (pe_lst pa_nil) (nomark _)) (pw_or1 (pt_cmpR (neDK K rfl hr.units) (pv 5) (pe_lst (pa_cons (pv 2) pa_nil)) (nomark _)))))))) (pss_one (ps_set (i := 3) sc_law_falling.nd rfl (Or.inl rfl) (pe_op op_cat (pe_lst (pa_cons (pe_cal C_law_of (hr.mono (by decide)) pass0 (pa_cons (pv 0) (pa_cons (pe_slice (slLK K rfl) (pv 5) po_none (po_some pe_int)) pa_nil))) pa_nil)) (pv 3)))) pss_nil))))
        (pss_cons (ps_while PassesOwn.never (PW.pt (pw_and (pt_cmpR (neDK K rfl hr.units) (pv 3) (pe_lst pa_nil) (nomark _)) (pw_and1 (pt_cmpR op_eq (pe_ix (ixL K rfl) (pv 3) (pe_un un_neg pe_int) (fun _ _ => rfl)) (pv 2) (nomark _))))) (pss_one (ps_expr (pe_bm0 PySem.F.plainAttrs_list PySem.F.slot_list_pop PySem.F.type_list_pop mt_pop (pv 3)))))
        (pss_one (ps_ret (pe_tup (pa_cons (pe_callTy (tupK K rfl) (by rfl) T.n_tuple (by decide +kernel) (pa_cons (pv 3) pa_nil)) (pa_cons (pv 2) pa_nil)))))))), ?_⟩
    obtain ⟨d, l, rfl, hd, q⟩ := h
    refine ⟨_, rfl, sz_of (by simp), fun p0 hp0 => ?_⟩
    have hd0 := hd.ex (Ex.new (o := .lst [.int 1, .int 1, .int 1, .int 2, .int 3, .int 4]) hp0)
    obtain ⟨n1, n2⟩ := hd.new hp0
    refine ⟨d, l, p0, _, rfl, hd0, upd_same, n1, n2, by simp, by simp, fun v H1 hv f1 => ?_⟩
    obtain ⟨e, rfl, he0, he4⟩ : ∃ e : Nat, v = .int (e : Int) ∧ 0 < e ∧ e ≤ 4 := by
      simp only [List.mem_cons, List.not_mem_nil, or_false] at hv
      rcases hv with rfl | rfl | rfl | rfl | rfl | rfl
      · exact ⟨1, rfl, by omega, by omega⟩
      · exact ⟨1, rfl, by omega, by omega⟩
      · exact ⟨1, rfl, by omega, by omega⟩
      · exact ⟨2, rfl, by omega, by omega⟩
      · exact ⟨3, rfl, by omega, by omega⟩
      · exact ⟨4, rfl, by omega, by omega⟩
    have f1' : Fd d l H H1 := (Fd.of_ex (Ex.new hp0)).trans f1
    have hd1 := f1'.deal hd
    refine ⟨Nat.zero_le _, fun p3 hp3 => ⟨_, _, rfl, ?_⟩⟩
    obtain ⟨n3, n4⟩ := hd1.new hp3
    have f2 : Fd d l H (upd H1 p3 (.lst [])) := f1'.exd (Ex.new hp3)
    dsimp only
    refine seq1 ⟨_, rfl, d, l, 4, rfl, by decide, by decide, f2.deal hd, fun r H2 hr2 f3 => ⟨(r : Nat), rfl, by omega, by omega, ?_⟩⟩
    rw [show ((r : Nat) : Int).toNat = r by omega]
    refine for_range (lo := 0) (n := r) (fun i σ H' => ∃ (p3 : Addr) (fs : List Nat) (y4 y5 : Option V), σ = [some (.ref d), some (.int 7), some (.int (e : Nat)), some (.ref p3), y4, y5, none] ∧ Fd d l H H' ∧ H' p3 = some (.lst (nv fs)) ∧ p3 ≠ d ∧ p3 ≠ l ∧ H p3 = none ∧ fs.length ≤ i ∧ ∀ s ∈ fs, 0 < s ∧ s ≤ 7)
      ⟨p3, [], _, _, rfl, f2.trans f3, f3.keep _ _ n3 n4 upd_same, n3, n4, (f1'.fresh hd hp3).2, Nat.le_refl _, fun s h => by cases h⟩ ?_ ?_
    · rintro i σ H' hi ⟨p3, fs, y4, y5, rfl, f4, k1, n3, n4, n5, k2, k3⟩
      have hd4 := f4.deal hd
      refine seq1 (asg1 (lc_open ?_))
      refine ⟨_, rfl, _, rfl, _, rfl, _, rfl, p3, fs.map (fun i : Nat => (i : Int)), rfl, by rw [← nv_ints]; exact sq_of k1, 7, (fs.map fun i : Nat => (i : Int)).sum, rfl, rfl, ?_⟩
      have hsum : 0 ≤ (fs.map fun i : Nat => (i : Int)).sum := by
        clear k1 k2 k3
        induction fs with
        | nil => simp
        | cons a r ih => rw [List.map_cons, List.sum_cons]; omega
      refine ⟨p3, fs, e, _, rfl, k1, he0, by omega, by omega, fun p ms H5 hp e5 h5 h6 h7 => ⟨p, rfl, ⟨_, sq_of h5⟩, ?_⟩⟩
      refine lc_Lc (xs := nv ms) (Ex.frame H5) (fun i => decide (0 < ms.getD i 0)) (fun _ y => ∃ c : Nat, y = .int (c : Int) ∧ 0 < c ∧ c ≤ 7) (fun _ _ => False) (fun H6 e6 => sq_of (e6 _ _ h5)) (by rw [nv_len]; omega) (fun x => rfl)
        (fun i x H1 e3 hx Qb k => ?_) (fun i x H1 e3 hx hf Q k => ?_) (fun p5 H6 ys hp5 e6 hy pr => ?_)
      · obtain ⟨s, hs, rfl⟩ := nv_get_of hx
        have := k H1 (Ex.refl _)
        rw [List.getD_eq_getElem?_getD, hs] at this
        refine ⟨_, rfl, _, _, rfl, rfl, _, rfl, ?_⟩
        rw [show decide ((0 : Int) < (s : Int)) = decide (0 < (some s).getD 0) by simp]
        exact this
      · obtain ⟨s, hs, rfl⟩ := nv_get_of hx
        rw [List.getD_eq_getElem?_getD, hs] at hf
        have h9 := h7 s (List.mem_of_getElem? hs)
        have h10 : 0 < s := of_decide_eq_true hf
        exact ⟨_, rfl, k _ _ (Ex.refl _) (.inl ⟨s, rfl, h10, by omega⟩)⟩
      · obtain ⟨ss, rfl, hlen, hss⟩ := paired_nats pr
        have hssl : ss.length ≤ 300 := by
          rw [hlen]
          refine Nat.le_trans (List.length_filter_le _ _) ?_
          rw [List.length_range, nv_len]
          exact h6
        have x6 : Ex H' H6 := e5.trans e6
        have k1' := x6 _ _ k1
        have f6 := f4.exd x6
        have hd6 := f6.deal hd
        have hp50 : H' p5 = none := fresh_back e5 hp5
        obtain ⟨m1, m2⟩ := hd4.new hp50
        have yes : ∀ (D : Ends) (y4 : Option V) H7, ss ≠ [] → Ex H6 H7 → (∀ p3 fs' y4 y5 H8, Fd d l H H8 → H8 p3 = some (.lst (nv fs')) → p3 ≠ d → p3 ≠ l → H p3 = none → fs'.length ≤ i + 1 → (∀ s ∈ fs', 0 < s ∧ s ≤ 7) → D.nx [some (.ref d), some (.int 7), some (.int (e : Nat)), some (.ref p3), y4, y5, none] H8) →
            tAsg (tOp rCat (tLst (tCons (tCall spOf [] E0 (tCons (tVar 0) (tCons (tSl (rSlL K) (tVar 5) tNoPart (tPart (tC (V.int 6)))) tNil))) tNil)) (tVar 3)) (gName 3) D [some (.ref d), some (.int 7), some (.int (e : Nat)), some (.ref p3), y4, some (.ref p5), none] H7 := by
          intro D y4 H7 hne e7 kk
          obtain ⟨cs, hc1, hc2, hc3, hc4⟩ := cut6 hne
          refine ⟨_, rfl, _, rfl, 6, rfl, p5, _, rfl, sq_of (e7 _ _ hy), fun p6 hp6 => ?_⟩
          rw [hc1]
          have f7 := f6.exd (e7.trans (Ex.new (o := .lst (nv cs)) hp6))
          obtain ⟨m3, m4⟩ := ((f6.exd e7).deal hd).new hp6
          refine ⟨d, l, p6, nv cs, rfl, f7.deal hd, upd_same, m3, m4, fun z => hc2 (by cases cs; rfl; cases z), by rw [nv_len]; omega, fun v H8 hv f8 => ⟨sz_of (by simp), fun p7 hp7 => ?_⟩⟩
          obtain ⟨c, hc, rfl⟩ := nv_mem hv
          have f9 := f7.trans f8
          have f10 := f9.exd (Ex.new (o := .lst [.int (c : Nat)]) hp7)
          have k9 : H8 p3 = some (.lst (nv fs)) := f8.keep _ _ n3 n4 (Ex.new hp6 _ _ (e7 _ _ k1'))
          refine ⟨_, rfl, p7, p3, _, _, rfl, rfl, upd_same, Ex.new hp7 _ _ k9, sz_of (by simp [nv_len]; omega), fun p8 hp8 => ?_⟩
          obtain ⟨m5, m6⟩ := (f10.deal hd).new hp8
          refine kk p8 (c :: fs) _ _ _ (f10.exd (Ex.new hp8)) ?_ m5 m6 (f10.fresh hd hp8).2 (by simp; omega) (fun s hs => ?_)
          · rw [upd_same]; rfl
          · rcases List.mem_cons.mp hs with rfl | hs
            · exact hss _ (hc4 _ hc)
            · exact k3 s hs
        refine ⟨_, rfl, Nat.zero_le _, fun o ho => ?_⟩
        have eo := Ex.new (o := .lst []) ho
        refine ne_nil (eo _ _ hy) (itm_nv _ _) upd_same ⟨_, rfl, ?_⟩
        by_cases hsn : ss = []
        · subst hsn
          exact ⟨p3, fs, _, _, rfl, f6.exd eo, eo _ _ k1', n3, n4, n5, by omega, k3⟩
        · rw [show (!(nv ss).isEmpty) = true by cases ss; exact absurd rfl hsn; rfl]
          refine ⟨_, rfl, Nat.zero_le _, fun o2 ho2 => ?_⟩
          have eo2 := eo.trans (Ex.new (o := .lst []) ho2)
          refine ne_nil (eo2 _ _ k1') (itm_nv _ _) upd_same ⟨_, rfl, ?_⟩
          by_cases hfn : fs = []
          · subst hfn
            refine ⟨_, rfl, _, rfl, sz_of (by simp), fun o3 ho3 => ?_⟩
            have eo3 := eo2.trans (Ex.new (o := .lst [.int (e : Nat)]) ho3)
            refine ⟨.list (ss.map fun i : Nat => .int (i : Int)), .list [.int (e : Nat)], .lst (sq_of (eo3 _ _ hy)) (dp_nvs ss), .lst (sq_of upd_same) (.cons (.int _) .nil), (fit_list (n := 0) (fun d hd => by obtain ⟨i, _, rfl⟩ := List.mem_map.mp hd; exact fit_int _)).shaped (by decide), (fit_list (n := 0) (fun d hd => by rw [List.mem_singleton.mp hd]; exact fit_int _)).shaped (by decide), _, rfl, ?_⟩
            generalize (!PyData.eqv (.list (ss.map fun i : Nat => PyData.int (i : Int))) (.list [.int (e : Nat)])) = b
            cases b
            · exact ⟨p3, [], _, _, rfl, f6.exd eo3, eo3 _ _ k1', n3, n4, n5, by simp, k3⟩
            · exact yes _ _ _ hsn eo3 fun p3 fs' y4 y5 H8 a1 a2 a3 a4 a5 a6 a7 => ⟨p3, fs', y4, y5, rfl, a1, a2, a3, a4, a5, a6, a7⟩
          · rw [show (!(nv fs).isEmpty) = true by cases fs; exact absurd rfl hfn; rfl]
            exact yes _ _ _ hsn eo2 fun p3 fs' y4 y5 H8 a1 a2 a3 a4 a5 a6 a7 => ⟨p3, fs', y4, y5, rfl, a1, a2, a3, a4, a5, a6, a7⟩
    · rintro σ H' ⟨p3, fs, y4, y5, rfl, f4, k1, n3, n4, n5, k2, k3⟩
      refine ⟨fun m σ H' => ∃ fs, σ = [some (.ref d), some (.int 7), some (.int (e : Nat)), some (.ref p3), y4, y5, none] ∧ Fd d l H H' ∧ H' p3 = some (.lst (nv fs)) ∧ fs.length ≤ 3 ∧ (∀ s ∈ fs, 0 < s ∧ s ≤ 7) ∧ m = fs.length, ⟨_, fs, rfl, f4, k1, by omega, k3, rfl⟩, ?_⟩
      rintro m σ H2 ⟨fs, rfl, f5, k4, k5, k6, rfl⟩
      have done : ∀ H3, Ex H2 H3 → tRet (tTup (tCons (tCB (rTupS K) (tCons (tVar 3) tNil)) (tCons (tVar 2) tNil))) { nx := fun x H' => Q V.non H', rt := Q } [some (.ref d), some (.int 7), some (.int (e : Nat)), some (.ref p3), y4, y5, none] H3 := by
        intro H3 e3
        refine ⟨_, rfl, p3, _, rfl, .inl ⟨sq_of (e3 _ _ k4), fun p6 hp6 => ⟨_, rfl, sz_of (by simp), fun p7 hp7 => ?_⟩⟩⟩
        exact q p7 p6 fs e _ (f5.exd ((e3.trans (Ex.new hp6)).trans (Ex.new hp7))) upd_same (Ex.new hp7 _ _ upd_same) he0 he4 k5 k6
      refine ⟨_, rfl, Nat.zero_le _, fun o ho => ?_⟩
      have eo := Ex.new (o := .lst []) ho
      refine ne_nil (eo _ _ k4) (itm_nv _ _) upd_same ⟨_, rfl, ?_⟩
      by_cases hfn : fs = []
      · subst hfn
        exact done _ eo
      · rw [show (!(nv fs).isEmpty) = true by cases fs; exact absurd rfl hfn; rfl]
        obtain ⟨c, hc1, hc2, hc3⟩ := nats_last fs hfn
        have hl0 := len_pos hfn
        refine ⟨_, rfl, 1, rfl, p3, _, -1, _, rfl, rfl, sq_of (eo _ _ k4), hc2, _, rfl, rfl, decide (c = e), by simp; omega, ?_⟩
        by_cases hce : c = e
        · rw [decide_eq_true hce]
          refine ⟨fun σ H3 => σ = [some (.ref d), some (.int 7), some (.int (e : Nat)), some (.ref p3), y4, y5, none] ∧ Fd d l H H3 ∧ H3 p3 = some (.lst (nv fs.dropLast)), ?_, ?_⟩
          · rintro σ H3 ⟨h1, h2, h3⟩
            refine ⟨fs.dropLast.length, by rw [List.length_dropLast]; omega, fs.dropLast, h1, h2, h3, by rw [List.length_dropLast]; omega, fun s hs => k6 s (List.dropLast_subset _ hs), rfl⟩
          · refine ⟨_, rfl, .inl ⟨rfl, _, sq_of (eo _ _ k4)⟩, p3, _, _, rfl, rfl, eo _ _ k4, hc3, rfl, ?_, ?_⟩
            · exact (f5.exd eo).mut hd n5
            · rw [upd_same, nv, ← List.map_dropLast]; rfl
        · rw [decide_eq_false hce]
          exact done _ eo
end
end Kx
namespace Kx
open PySem PySem.Spec PyProof.Rows L2 Evl

section
variable {P : Program} {w : World} {K : PySem.W.Frag} {mg : Str → Option Value} {base : Heap}
def RetM (d l : Addr) (H : Hp) (Q : VK) : Prop := ∀ p xs cs n H', Fd d l H H' → p ≠ d → p ≠ l → H' p = some (.lst xs) → Cols H' xs cs → Tab n cs → Q (.ref p) H'
theorem cols_itm {H : Hp} : ∀ {xs : List V} {cs : List (List Nat)}, Cols H xs cs → ∀ x ∈ xs, Itm H x
  | _, _, .nil, x, h => by cases h
  | _, _, .cons ⟨q, h1, h2⟩ t, x, h => by
    rcases List.mem_cons.mp h with rfl | h
    · exact .inr ⟨q, _, h1, by rw [h2, nv_ints]⟩
    · exact cols_itm t x h
theorem cols_mem {H : Hp} : ∀ {xs : List V} {cs : List (List Nat)}, Cols H xs cs → ∀ x ∈ xs, ∃ q, ∃ c ∈ cs, x = .ref q ∧ H q = some (.tup (nv c))
  | _, _, .nil, x, h => by cases h
  | _, _, .cons (b := c) ⟨q, h1, h2⟩ t, x, h => by
    rcases List.mem_cons.mp h with rfl | h
    · exact ⟨q, c, List.mem_cons_self, h1, h2⟩
    · obtain ⟨q, c, h3, h4⟩ := cols_mem t x h
      exact ⟨q, c, List.mem_cons_of_mem _ h3, h4⟩
theorem cols_snoc {H : Hp} {xs : List V} {cs : List (List Nat)} {q : Addr} {c : List Nat} (h : Cols H xs cs) (hq : H q = some (.tup (nv c))) : Cols H (xs ++ [.ref q]) (cs ++ [c]) := paired_snoc h ⟨q, rfl, hq⟩
theorem nv_set (c : List Nat) (i x : Nat) : (nv c).set i (.int (x : Int)) = nv (c.set i x) := by simp [nv, List.map_set]
theorem below_set {n i x : Nat} {c : List Nat} (h : Below n c) (hx : x < n) : Below n (c.set i x) := fun y hy => by
  rcases List.mem_or_eq_of_mem_set hy with hy | rfl
  · exact h y hy
  · exact hx

theorem tailM {d l ps : Addr} {H : Hp} {Q : VK} {xs : List V} {cs : List (List Nat)} {n : Nat} {y1 y3 y4 y5 y6 y7 y8 y9 y10 y11 y12 y13 y14 y15 : Option V} {nx : L2.St → Hp → Prop} (hd : Deal d l H) (hs : H ps = some (.lst xs)) (ns1 : ps ≠ d) (ns2 : ps ≠ l) (hC : Cols H xs cs) (hT : Tab n cs) (q : RetM d l H Q) :
    tSeq (tPar 9 10 (tCons (tCall spMixed [] E0 (tCons (tVar 0) (tCons (tLstRg (tRg1 (tCB (rLenS K) (tCons (tOp (rIxL K) (tVar 2) (tC (.int 0))) tNil)))) tNil))) (tCons (tLst tNil) tNil)))
      (tSeq (tFor (iList K (tCall spMixed [] E0 (tCons (tVar 0) (tCons (tVar 2) tNil)))) (gName 11)
        (tSeq (tAsg (tOp rRep (tLst (tCons (tC (.int 0)) tNil)) (tCB (rLenS K) (tCons (tVar 9) tNil))) (gName 12))
          (tSeq (tFor (iEnumT K (tCons (tVar 11) tNil)) (gTup K 2 (gCons (gName 13) (gCons (gName 14) gNil))) (tAsg (tOp (rIxL K) (tVar 9) (tVar 14)) (gSub (tVar 12) (tOp (rIxL K) (tVar 9) (tVar 13)) rSetL)))
            (tDrop (tBM K "list" rAppend (tVar 10) (tCons (tCB (rTupS K) (tCons (tVar 12) tNil)) tNil))))))
        (tRet (tVar 10))) { nx := nx, rt := Q } [some (.ref d), y1, some (.ref ps), y3, y4, y5, y6, y7, y8, y9, y10, y11, y12, y13, y14, y15] H := by
  have hn0 := hT.1
  have hn24 := hT.2.1
  have hcl := hT.2.2.2.1
  have h0 : 0 < cs.length := len_pos hT.2.2.1
  obtain ⟨hc0, hc1, hc2⟩ := hT.get h0
  obtain ⟨q0, hq0, hq1⟩ := hC.get hc0
  refine ⟨_, rfl, _, rfl, ps, xs, 0, _, rfl, rfl, sq_of hs, atI_nat (j := 0) hq0, q0, _, rfl, .inr (st_of hq1), _, rfl, ?_, fun p hp => ?_⟩
  · rw [nv_len, hc2]
    exact .of_le (by omega) (by omega) (by omega) (by omega)
  rw [nv_len, hc2, rg_nv]
  have ep := Ex.new (o := .lst (nv (List.range n))) hp
  obtain ⟨p1, p2⟩ := hd.new hp
  refine ⟨d, l, p, _, rfl, hd.ex ep, upd_same, p1, p2, by rw [nv_len, List.length_range]; omega, itm_nv _ _, fun r us1 H2 r1 r2 hr f2 hr2 hl hm => ?_⟩
  obtain ⟨ns, rfl, nl, nb⟩ := nv_of (P := fun x => x < n) (ys := us1) fun y hy => by
    obtain ⟨i, hi, e⟩ := nv_mem (hm y hy)
    exact ⟨i, e, List.mem_range.mp hi⟩
  have nl : ns.length = n := by rw [nl, hl, nv_len, List.length_range]
  have F2 : Fd d l H H2 := (Fd.of_ex ep).trans f2
  refine ⟨Nat.zero_le _, fun g hg => ⟨_, _, rfl, ?_⟩⟩
  have eg := Ex.new (o := .lst []) hg
  obtain ⟨g1, g2⟩ := (F2.deal hd).new hg
  have hgr : r ≠ g := ne_of_none hr2 hg
  have F3 := F2.exd eg
  have hg0 : H g = none := (F2.fresh hd hg).2
  refine seq1 ⟨_, rfl, _, rfl, d, l, ps, xs, rfl, F3.deal hd, F3.keep _ _ ns1 ns2 hs, ns1, ns2, by rw [hC.len]; omega, cols_itm (hC.tup F3.tup), fun m us H4 m1 m2 hm0 f4 hm4 hml hmm => ⟨m, rfl, ⟨us, sq_of hm4⟩, ?_⟩⟩
  have F4 := F3.trans f4
  have hgm : g ≠ m := ne_of_none (show (upd H2 g (.lst [])) g = some (.lst []) from upd_same) hm0
  have hr4 : H4 r = some (.lst (nv ns)) := f4.keep _ _ r1 r2 (eg _ _ hr2)
  have hg4 : H4 g = some (.lst []) := f4.keep _ _ g1 g2 upd_same
  have C4 := hC.tup F4.tup
  refine for_list (xs := us) (fun i σ H' => ∃ (fx : List V) (fcs : List (List Nat)) (y11 y12 y13 y14 : Option V), σ = [some (.ref d), y1, some (.ref ps), y3, y4, y5, y6, y7, y8, some (.ref r), some (.ref g), y11, y12, y13, y14, y15] ∧ Fd d l H H' ∧ (∀ a xs, H4 a = some (.tup xs) → H' a = some (.tup xs)) ∧ H' r = some (.lst (nv ns)) ∧ H' m = some (.lst us) ∧ H' g = some (.lst fx) ∧ Cols H' fx fcs ∧ fcs.length = i ∧ ∀ c ∈ fcs, c.length = n ∧ Below n c)
    ⟨[], [], _, _, _, _, rfl, F4, fun a xs h => h, hr4, hm4, hg4, .nil, rfl, fun c h => by cases h⟩ (fun i σ H' _ h => ?_) ?_ ?_
  · obtain ⟨_, _, _, _, _, _, _, _, _, _, h, _⟩ := h
    exact sq_of h
  · rintro i x σ H' hx ⟨fx, fcs, y11, y12, y13, y14, rfl, F5, T5, k1, k2, k3, k4, k5, k6⟩
    have hil : i < xs.length := by
      rw [← hml]
      exact (List.getElem?_eq_some_iff.mp hx).1
    obtain ⟨cq, c, hc, rfl, hcq⟩ := cols_mem C4 x (hmm x (List.mem_of_getElem? hx))
    obtain ⟨cl, cb⟩ := hT.2.2.2.2 c hc
    have hcq' := T5 _ _ hcq
    refine seq1 ⟨sz_of (by simp), fun z hz => ⟨_, rfl, r, _, rfl, .inl (sq_of (Ex.new hz _ _ k1)), z, _, _, rfl, rfl, upd_same, by rw [nv_len]; omega, by rw [nv_len]; omega, ?_, fun t ht => ?_⟩⟩
    · exact sz_of (by rw [nv_len]; simp; omega)
    rw [nv_len, nl, show ((n : Nat) : Int).toNat = n by omega]
    rw [show (List.replicate n [V.int 0]).flatten = nv (List.replicate n 0) from nv_rep n 0]
    have ez := Ex.new (o := .lst [.int 0]) hz
    have ht0 : H' t = none := fresh_back ez ht
    dsimp only
    refine seq1 ⟨_, rfl, cq, nv c, rfl, st_of (Ex.new ht _ _ (ez _ _ hcq')), ?_⟩
    refine for_enumT (xs := nv c) (fun j σ H2 => ∃ (tv : List Nat) (y13 y14 : Option V), σ = [some (.ref d), y1, some (.ref ps), y3, y4, y5, y6, y7, y8, some (.ref r), some (.ref g), some (.ref cq), some (.ref t), y13, y14, y15] ∧ Ex H' H2 ∧ H2 t = some (.lst (nv tv)) ∧ tv.length = n ∧ Below n tv)
      ⟨List.replicate n 0, _, _, rfl, ez.trans (Ex.new ht), upd_same, by simp, fun x hx => by rw [List.eq_of_mem_replicate hx]; exact hn0⟩ (fun j σ H2 _ h => ?_) ?_ ?_
    · obtain ⟨_, _, _, _, h, _⟩ := h
      exact st_of (h _ _ hcq')
    · rintro j x σ H2 T hx ⟨tv, y13, y14, rfl, e5, k7, k8, k9⟩ hT0
      obtain ⟨to, hto, rfl⟩ := nv_get_of hx
      have hj : j < c.length := (List.getElem?_eq_some_iff.mp hto).1
      have htol : to < n := cb to (List.mem_of_getElem? hto)
      have gto : ns[to]? = some (ap ns to) := ap_get (by omega)
      have gst : ns[j]? = some (ap ns j) := ap_get (by omega)
      have lto : ap ns to < n := nb _ (List.mem_of_getElem? gto)
      have lst' : ap ns j < n := nb _ (List.mem_of_getElem? gst)
      have eT := Ex.new (o := .tup [.int (j : Nat), .int (to : Nat)]) hT0
      have k1' := eT _ _ (e5 _ _ k1)
      refine ⟨T, _, rfl, st_of upd_same, rfl, _, _, rfl, _, _, rfl, rfl, ?_⟩
      refine ⟨_, rfl, _, rfl, r, nv ns, _, _, rfl, rfl, sq_of k1', nv_at gto, _, rfl, _, rfl, _, rfl, r, nv ns, _, _, rfl, rfl, sq_of k1', nv_at gst, t, nv tv, _, ap ns j, rfl, rfl, eT _ _ k7, ixN_nat (by rw [nv_len]; omega), ?_⟩
      refine ⟨tv.set (ap ns j) (ap ns to), _, _, rfl, (e5.trans eT).mut ht0, ?_, by rw [List.length_set]; exact k8, below_set k9 lto⟩
      rw [nv_set]
      exact upd_same
    · rintro σ H2 ⟨tv, y13, y14, rfl, e5, k7, k8, k9⟩
      have hgt : g ≠ t := ne_of_none k3 ht0
      refine ⟨_, rfl, .inl ⟨rfl, _, sq_of (e5 _ _ k3)⟩, _, rfl, t, _, rfl, .inl ⟨sq_of k7, fun u hu => ?_⟩⟩
      have eu := Ex.new (o := .tup (nv tv)) hu
      have hgu : g ≠ u := ne_of_none (e5 _ _ k3) hu
      have e6 := e5.trans eu
      have hup : ∀ a (ys : List V), (upd H2 u (.tup (nv tv))) a = some (.tup ys) → (upd (upd H2 u (.tup (nv tv))) g (.lst (fx ++ [.ref u]))) a = some (.tup ys) := fun a ys h => by
        rw [upd_ne]
        · exact h
        · rintro rfl
          rw [e6 _ _ k3] at h; cases h
      refine ⟨g, fx, _, rfl, rfl, e6 _ _ k3, sz_lt (by rw [k4.len, k5]; have := hC.len; omega), ?_⟩
      refine ⟨fx ++ [.ref u], fcs ++ [tv], _, _, _, _, rfl, (F5.exd e6).mut hd hg0, fun a ys h => hup a ys (e6 _ _ (T5 a ys h)), ?_, ?_, upd_same, ?_, by simp [k5], fun c hc => ?_⟩
      · rw [upd_ne hgr]; exact e6 _ _ k1
      · rw [upd_ne hgm.symm]; exact e6 _ _ k2
      · exact cols_snoc (k4.tup fun a ys h => hup a ys (e6 _ _ h)) (hup _ _ upd_same)
      · rcases List.mem_append.mp hc with hc | hc
        · exact k6 c hc
        · rw [List.mem_singleton.mp hc]; exact ⟨k8, k9⟩
  · rintro σ H' ⟨fx, fcs, y11, y12, y13, y14, rfl, F5, T5, k1, k2, k3, k4, k5, k6⟩
    have hl5 : fcs.length = cs.length := by rw [k5, hml, hC.len]
    exact ⟨_, rfl, q g fx fcs n H' F5 g1 g2 k3 k4 ⟨hn0, hn24, fun z => by rw [z] at hl5; simp at hl5; omega, by omega, k6⟩⟩

theorem tailP {d l ps : Addr} {H : Hp} {Q : VK} {xs : List V} {cs : List (List Nat)} {n : Nat} {y1 y2 y3 y5 y6 y7 y8 y9 y10 : Option V} {nx : L2.St → Hp → Prop} (hd : Deal d l H) (hs : H ps = some (.lst xs)) (ns1 : ps ≠ d) (ns2 : ps ≠ l) (hC : Cols H xs cs) (hT : Tab n cs) (q : RetM d l H Q) :
    tSeq (tPar 5 6 (tCons (tCall spMixed [] E0 (tCons (tVar 0) (tCons (tLstRg (tRg1 (tCB (rLenS K) (tCons (tOp (rIxL K) (tVar 4) (tC (.int 0))) tNil)))) tNil))) (tCons (tLst tNil) tNil)))
      (tSeq (tFor (iList K (tCall spMixed [] E0 (tCons (tVar 0) (tCons (tVar 4) tNil)))) (gName 7)
        (tSeq (tAsg (tOp rRep (tLst (tCons (tC (.int 0)) tNil)) (tCB (rLenS K) (tCons (tVar 5) tNil))) (gName 8))
          (tSeq (tFor (iEnumT K (tCons (tVar 7) tNil)) (gTup K 2 (gCons (gName 9) (gCons (gName 10) gNil))) (tAsg (tOp (rIxL K) (tVar 5) (tVar 10)) (gSub (tVar 8) (tOp (rIxL K) (tVar 5) (tVar 9)) rSetL)))
            (tDrop (tBM K "list" rAppend (tVar 6) (tCons (tCB (rTupS K) (tCons (tVar 8) tNil)) tNil))))))
        (tRet (tVar 6))) { nx := nx, rt := Q } [some (.ref d), y1, y2, y3, some (.ref ps), y5, y6, y7, y8, y9, y10] H := by
  have hn0 := hT.1
  have hn24 := hT.2.1
  have hcl := hT.2.2.2.1
  have h0 : 0 < cs.length := len_pos hT.2.2.1
  obtain ⟨hc0, hc1, hc2⟩ := hT.get h0
  obtain ⟨q0, hq0, hq1⟩ := hC.get hc0
  refine ⟨_, rfl, _, rfl, ps, xs, 0, _, rfl, rfl, sq_of hs, atI_nat (j := 0) hq0, q0, _, rfl, .inr (st_of hq1), _, rfl, ?_, fun p hp => ?_⟩
  · rw [nv_len, hc2]
    exact .of_le (by omega) (by omega) (by omega) (by omega)
  rw [nv_len, hc2, rg_nv]
  have ep := Ex.new (o := .lst (nv (List.range n))) hp
  obtain ⟨p1, p2⟩ := hd.new hp
  refine ⟨d, l, p, _, rfl, hd.ex ep, upd_same, p1, p2, by rw [nv_len, List.length_range]; omega, itm_nv _ _, fun r us1 H2 r1 r2 hr f2 hr2 hl hm => ?_⟩
  obtain ⟨ns, rfl, nl, nb⟩ := nv_of (P := fun x => x < n) (ys := us1) fun y hy => by
    obtain ⟨i, hi, e⟩ := nv_mem (hm y hy)
    exact ⟨i, e, List.mem_range.mp hi⟩
  have nl : ns.length = n := by rw [nl, hl, nv_len, List.length_range]
  have F2 : Fd d l H H2 := (Fd.of_ex ep).trans f2
  refine ⟨Nat.zero_le _, fun g hg => ⟨_, _, rfl, ?_⟩⟩
  have eg := Ex.new (o := .lst []) hg
  obtain ⟨g1, g2⟩ := (F2.deal hd).new hg
  have hgr : r ≠ g := ne_of_none hr2 hg
  have F3 := F2.exd eg
  have hg0 : H g = none := (F2.fresh hd hg).2
  refine seq1 ⟨_, rfl, _, rfl, d, l, ps, xs, rfl, F3.deal hd, F3.keep _ _ ns1 ns2 hs, ns1, ns2, by rw [hC.len]; omega, cols_itm (hC.tup F3.tup), fun m us H4 m1 m2 hm0 f4 hm4 hml hmm => ⟨m, rfl, ⟨us, sq_of hm4⟩, ?_⟩⟩
  have F4 := F3.trans f4
  have hgm : g ≠ m := ne_of_none (show (upd H2 g (.lst [])) g = some (.lst []) from upd_same) hm0
  have hr4 : H4 r = some (.lst (nv ns)) := f4.keep _ _ r1 r2 (eg _ _ hr2)
  have hg4 : H4 g = some (.lst []) := f4.keep _ _ g1 g2 upd_same
  have C4 := hC.tup F4.tup
  refine for_list (xs := us) (fun i σ H' => ∃ (fx : List V) (fcs : List (List Nat)) (y7 y8 y9 y10 : Option V), σ = [some (.ref d), y1, y2, y3, some (.ref ps), some (.ref r), some (.ref g), y7, y8, y9, y10] ∧ Fd d l H H' ∧ (∀ a xs, H4 a = some (.tup xs) → H' a = some (.tup xs)) ∧ H' r = some (.lst (nv ns)) ∧ H' m = some (.lst us) ∧ H' g = some (.lst fx) ∧ Cols H' fx fcs ∧ fcs.length = i ∧ ∀ c ∈ fcs, c.length = n ∧ Below n c)
    ⟨[], [], _, _, _, _, rfl, F4, fun a xs h => h, hr4, hm4, hg4, .nil, rfl, fun c h => by cases h⟩ (fun i σ H' _ h => ?_) ?_ ?_
  · obtain ⟨_, _, _, _, _, _, _, _, _, _, h, _⟩ := h
    exact sq_of h
  · rintro i x σ H' hx ⟨fx, fcs, y7, y8, y9, y10, rfl, F5, T5, k1, k2, k3, k4, k5, k6⟩
    have hil : i < xs.length := by
      rw [← hml]
      exact (List.getElem?_eq_some_iff.mp hx).1
    obtain ⟨cq, c, hc, rfl, hcq⟩ := cols_mem C4 x (hmm x (List.mem_of_getElem? hx))
    obtain ⟨cl, cb⟩ := hT.2.2.2.2 c hc
    have hcq' := T5 _ _ hcq
    refine seq1 ⟨sz_of (by simp), fun z hz => ⟨_, rfl, r, _, rfl, .inl (sq_of (Ex.new hz _ _ k1)), z, _, _, rfl, rfl, upd_same, by rw [nv_len]; omega, by rw [nv_len]; omega, ?_, fun t ht => ?_⟩⟩
    · exact sz_of (by rw [nv_len]; simp; omega)
    rw [nv_len, nl, show ((n : Nat) : Int).toNat = n by omega]
    rw [show (List.replicate n [V.int 0]).flatten = nv (List.replicate n 0) from nv_rep n 0]
    have ez := Ex.new (o := .lst [.int 0]) hz
    have ht0 : H' t = none := fresh_back ez ht
    dsimp only
    refine seq1 ⟨_, rfl, cq, nv c, rfl, st_of (Ex.new ht _ _ (ez _ _ hcq')), ?_⟩
    refine for_enumT (xs := nv c) (fun j σ H2 => ∃ (tv : List Nat) (y9 y10 : Option V), σ = [some (.ref d), y1, y2, y3, some (.ref ps), some (.ref r), some (.ref g), some (.ref cq), some (.ref t), y9, y10] ∧ Ex H' H2 ∧ H2 t = some (.lst (nv tv)) ∧ tv.length = n ∧ Below n tv)
      ⟨List.replicate n 0, _, _, rfl, ez.trans (Ex.new ht), upd_same, by simp, fun x hx => by rw [List.eq_of_mem_replicate hx]; exact hn0⟩ (fun j σ H2 _ h => ?_) ?_ ?_
    · obtain ⟨_, _, _, _, h, _⟩ := h
      exact st_of (h _ _ hcq')
    · rintro j x σ H2 T hx ⟨tv, y9, y10, rfl, e5, k7, k8, k9⟩ hT0
      obtain ⟨to, hto, rfl⟩ := nv_get_of hx
      have hj : j < c.length := (List.getElem?_eq_some_iff.mp hto).1
      have htol : to < n := cb to (List.mem_of_getElem? hto)
      have gto : ns[to]? = some (ap ns to) := ap_get (by omega)
      have gst : ns[j]? = some (ap ns j) := ap_get (by omega)
      have lto : ap ns to < n := nb _ (List.mem_of_getElem? gto)
      have lst' : ap ns j < n := nb _ (List.mem_of_getElem? gst)
      have eT := Ex.new (o := .tup [.int (j : Nat), .int (to : Nat)]) hT0
      have k1' := eT _ _ (e5 _ _ k1)
      refine ⟨T, _, rfl, st_of upd_same, rfl, _, _, rfl, _, _, rfl, rfl, ?_⟩
      refine ⟨_, rfl, _, rfl, r, nv ns, _, _, rfl, rfl, sq_of k1', nv_at gto, _, rfl, _, rfl, _, rfl, r, nv ns, _, _, rfl, rfl, sq_of k1', nv_at gst, t, nv tv, _, ap ns j, rfl, rfl, eT _ _ k7, ixN_nat (by rw [nv_len]; omega), ?_⟩
      refine ⟨tv.set (ap ns j) (ap ns to), _, _, rfl, (e5.trans eT).mut ht0, ?_, by rw [List.length_set]; exact k8, below_set k9 lto⟩
      rw [nv_set]
      exact upd_same
    · rintro σ H2 ⟨tv, y9, y10, rfl, e5, k7, k8, k9⟩
      have hgt : g ≠ t := ne_of_none k3 ht0
      refine ⟨_, rfl, .inl ⟨rfl, _, sq_of (e5 _ _ k3)⟩, _, rfl, t, _, rfl, .inl ⟨sq_of k7, fun u hu => ?_⟩⟩
      have eu := Ex.new (o := .tup (nv tv)) hu
      have hgu : g ≠ u := ne_of_none (e5 _ _ k3) hu
      have e6 := e5.trans eu
      have hup : ∀ a (ys : List V), (upd H2 u (.tup (nv tv))) a = some (.tup ys) → (upd (upd H2 u (.tup (nv tv))) g (.lst (fx ++ [.ref u]))) a = some (.tup ys) := fun a ys h => by
        rw [upd_ne]
        · exact h
        · rintro rfl
          rw [e6 _ _ k3] at h; cases h
      refine ⟨g, fx, _, rfl, rfl, e6 _ _ k3, sz_lt (by rw [k4.len, k5]; have := hC.len; omega), ?_⟩
      refine ⟨fx ++ [.ref u], fcs ++ [tv], _, _, _, _, rfl, (F5.exd e6).mut hd hg0, fun a ys h => hup a ys (e6 _ _ (T5 a ys h)), ?_, ?_, upd_same, ?_, by simp [k5], fun c hc => ?_⟩
      · rw [upd_ne hgr]; exact e6 _ _ k1
      · rw [upd_ne hgm.symm]; exact e6 _ _ k2
      · exact cols_snoc (k4.tup fun a ys h => hup a ys (e6 _ _ h)) (hup _ _ upd_same)
      · rcases List.mem_append.mp hc with hc | hc
        · exact k6 c hc
        · rw [List.mem_singleton.mp hc]; exact ⟨k8, k9⟩
  · rintro σ H' ⟨fx, fcs, y7, y8, y9, y10, rfl, F5, T5, k1, k2, k3, k4, k5, k6⟩
    have hl5 : fcs.length = cs.length := by rw [k5, hml, hC.len]
    exact ⟨_, rfl, q g fx fcs n H' F5 g1 g2 k3 k4 ⟨hn0, hn24, fun z => by rw [z] at hl5; simp at hl5; omega, by omega, k6⟩⟩

end
end Kx

namespace Kx
open PySem PySem.Spec PyProof.Rows L2 Evl

section
variable {P : Program} {w : World} {K : PySem.W.Frag} {mg : Str → Option Value} {base : Heap}
theorem eq_nil {K : PySem.W.Frag} {H : Hp} {a p : Addr} {xs : List V} {Q : VK} (ha : H a = some (.lst xs)) (hx : ∀ x ∈ xs, Itm H x) (hp : H p = some (.lst [])) (q : Q (.bl xs.isEmpty) H) : rEqD K (.ref a) (.ref p) H Q := by
  obtain ⟨ds, h1, h2⟩ := itms_dp (K := K) hx
  refine ⟨.list ds, .list [], .lst (sq_of ha) h1, .lst (sq_of hp) .nil, (fit_list h2).shaped (by decide), (fit_list (n := 0) (ds := []) (fun d h => by cases h)).shaped (by decide), ?_⟩
  rw [eqv_empty]
  have : ds.isEmpty = xs.isEmpty := by
    have := dpAll_len h1
    cases xs <;> cases ds <;> simp_all
  rw [this]
  exact q
/-- a row of columns, maybe none yet -/
structure Som (H : Hp) (ps : Addr) (xs : List V) (cs : List (List Nat)) (n k : Nat) : Prop where
  at' : H ps = some (.lst xs)
  cols : Cols H xs cs
  pos : 0 < n
  le : n ≤ 24
  few : cs.length ≤ k
  all : ∀ c ∈ cs, c.length = n ∧ Below n c
theorem Som.tab {H : Hp} {ps : Addr} {xs : List V} {cs : List (List Nat)} {n k : Nat} (h : Som H ps xs cs n k) (hk : k ≤ 10) (hne : cs ≠ []) : Tab n cs := ⟨h.pos, h.le, hne, Nat.le_trans h.few hk, h.all⟩
theorem Som.fd {d l : Addr} {H H' : Hp} {ps : Addr} {xs : List V} {cs : List (List Nat)} {n k : Nat} (h : Som H ps xs cs n k) (f : Fd d l H H') (n1 : ps ≠ d) (n2 : ps ≠ l) : Som H' ps xs cs n k := ⟨f.keep _ _ n1 n2 h.at', h.cols.tup f.tup, h.pos, h.le, h.few, h.all⟩
theorem Som.ex {H H' : Hp} {ps : Addr} {xs : List V} {cs : List (List Nat)} {n k : Nat} (h : Som H ps xs cs n k) (f : Ex H H') : Som H' ps xs cs n k := ⟨f _ _ h.at', h.cols.tup (fun a xs h => f _ _ h), h.pos, h.le, h.few, h.all⟩
theorem Two.som {H : Hp} {p : Addr} {n : Nat} (h : Two H p n) (h0 : 0 < n) (h1 : n ≤ 24) : ∃ xs cs, Som H p xs cs n 2 ∧ cs ≠ [] := by
  obtain ⟨q1, q2, c1, c2, k1, k2, k3, k4, k5, k6, k7⟩ := h
  refine ⟨_, [c1, c2], ⟨k1, .cons ⟨q1, rfl, k2⟩ (.cons ⟨q2, rfl, k3⟩ .nil), h0, h1, by simp, fun c hc => ?_⟩, by simp⟩
  simp only [List.mem_cons, List.not_mem_nil, or_false] at hc
  rcases hc with rfl | rfl
  · exact ⟨k4, k6⟩
  · exact ⟨k5, k7⟩
theorem cols_nil {H : Hp} {xs : List V} {cs : List (List Nat)} (h : Cols H xs cs) : xs.isEmpty = cs.isEmpty := by cases h <;> rfl
/-- some + [columns(..) for ..] -/
theorem ext_way {d l ps : Addr} {H : Hp} {D : Ends} {xs : List V} {cs : List (List Nat)} {n : Nat} {y3 y4 y5 y6 y7 y9 y10 y11 y12 y13 y14 : Option V} (hd : Deal d l H) (hs : Som H ps xs cs n 2) (n1 : ps ≠ d) (n2 : ps ≠ l)
    (q : ∀ p xs' cs' H', Fd d l H H' → p ≠ d → p ≠ l → Som H' p xs' cs' n 4 → cs' ≠ [] → D.nx [some (.ref d), some (.int 9), some (.ref p), y3, y4, y5, y6, y7, some (.int (n : Nat)), y9, y10, y11, y12, y13, y14, none] H') :
    tAsg (tOp rCat (tVar 2) (tLc (iRng1 (tCons (tOp (rI0 fun i j => .int (i + j)) (tC (.int 1)) (tCall spAny [] E0 (tCons (tVar 0) (tCons (tC (.int 2)) tNil)))) tNil)) (gName 15) tYes
      (tCall spCol [] E0 (tCons (tVar 8) (tCons (tVar 0) (tCons (tCall spAny [] E0 (tCons (tVar 0) (tCons (tC (.int 8)) tNil))) tNil)))) [15])) (gName 2) D
      [some (.ref d), some (.int 9), some (.ref ps), y3, y4, y5, y6, y7, some (.int (n : Nat)), y9, y10, y11, y12, y13, y14, none] H := by
  refine asg1 (op1 ⟨_, rfl, lc_open ⟨_, rfl, d, l, 2, rfl, by decide, by decide, hd, fun r H2 hr f2 => ⟨1, (r : Nat), rfl, rfl, _, rfl, by omega, by omega, ?_⟩⟩⟩)
  have hd2 := f2.deal hd
  rw [show ((1 : Int) + ((r : Nat) : Int)).toNat = 1 + r by omega]
  refine lc_Rc (Fd.frame hd2) (fun _ => true) (fun _ _ => False) (fun _ xs => ∃ c, xs = nv c ∧ c.length = n ∧ Below n c) (by omega) (fun x => rfl) (fun i H1 _ _ Qb k => tYes_go (Fd.frame hd2) Qb k) (fun i H1 f3 _ _ Q k => ?_) (fun p H3 ys hp f3 hy pr => ?_)
  · exact ⟨_, rfl, _, rfl, _, rfl, d, l, 8, rfl, by decide, by decide, f3.deal hd2, fun r2 H4 hr4 f4 => ⟨n, d, l, (r2 : Nat), rfl, hs.pos, hs.le, f4.deal (f3.deal hd2), fun p c H5 f5 hp hl hb => k _ H5 (f4.trans f5) (.inr ⟨p, _, rfl, hp, c, rfl, hl, hb⟩)⟩⟩
  · rw [filt_yes] at pr
    have pr2 := paired_tups pr
    have hl := paired_len pr2
    rw [List.length_range] at hl
    obtain ⟨ds, hds, hda⟩ : ∃ ds, Cols H3 ys ds ∧ ∀ c ∈ ds, c.length = n ∧ Below n c := by
      clear hl hy pr
      generalize List.range (1 + r) = is at pr2
      induction pr2 with
      | nil => exact ⟨[], .nil, fun c h => by cases h⟩
      | cons h t ih =>
        obtain ⟨ds, h1, h2⟩ := ih
        obtain ⟨q1, xs, rfl, h3, c, rfl, h4, h5⟩ := h
        refine ⟨c :: ds, .cons ⟨q1, rfl, h3⟩ h1, fun x hx => ?_⟩
        rcases List.mem_cons.mp hx with rfl | hx
        · exact ⟨h4, h5⟩
        · exact h2 x hx
    have F := f2.trans f3
    have hs3 := hs.fd F n1 n2
    have hcl := hs.few
    have hxl := hs.cols.len
    have hdl := hds.len
    refine ⟨ps, p, xs, ys, rfl, rfl, hs3.at', hy, sz_of (by omega), fun p2 hp2 => ?_⟩
    obtain ⟨m1, m2⟩ := (F.deal hd).new hp2
    have ep := Ex.new (o := .lst (xs ++ ys)) hp2
    refine q p2 (xs ++ ys) (cs ++ ds) _ (F.exd ep) m1 m2 ⟨upd_same, ?_, hs.pos, hs.le, by rw [List.length_append]; omega, fun c hc => ?_⟩ (fun z => ?_)
    · have a1 := hs3.cols.tup (H' := upd H3 p2 (.lst (xs ++ ys))) (fun a xs h => ep _ _ h)
      have a2 := hds.tup (H' := upd H3 p2 (.lst (xs ++ ys))) (fun a xs h => ep _ _ h)
      have paired_app : ∀ {as : List V} {bs : List (List Nat)} {as2 : List V} {bs2 : List (List Nat)} {R : V → List Nat → Prop}, Paired R as bs → Paired R as2 bs2 → Paired R (as ++ as2) (bs ++ bs2) := by
        intro as bs as2 bs2 R h1 h2
        induction h1 with
        | nil => exact h2
        | cons h t ih => exact .cons h ih
      exact paired_app a1 a2
    · rcases List.mem_append.mp hc with hc | hc
      · exact hs.all c hc
      · exact hda c hc
    · have := congrArg List.length z
      rw [List.length_append, List.length_nil] at this
      omega

/-! _law_machine: slots 0 _law_deal, 1 _law_most, 2 _law_some, 3 _law_turn, 4 _law_firsts, 5 _law_end, 6 _law_size, 7 _law_s, 8 _law_many, 9 _law_names, 10 _law_found, 11 _law_change, 12 _law_turned, 13 _law_state, 14 _law_to, 15 _law_command; cells ['_law_deal', '_law_many'] -/
abbrev s_law_machine : Stmt := top 44
theorem sc_law_machine : FnScope ["_law_deal", "_law_most", "_law_some", "_law_turn", "_law_firsts", "_law_end", "_law_size", "_law_s", "_law_many", "_law_names", "_law_found", "_law_change", "_law_turned", "_law_state", "_law_to", "_law_command"] ["_law_deal", "_law_most"] (defScope s_law_machine) := ⟨rfl, rfl, rfl, by decide +kernel, rfl, by decide +kernel, by decide +kernel⟩
def spMachine : Sp := fun vs H Q _ => ∃ d l, vs = [.ref d, .int 9] ∧ Deal d l H ∧ RetM d l H Q
theorem c__law_machine (T : Txt K mg) : Cal P w K mg base CX0 4 "_law_machine" ["_law_deal", "_law_most"] (spMachine) :=
  cal_of T._law_machine sc_law_machine (fun _ _ _ _ _ _ us hl => match us, hl with | [_, _], _ => rfl) (fun vs H Q E h => by obtain ⟨_, _, rfl, _⟩ := h; rfl) fun f cdv A outer s H vs Q E hr h => by
    have C_law_any := c__law_any (P := P) (w := w) (base := base) T
    have C_law_columns := c__law_columns (P := P) (w := w) (base := base) T
    have C_law_falling := c__law_falling (P := P) (w := w) (base := base) T
    have C_law_mixed := c__law_mixed (P := P) (w := w) (base := base) T
    have C_law_two := c__law_two (P := P) (w := w) (base := base) T
    refine ⟨_, pss_nox (pss_cons (ps_set (i := 2) sc_law_machine.nd rfl (Or.inl rfl) (pe_lst pa_nil))
        (pss_cut (ps_if (pt_cmpR op_gt (pe_cal C_law_any (hr.mono (by decide)) pass0 (pa_cons (pv 0) (pa_cons pe_int pa_nil))) pe_int (nomark _)) (pss_one (ps_for PassesOwn.never rfl (pi_range1 (by rfl) T.n_range (pa_cons pe_int pa_nil)) (pg_name (i := 3) sc_law_machine.nd rfl (Or.inl rfl)) (pss_cons (ps_asg (pe_cal C_law_falling (hr.mono (by decide)) pass0 (pa_cons (pv 0) (pa_cons pe_int pa_nil))) (pg_tupK K rfl 2 rfl (pgs_cons (pg_name (i := 4) sc_law_machine.nd rfl (Or.inl rfl)) (pgs_cons (pg_name (i := 5) sc_law_machine.nd rfl (Or.inl rfl)) pgs_nil))))
        (pss_cons (ps_set (i := 6) sc_law_machine.nd rfl (Or.inl rfl) (pv 5))
        (pss_cons (ps_for PassesOwn.never rfl (pi_tupK K rfl (pv 4)) (pg_name (i := 7) sc_law_machine.nd rfl (Or.inl rfl)) (pss_one (ps_set (i := 6) sc_law_machine.nd rfl (Or.inl rfl) (pe_op op_mul (pe_op op_mul (pv 6) pe_int) (pv 7)))))
        (pss_one (ps_if (PW.pt (pw_and (pt_cmpR op_le (pv 6) (pv 1) (nomark _)) (pw_and1 (PW.pt (pw_or (pt_cmpR (eqDK K rfl hr.units) (pv 2) (pe_lst pa_nil) (nomark _)) (pw_or1 (pt_cmpR op_gt (pv 6) (pe_callB (lenK K rfl) (by rfl) T.n_len (by decide +kernel) (pa_cons (pe_ix (ixL K rfl) (pv 2) pe_int (fun _ _ => rfl)) pa_nil)) (nomark _)))))))) (pss_one (ps_set (i := 2) sc_law_machine.nd rfl (Or.inl rfl) (pe_cal C_law_two (hr.mono (by decide)) pass0 (pa_cons (pv 4) (pa_cons (pv 5) pa_nil))))) pss_nil))))))) pss_nil)
        (pss_cut (ps_if (PW.pt (pw_or (pt_cmpR (eqDK K rfl hr.units) (pv 2) (pe_lst pa_nil) (nomark _)) (pw_or1 (pt_cmpR op_eq (pe_cal C_law_any (hr.mono (by decide)) pass0 (pa_cons (pv 0) (pa_cons pe_int pa_nil))) pe_int (nomark _))))) (pss_cons (ps_set (i := 8) sc_law_machine.nd rfl (Or.inr rfl) (pe_ifExp (pt_cmpR (eqDK K rfl hr.units) (pv 2) (pe_lst pa_nil) (nomark _)) (pe_op op_add pe_int (pe_cal C_law_any (hr.mono (by decide)) pass0 (pa_cons (pv 0) (pa_cons (pv 1) pa_nil)))) (pe_callB (lenK K rfl) (by rfl) T.n_len (by decide +kernel) (pa_cons (pe_ix (ixL K rfl) (pv 2) pe_int (fun _ _ => rfl)) pa_nil))))
        (pss_one (ps_set (i := 2) sc_law_machine.nd rfl (Or.inl rfl) (pe_op op_cat (pv 2) (pe_lc (own := [("_law_command", 15)]) (tt := tYes) (by rfl) sc_law_machine.nd (pi_range1 (by rfl) T.n_range (pa_cons (pe_op op_add pe_int (pe_cal C_law_any (hr.mono (by decide)) pass0 (pa_cons (pv 0) (pa_cons pe_int pa_nil)))) pa_nil)) (blkOk_by (N := ["_law_deal", "_law_most", "_law_some", "_law_turn", "_law_firsts", "_law_end", "_law_size", "_law_s", "_law_many", "_law_names", "_law_found", "_law_change", "_law_turned", "_law_state", "_law_to", "_law_command"]) (sc := defScope s_law_machine) (by decide +kernel)) (fun _ _ _ _ _ => (pg_name (i := 15) sc_law_machine.nd rfl (Or.inl rfl))) (fun _ _ _ _ _ => pts_nil) (fun _ _ _ _ _ => (pe_cal C_law_columns (hr.mono (by decide)) pass0 (pa_cons (pv 8) (pa_cons (pv 0) (pa_cons (pe_cal C_law_any (hr.mono (by decide)) pass0 (pa_cons (pv 0) (pa_cons pe_int pa_nil))) pa_nil)))))))))) pss_nil)
        (pss_cons (ps_par (i := 9) (j := 10) (by rfl) sc_law_machine.nd rfl rfl (by decide) rfl rfl (pa_cons (pe_cal C_law_mixed (hr.mono (by decide)) pass0 (pa_cons (pv 0) (pa_cons (pe_listRg rfl (by rfl) T.n_list (prg_1 (by rfl) T.n_range (pe_callB (lenK K rfl) (by rfl) T.n_len (by decide +kernel) (pa_cons (pe_ix (ixL K rfl) (pv 2) pe_int (fun _ _ => rfl)) pa_nil)))) pa_nil))) (pa_cons (pe_lst pa_nil) pa_nil)) (by rfl))
        (pss_cons (ps_for PassesOwn.never rfl (pi_listK K rfl (pe_cal C_law_mixed (hr.mono (by decide)) pass0 (pa_cons (pv 0) (pa_cons (pv 2) pa_nil)))) (pg_name (i := 11) sc_law_machine.nd rfl (Or.inl rfl)) (pss_cons (ps_set (i := 12) sc_law_machine.nd rfl (Or.inl rfl) (pe_op op_rep (pe_lst (pa_cons pe_int pa_nil)) (pe_callB (lenK K rfl) (by rfl) T.n_len (by decide +kernel) (pa_cons (pv 9) pa_nil))))
        (pss_cons (ps_for PassesOwn.never rfl (pi_enumTK K rfl (by rfl) T.n_enumerate (pa_cons (pv 11) pa_nil)) (pg_tupK K rfl 2 rfl (pgs_cons (pg_name (i := 13) sc_law_machine.nd rfl (Or.inl rfl)) (pgs_cons (pg_name (i := 14) sc_law_machine.nd rfl (Or.inl rfl)) pgs_nil))) (pss_one (ps_asg (pe_ix (ixL K rfl) (pv 9) (pv 14) (fun _ _ => rfl)) (pg_sub (pv 12) (pe_ix (ixL K rfl) (pv 9) (pv 13) (fun _ _ => rfl)) set_list))))
        (pss_one (ps_expr (pe_bm PySem.F.plainAttrs_list PySem.F.slot_list_append PySem.F.type_list_append mt_append (pv 10) (pa_cons (pe_callTy (tupK K rfl) (by rfl) T.n_tuple (by decide +kernel) (pa_cons (pv 12) pa_nil)) pa_nil)))))))
        (pss_one (ps_ret (pv 10)))))))), ?_⟩
    obtain ⟨d, l, rfl, hd, q⟩ := h
    refine ⟨Nat.zero_le _, fun ps hps => ?_⟩
    have e0 := Ex.new (o := .lst []) hps
    obtain ⟨n1, n2⟩ := hd.new hps
    have start : ∀ H2, Fd d l (upd H ps (.lst [])) H2 → Som H2 ps [] [] 1 2 := fun H2 f => ⟨f.keep _ _ n1 n2 upd_same, .nil, by omega, by omega, by simp, fun c h => by cases h⟩
    refine ⟨fun σ H' => ∃ (ps : Addr) (xs : List V) (cs : List (List Nat)) (n : Nat) (y3 y4 y5 y6 y7 : Option V), σ = [some (.ref d), some (.int 9), some (.ref ps), y3, y4, y5, y6, y7, none, none, none, none, none, none, none, none] ∧ Fd d l H H' ∧ ps ≠ d ∧ ps ≠ l ∧ Som H' ps xs cs n 2, ?_, ?_⟩
    · refine ⟨_, rfl, d, l, 3, rfl, by decide, by decide, hd.ex e0, fun r H1 hr1 f1 => ?_⟩
      have F1 : Fd d l H H1 := (Fd.of_ex e0).trans f1
      by_cases hr0 : r = 0
      · subst hr0
        exact ⟨_, _, rfl, rfl, false, by simp, ps, [], [], 1, _, _, _, _, _, rfl, F1, n1, n2, start _ f1⟩
      refine ⟨_, _, rfl, rfl, true, by simp; omega, ?_⟩
      refine ⟨6, rfl, by omega, by omega, for_range (lo := 0) (n := 6) (fun i σ H' => ∃ (ps : Addr) (xs : List V) (cs : List (List Nat)) (n : Nat) (y3 y4 y5 y6 y7 : Option V), σ = [some (.ref d), some (.int 9), some (.ref ps), y3, y4, y5, y6, y7, none, none, none, none, none, none, none, none] ∧ Fd d l H H' ∧ ps ≠ d ∧ ps ≠ l ∧ Som H' ps xs cs n 2) ⟨ps, [], [], 1, _, _, _, _, _, rfl, F1, n1, n2, start _ f1⟩ ?_ (fun σ H' h => h)⟩
      rintro i σ H' hi ⟨ps, xs, cs, n, y3, y4, y5, y6, y7, rfl, F, n1, n2, hs⟩
      refine seq1 ⟨_, rfl, d, l, rfl, F.deal hd, fun p p1 fs e H2 f2 k1 k2 k3 k4 k5 k6 => ⟨p, _, rfl, st_of k1, rfl, _, _, rfl, _, _, rfl, rfl, ?_⟩⟩
      have F2 := F.trans f2
      have hs2 := hs.fd f2 n1 n2
      refine seq1 ⟨_, rfl, ?_⟩
      dsimp only
      refine q_forT (a := p1) (xs := nv fs) (fun H1 _ Q k => ⟨_, rfl, k H1 (Ex.refl _)⟩) (st_of k2) (fun j σ H' => ∃ y7, σ = [some (.ref d), some (.int 9), some (.ref ps), some (.int (0 + (i : Nat))), some (.ref p1), some (.int (e : Nat)), some (.int ((e * prd (fs.take j) : Nat) : Nat)), y7, none, none, none, none, none, none, none, none] ∧ Ex H2 H')
        (fun H1 e1 => ⟨_, by rw [show prd (fs.take 0) = 1 from rfl, Nat.mul_one]; rfl, e1⟩) (fun j σ H' _ ⟨_, _, h⟩ => st_of (h _ _ k2)) ?_ ?_
      · rintro j x σ H' hx ⟨y7, rfl, e1⟩
        obtain ⟨s, hsx, rfl⟩ := nv_get_of hx
        obtain ⟨_, s7⟩ := k6 s (List.mem_of_getElem? hsx)
        refine ⟨_, rfl, _, _, rfl, rfl, .inr ⟨by omega, by omega⟩, _, rfl, _, _, rfl, rfl, .inr ⟨by omega, by omega⟩, some (.int (s : Nat)), ?_, e1⟩
        rw [prd_step hsx]
        have : ((e * prd (fs.take j) : Nat) : Int) * 2 * (s : Int) = ((e * (prd (fs.take j) * (2 * s)) : Nat) : Int) := by
          rw [← Nat.mul_assoc, Int.natCast_mul (e * _), Int.natCast_mul 2 s]
          grind
        dsimp only
        rw [this]
        rfl
      · rintro σ H3 ⟨y7, rfl, e3⟩
        rw [nv_len, List.take_length]
        have F3 := F2.exd e3
        have hs3 := hs2.ex e3
        have stay : ∀ H4, Ex H3 H4 → ∃ (ps' : Addr) (xs : List V) (cs : List (List Nat)) (n : Nat) (y3' y4' y5' y6' y7' : Option V), [some (.ref d), some (.int 9), some (.ref ps), some (.int (0 + (i : Nat))), some (.ref p1), some (.int (e : Nat)), some (.int ((e * prd fs : Nat) : Nat)), y7, none, none, none, none, none, none, none, none] = [some (.ref d), some (.int 9), some (.ref ps'), y3', y4', y5', y6', y7', none, none, none, none, none, none, none, none] ∧ Fd d l H H4 ∧ ps' ≠ d ∧ ps' ≠ l ∧ Som H4 ps' xs cs n 2 :=
          fun H4 e4 => ⟨ps, xs, cs, n, _, _, _, _, _, rfl, F3.exd e4, n1, n2, hs3.ex e4⟩
        have go : ∀ (D : Ends) H4, e * prd fs ≤ 9 → Ex H3 H4 → (∀ p xs cs H5, Fd d l H H5 → p ≠ d → p ≠ l → Som H5 p xs cs (e * prd fs) 2 → D.nx [some (.ref d), some (.int 9), some (.ref p), some (.int (0 + (i : Nat))), some (.ref p1), some (.int (e : Nat)), some (.int ((e * prd fs : Nat) : Nat)), y7, none, none, none, none, none, none, none, none] H5) →
            tAsg (tCall (spTwo K) [] E0 (tCons (tVar 4) (tCons (tVar 5) tNil))) (gName 2) D [some (.ref d), some (.int 9), some (.ref ps), some (.int (0 + (i : Nat))), some (.ref p1), some (.int (e : Nat)), some (.int ((e * prd fs : Nat) : Nat)), y7, none, none, none, none, none, none, none, none] H4 := by
          intro D H4 hle e4 kk
          refine ⟨_, rfl, _, rfl, p1, fs, e, rfl, e4 _ _ (e3 _ _ k2), k3, fun s hs => (k6 s hs).1, by omega, fun p H5 hp e5 h5 => ?_⟩
          obtain ⟨xs, cs, h6, _⟩ := h5.som (Nat.mul_pos k3 (prd_pos fun s hs => (k6 s hs).1)) (by omega)
          obtain ⟨m1, m2⟩ := ((F3.exd e4).deal hd).new hp
          exact kk p xs cs H5 (F3.exd (e4.trans e5)) m1 m2 h6
        by_cases hle : e * prd fs ≤ 9
        · refine ⟨_, rfl, _, rfl, _, _, rfl, rfl, true, by simp; omega, ?_⟩
          refine ⟨_, rfl, Nat.zero_le _, fun o ho => ?_⟩
          have eo := Ex.new (o := .lst []) ho
          refine eq_nil (eo _ _ hs3.at') (cols_itm (hs3.ex eo).cols) upd_same ⟨_, rfl, ?_⟩
          have next : ∀ p xs cs H5, Fd d l H H5 → p ≠ d → p ≠ l → Som H5 p xs cs (e * prd fs) 2 → ∃ (ps' : Addr) (xs : List V) (cs : List (List Nat)) (n : Nat) (y3' y4' y5' y6' y7' : Option V), [some (.ref d), some (.int 9), some (.ref p), some (.int (0 + (i : Nat))), some (.ref p1), some (.int (e : Nat)), some (.int ((e * prd fs : Nat) : Nat)), y7, none, none, none, none, none, none, none, none] = [some (.ref d), some (.int 9), some (.ref ps'), y3', y4', y5', y6', y7', none, none, none, none, none, none, none, none] ∧ Fd d l H H5 ∧ ps' ≠ d ∧ ps' ≠ l ∧ Som H5 ps' xs cs n 2 :=
            fun p xs cs H5 a b c dd => ⟨p, xs, cs, _, _, _, _, _, _, rfl, a, b, c, dd⟩
          by_cases hcs : cs = []
          · rw [cols_nil hs3.cols, hcs]
            exact go _ _ hle eo next
          · rw [cols_nil hs3.cols, show cs.isEmpty = false by cases cs; exact absurd rfl hcs; rfl]
            have h0 : 0 < cs.length := len_pos hcs
            have hT := hs3.tab (by omega) hcs
            obtain ⟨hc0, hc1, hc2⟩ := hT.get h0
            obtain ⟨q0, hq0, hq1⟩ := hs3.cols.get hc0
            refine ⟨_, rfl, _, rfl, ps, xs, 0, _, rfl, rfl, sq_of (eo _ _ hs3.at'), atI_nat (j := 0) hq0, q0, _, rfl, .inr (st_of (eo _ _ hq1)), _, _, rfl, rfl, _, rfl, ?_⟩
            generalize decide ((((nv (cs.getD 0 [])).length : Nat) : Int) < ((e * prd fs : Nat) : Int)) = b
            cases b
            · exact stay _ eo
            · exact go _ _ hle eo next
        · refine ⟨_, rfl, _, rfl, _, _, rfl, rfl, false, by simp; omega, ?_⟩
          exact stay _ (Ex.refl _)
    rintro σ H1 ⟨ps, xs, cs, n, y3, y4, y5, y6, y7, rfl, F, n1, n2, hs⟩
    refine ⟨fun σ H' => ∃ (ps : Addr) (xs : List V) (cs : List (List Nat)) (n : Nat) (y3 y4 y5 y6 y7 y8 : Option V), σ = [some (.ref d), some (.int 9), some (.ref ps), y3, y4, y5, y6, y7, y8, none, none, none, none, none, none, none] ∧ Fd d l H H' ∧ ps ≠ d ∧ ps ≠ l ∧ Som H' ps xs cs n 4 ∧ cs ≠ [], ?_, ?_⟩
    · refine ⟨_, rfl, Nat.zero_le _, fun o ho => ?_⟩
      have eo := Ex.new (o := .lst []) ho
      refine eq_nil (eo _ _ hs.at') (cols_itm (hs.ex eo).cols) upd_same ⟨_, rfl, ?_⟩
      have Fo := F.exd eo
      have fin : ∀ p xs' cs' n y8 H', Fd d l H H' → p ≠ d → p ≠ l → Som H' p xs' cs' n 4 → cs' ≠ [] → ∃ (ps' : Addr) (xs : List V) (cs : List (List Nat)) (n : Nat) (y3' y4' y5' y6' y7' y8' : Option V), [some (.ref d), some (.int 9), some (.ref p), y3, y4, y5, y6, y7, y8, none, none, none, none, none, none, none] = [some (.ref d), some (.int 9), some (.ref ps'), y3', y4', y5', y6', y7', y8', none, none, none, none, none, none, none] ∧ Fd d l H H' ∧ ps' ≠ d ∧ ps' ≠ l ∧ Som H' ps' xs cs n 4 ∧ cs ≠ [] :=
        fun p xs' cs' n y8 H' a b c dd ee => ⟨p, xs', cs', n, _, _, _, _, _, _, rfl, a, b, c, dd, ee⟩
      by_cases hcs : cs = []
      · rw [cols_nil hs.cols, hcs]
        refine ⟨_, rfl, Nat.zero_le _, fun o2 ho2 => ?_⟩
        have eo2 := Ex.new (o := .lst []) ho2
        refine eq_nil (eo2 _ _ (eo _ _ hs.at')) (cols_itm ((hs.ex eo).ex eo2).cols) upd_same ⟨_, rfl, ?_⟩
        rw [cols_nil hs.cols, hcs]
        have F3 := Fo.exd eo2
        refine ⟨_, rfl, _, rfl, d, l, 9, rfl, by decide, by decide, F3.deal hd, fun r H4 hr4 f4 => ⟨_, _, rfl, rfl, ?_⟩⟩
        have F4 := F3.trans f4
        have hs4 := (((hs.ex eo).ex eo2).fd f4 n1 n2)
        subst hcs
        have hs5 : Som H4 ps xs [] (1 + r) 2 := ⟨hs4.at', hs4.cols, by omega, by omega, by simp, fun c h => by cases h⟩
        have hc : ((1 : Int) + ((r : Nat) : Int)) = ((1 + r : Nat) : Int) := by omega
        dsimp only
        rw [hc]
        exact ext_way (F4.deal hd) hs5 n1 n2 fun p xs' cs' H' f5 a b c dd => fin p xs' cs' _ _ H' (F4.trans f5) a b c dd
      · rw [cols_nil hs.cols, show cs.isEmpty = false by cases cs; exact absurd rfl hcs; rfl]
        refine ⟨_, rfl, d, l, 4, rfl, by decide, by decide, Fo.deal hd, fun r H4 hr4 f4 => ?_⟩
        have F4 := Fo.trans f4
        have hs4 := ((hs.ex eo).fd f4 n1 n2)
        by_cases hr0 : r = 0
        · subst hr0
          refine ⟨rfl, true, by simp, ?_⟩
          refine ⟨_, rfl, Nat.zero_le _, fun o2 ho2 => ?_⟩
          have eo2 := Ex.new (o := .lst []) ho2
          have hs5 := hs4.ex eo2
          refine eq_nil hs5.at' (cols_itm hs5.cols) upd_same ⟨_, rfl, ?_⟩
          rw [cols_nil hs5.cols, show cs.isEmpty = false by cases cs; exact absurd rfl hcs; rfl]
          have h0 : 0 < cs.length := len_pos hcs
          have hT := hs5.tab (by omega) hcs
          obtain ⟨hc0, hc1, hc2⟩ := hT.get h0
          obtain ⟨q0, hq0, hq1⟩ := hs5.cols.get hc0
          refine ⟨_, rfl, ps, xs, 0, _, rfl, rfl, sq_of hs5.at', atI_nat (j := 0) hq0, q0, _, rfl, .inr (st_of hq1), ?_⟩
          rw [nv_len, hc2]
          have F5 := F4.exd eo2
          exact ext_way (F5.deal hd) hs5 n1 n2 fun p xs' cs' H' f5 a b c dd => fin p xs' cs' _ _ H' (F5.trans f5) a b c dd
        · refine ⟨rfl, false, by simp; omega, ?_⟩
          exact fin ps xs cs n _ H4 F4 n1 n2 ⟨hs4.at', hs4.cols, hs4.pos, hs4.le, Nat.le_trans hs4.few (by omega), hs4.all⟩ hcs
    · rintro σ H2 ⟨ps, xs, cs, n, y3, y4, y5, y6, y7, y8, rfl, F2, m1, m2, hs2, hne⟩
      exact tailM (F2.deal hd) hs2.at' m1 m2 hs2.cols (hs2.tab (by omega) hne) fun p xs cs n H' f => q p xs cs n H' (F2.trans f)

/-! ### the machine of the pair -/
/-! _law_pair_machine: slots 0 _law_deal, 1 _law_sets, 2 _law_firsts, 3 _law_end, 4 _law_some, 5 _law_names, 6 _law_found, 7 _law_change, 8 _law_turned, 9 _law_state, 10 _law_to; cells [] -/
abbrev s_law_pair_machine : Stmt := top 51
theorem sc_law_pair_machine : FnScope ["_law_deal", "_law_sets", "_law_firsts", "_law_end", "_law_some", "_law_names", "_law_found", "_law_change", "_law_turned", "_law_state", "_law_to"] ["_law_deal"] (defScope s_law_pair_machine) := ⟨rfl, rfl, rfl, by decide +kernel, rfl, by decide +kernel, by decide +kernel⟩
def spPairM : Sp := fun vs H Q _ => ∃ d l, vs = [.ref d] ∧ Deal d l H ∧ RetM d l H Q
def sets : List (List Nat × Nat) := [([3, 2], 1), ([2, 2], 1), ([4], 2), ([6], 2), ([5], 1), ([7], 1), ([4], 1), ([2], 1), ([], 3)]
theorem sets_ok : ∀ x ∈ sets, 0 < x.2 ∧ (∀ s ∈ x.1, 0 < s) ∧ x.2 * prd x.1 ≤ 24 := by decide
/-- (firsts, end) as laid -/
def Pr (H : Hp) (v : V) (x : List Nat × Nat) : Prop := ∃ p q, v = .ref p ∧ H p = some (.tup [.ref q, .int (x.2 : Nat)]) ∧ H q = some (.tup (nv x.1))
theorem Pr.ex {H H' : Hp} (e : Ex H H') {v : V} {x : List Nat × Nat} (h : Pr H v x) : Pr H' v x := let ⟨p, q, a, b, c⟩ := h; ⟨p, q, a, e _ _ b, e _ _ c⟩
theorem pr_new {H : Hp} {p q : Addr} {fs : List Nat} {e : Nat} (hq : H q = none) (hp : (upd H q (.tup (nv fs))) p = none) : Pr (upd (upd H q (.tup (nv fs))) p (.tup [.ref q, .int (e : Nat)])) (.ref p) (fs, e) := ⟨p, q, rfl, upd_same, Ex.new hp _ _ upd_same⟩
theorem ta_pair {tfs tr : TA} {σ : L2.St} {H : Hp} {Q : List V → Hp → Prop} {fs : List Nat} {e : Nat} (hf : fs.length ≤ 100) (h : ∀ H (Q : List V → Hp → Prop), Q (nv fs) H → tfs σ H Q)
    (k : ∀ v H1, Ex H H1 → Pr H1 v (fs, e) → tr σ H1 fun vs H2 => Q (v :: vs) H2) : tCons (tTup (tCons (tTup tfs) (tCons (tC (.int (e : Nat))) tNil))) tr σ H Q :=
  cons1 (tup1 (cons1 (tup1 (h _ _ ⟨sz_of (by rw [nv_len]; omega), fun q hq => ⟨sz_of (by simp), fun p hp => k _ _ ((Ex.new hq).trans (Ex.new hp)) (pr_new hq hp)⟩⟩))))
theorem c__law_pair_machine (T : Txt K mg) : Cal P w K mg base CX0 5 "_law_pair_machine" ["_law_deal"] (spPairM) :=
  cal_of T._law_pair_machine sc_law_pair_machine (fun _ _ _ _ _ _ us hl => match us, hl with | [_], _ => rfl) (fun vs H Q E h => by obtain ⟨_, _, rfl, _⟩ := h; rfl) fun f cdv A outer s H vs Q E hr h => by
    have C_law_any := c__law_any (P := P) (w := w) (base := base) T
    have C_law_machine := c__law_machine (P := P) (w := w) (base := base) T
    have C_law_mixed := c__law_mixed (P := P) (w := w) (base := base) T
    have C_law_of := c__law_of (P := P) (w := w) (base := base) T
    have C_law_two := c__law_two (P := P) (w := w) (base := base) T
    refine ⟨_, pss_nox (pss_cut (ps_if (pt_cmpR op_gt (pe_cal C_law_any (hr.mono (by decide)) pass0 (pa_cons (pv 0) (pa_cons pe_int pa_nil))) pe_int (nomark _)) (pss_one (ps_ret (pe_cal C_law_machine (hr.mono (by decide)) pass0 (pa_cons (pv 0) (pa_cons pe_int pa_nil))))) pss_nil)
        (pss_cons (ps_set (i := 1) sc_law_pair_machine.nd rfl (Or.inl rfl) (pe_lst (pa_cons (pe_tup (pa_cons (pe_tup (pa_cons pe_int (pa_cons pe_int pa_nil))) (pa_cons pe_int pa_nil))) (pa_cons (pe_tup (pa_cons (pe_tup (pa_cons pe_int (pa_cons pe_int pa_nil))) (pa_cons pe_int pa_nil))) (pa_cons (pe_tup (pa_cons (pe_tup (pa_cons pe_int pa_nil)) (pa_cons pe_int pa_nil))) (pa_cons (pe_tup (pa_cons (pe_tup (pa_cons pe_int pa_nil)) (pa_cons pe_int pa_nil))) (pa_cons (pe_tup (pa_cons (pe_tup (pa_cons pe_int pa_nil)) (pa_cons pe_int pa_nil))) (pa_cons (pe_tup (pa_cons (pe_tup (pa_cons pe_int pa_nil)) (pa_cons pe_int pa_nil))) (pa_cons (pe_tup (pa_cons (pe_tup (pa_cons pe_int pa_nil)) (pa_cons pe_int pa_nil))) (pa_cons (pe_tup (pa_cons (pe_tup (pa_cons pe_int pa_nil)) (pa_cons pe_int pa_nil))) (pa_cons (pe_tup (pa_cons (pe_tup pa_nil) (pa_cons pe_int pa_nil))) pa_nil)))))))))))
        (pss_cons (ps_asg (pe_cal C_law_of (hr.mono (by decide)) pass0 (pa_cons (pv 0) (pa_cons (pv 1) pa_nil))) (pg_tupK K rfl 2 rfl (pgs_cons (pg_name (i := 2) sc_law_pair_machine.nd rfl (Or.inl rfl)) (pgs_cons (pg_name (i := 3) sc_law_pair_machine.nd rfl (Or.inl rfl)) pgs_nil))))
        (pss_cons (ps_set (i := 4) sc_law_pair_machine.nd rfl (Or.inl rfl) (pe_cal C_law_two (hr.mono (by decide)) pass0 (pa_cons (pv 2) (pa_cons (pv 3) pa_nil))))
        (pss_cons (ps_par (i := 5) (j := 6) (by rfl) sc_law_pair_machine.nd rfl rfl (by decide) rfl rfl (pa_cons (pe_cal C_law_mixed (hr.mono (by decide)) pass0 (pa_cons (pv 0) (pa_cons (pe_listRg rfl (by rfl) T.n_list (prg_1 (by rfl) T.n_range (pe_callB (lenK K rfl) (by rfl) T.n_len (by decide +kernel) (pa_cons (pe_ix (ixL K rfl) (pv 4) pe_int (fun _ _ => rfl)) pa_nil)))) pa_nil))) (pa_cons (pe_lst pa_nil) pa_nil)) (by rfl))
        (pss_cons (ps_for PassesOwn.never rfl (pi_listK K rfl (pe_cal C_law_mixed (hr.mono (by decide)) pass0 (pa_cons (pv 0) (pa_cons (pv 4) pa_nil)))) (pg_name (i := 7) sc_law_pair_machine.nd rfl (Or.inl rfl)) (pss_cons (ps_set (i := 8) sc_law_pair_machine.nd rfl (Or.inl rfl) (pe_op op_rep (pe_lst (pa_cons pe_int pa_nil)) (pe_callB (lenK K rfl) (by rfl) T.n_len (by decide +kernel) (pa_cons (pv 5) pa_nil))))
        (pss_cons (ps_for PassesOwn.never rfl (pi_enumTK K rfl (by rfl) T.n_enumerate (pa_cons (pv 7) pa_nil)) (pg_tupK K rfl 2 rfl (pgs_cons (pg_name (i := 9) sc_law_pair_machine.nd rfl (Or.inl rfl)) (pgs_cons (pg_name (i := 10) sc_law_pair_machine.nd rfl (Or.inl rfl)) pgs_nil))) (pss_one (ps_asg (pe_ix (ixL K rfl) (pv 5) (pv 10) (fun _ _ => rfl)) (pg_sub (pv 8) (pe_ix (ixL K rfl) (pv 5) (pv 9) (fun _ _ => rfl)) set_list))))
        (pss_one (ps_expr (pe_bm PySem.F.plainAttrs_list PySem.F.slot_list_append PySem.F.type_list_append mt_append (pv 6) (pa_cons (pe_callTy (tupK K rfl) (by rfl) T.n_tuple (by decide +kernel) (pa_cons (pv 8) pa_nil)) pa_nil)))))))
        (pss_one (ps_ret (pv 6))))))))), ?_⟩
    obtain ⟨d, l, rfl, hd, q⟩ := h
    refine ⟨fun σ H' => σ = [some (.ref d), none, none, none, none, none, none, none, none, none, none] ∧ Fd d l H H', ?_, ?_⟩
    · refine ⟨_, rfl, d, l, 3, rfl, by decide, by decide, hd, fun r H1 hr1 f1 => ?_⟩
      by_cases hr0 : r = 0
      · subst hr0
        exact ⟨_, _, rfl, rfl, false, by simp, rfl, f1⟩
      · exact ⟨_, _, rfl, rfl, true, by simp; omega, _, rfl, d, l, rfl, f1.deal hd, fun p xs cs n H' f => q p xs cs n H' (f1.trans f)⟩
    rintro σ H1 ⟨rfl, f1⟩
    refine seq1 (asg1 (lst1 ?_))
    refine ta_pair (fs := [3, 2]) (e := 1) (by simp) (fun _ _ k => k) fun v1 G1 e1 p1 => ?_
    refine ta_pair (fs := [2, 2]) (e := 1) (by simp) (fun _ _ k => k) fun v2 G2 e2 p2 => ?_
    refine ta_pair (fs := [4]) (e := 2) (by simp) (fun _ _ k => k) fun v3 G3 e3 p3 => ?_
    refine ta_pair (fs := [6]) (e := 2) (by simp) (fun _ _ k => k) fun v4 G4 e4 p4 => ?_
    refine ta_pair (fs := [5]) (e := 1) (by simp) (fun _ _ k => k) fun v5 G5 e5 p5 => ?_
    refine ta_pair (fs := [7]) (e := 1) (by simp) (fun _ _ k => k) fun v6 G6 e6 p6 => ?_
    refine ta_pair (fs := [4]) (e := 1) (by simp) (fun _ _ k => k) fun v7 G7 e7 p7 => ?_
    refine ta_pair (fs := [2]) (e := 1) (by simp) (fun _ _ k => k) fun v8 G8 e8 p8 => ?_
    refine ta_pair (fs := []) (e := 3) (by simp) (fun _ _ k => k) fun v9 G9 e9 p9 => ?_
    refine ⟨sz_of (by simp), fun a ha => ?_⟩
    have ea := Ex.new (o := .lst [v1, v2, v3, v4, v5, v6, v7, v8, v9]) ha
    have f9 : Fd d l H G9 := f1.exd ((((((((e1.trans e2).trans e3).trans e4).trans e5).trans e6).trans e7).trans e8).trans e9)
    obtain ⟨a1, a2⟩ := (f9.deal hd).new ha
    have fa := f9.exd ea
    have hall : ∀ v ∈ [v1, v2, v3, v4, v5, v6, v7, v8, v9], ∃ x ∈ sets, Pr (upd G9 a (.lst [v1, v2, v3, v4, v5, v6, v7, v8, v9])) v x := by
      have x9 := p9.ex ea
      have x8 := p8.ex (e9.trans ea)
      have x7 := p7.ex (e8.trans (e9.trans ea))
      have x6 := p6.ex (e7.trans (e8.trans (e9.trans ea)))
      have x5 := p5.ex (e6.trans (e7.trans (e8.trans (e9.trans ea))))
      have x4 := p4.ex (e5.trans (e6.trans (e7.trans (e8.trans (e9.trans ea)))))
      have x3 := p3.ex (e4.trans (e5.trans (e6.trans (e7.trans (e8.trans (e9.trans ea))))))
      have x2 := p2.ex (e3.trans (e4.trans (e5.trans (e6.trans (e7.trans (e8.trans (e9.trans ea)))))))
      have x1 := p1.ex (e2.trans (e3.trans (e4.trans (e5.trans (e6.trans (e7.trans (e8.trans (e9.trans ea))))))))
      intro v hv
      simp only [List.mem_cons, List.not_mem_nil, or_false] at hv
      rcases hv with rfl | rfl | rfl | rfl | rfl | rfl | rfl | rfl | rfl
      · exact ⟨_, by simp [sets], x1⟩
      · exact ⟨_, by simp [sets], x2⟩
      · exact ⟨_, by simp [sets], x3⟩
      · exact ⟨_, by simp [sets], x4⟩
      · exact ⟨_, by simp [sets], x5⟩
      · exact ⟨_, by simp [sets], x6⟩
      · exact ⟨_, by simp [sets], x7⟩
      · exact ⟨_, by simp [sets], x8⟩
      · exact ⟨_, by simp [sets], x9⟩
    refine ⟨_, rfl, _, rfl, d, l, a, _, rfl, fa.deal hd, upd_same, a1, a2, by simp, by simp, fun v H2 hv f2 => ?_⟩
    obtain ⟨x, hx, p, fq, rfl, hp, hq⟩ := hall v hv
    obtain ⟨s1, s2, s3⟩ := sets_ok x hx
    obtain ⟨fs, e⟩ := x
    have F2 := fa.trans f2
    refine ⟨p, _, rfl, st_of (f2.tup _ _ hp), rfl, _, _, rfl, _, _, rfl, rfl, ?_⟩
    refine ⟨_, rfl, _, rfl, fq, fs, e, rfl, f2.tup _ _ hq, s1, s2, s3, fun ps H3 hps e3 h3 => ?_⟩
    obtain ⟨xs, cs, h4, hne⟩ := h3.som (Nat.mul_pos s1 (prd_pos s2)) s3
    obtain ⟨m1, m2⟩ := (F2.deal hd).new hps
    have F3 := F2.exd e3
    dsimp only
    exact tailP (F3.deal hd) h4.at' m1 m2 h4.cols (h4.tab (by omega) hne) fun p xs cs n H' f => q p xs cs n H' (F3.trans f)
end
end Kx
namespace Kx
open PySem PySem.Spec PyProof.Rows L2 Evl

/-! ### dicts whose keys are pairs of tuples of numbers -/
abbrev K2 := List Nat × List Nat
def nu (c : List Nat) : NestedKey := .tup (c.map fun i : Nat => .num (i : Int))
def nk (x : K2) : NestedKey := .tup [nu x.1, nu x.2]
theorem nums_inj : ∀ {c d : List Nat}, (c.map fun i : Nat => NestedKey.num (i : Int)) = d.map (fun i : Nat => NestedKey.num (i : Int)) → c = d
  | [], [], _ => rfl
  | [], _ :: _, h => by simp at h
  | _ :: _, [], h => by simp at h
  | a :: c, b :: d, h => by
    rw [List.map_cons, List.map_cons] at h
    injection h with h1 h2
    injection h1 with h1
    rw [nums_inj h2]
    congr 1
    omega
theorem nk_inj {x y : K2} (h : nk x = nk y) : x = y := by
  unfold nk nu at h
  injection h with h
  injection h with h1 h2
  injection h2 with h2 _
  injection h1 with h1
  injection h2 with h2
  obtain ⟨a, b⟩ := x
  obtain ⟨c, d⟩ := y
  have e1 : a = c := nums_inj h1
  have e2 : b = d := nums_inj h2
  rw [e1, e2]
theorem nums_depth : ∀ c : List Nat, NestedKey.depthAll (c.map fun i : Nat => .num (i : Int)) = 0
  | [] => by simp [NestedKey.depthAll]
  | a :: c => by
    rw [List.map_cons, NestedKey.depthAll, nums_depth c]
    simp [NestedKey.depth]
theorem nk_depth (x : K2) : (nk x).depth ≤ 8 := by
  unfold nk nu
  simp only [NestedKey.depth, NestedKey.depthAll, nums_depth]
  decide
/-- the key's tuples as they stand -/
def KeyAt (H : Hp) (b : Addr) (x : K2) : Prop := ∃ p q, H b = some (.tup [.ref p, .ref q]) ∧ H p = some (.tup (nv x.1)) ∧ H q = some (.tup (nv x.2))
theorem KeyAt.tup {H H' : Hp} (k : ∀ a xs, H a = some (.tup xs) → H' a = some (.tup xs)) {b : Addr} {x : K2} (h : KeyAt H b x) : KeyAt H' b x := let ⟨p, q, h1, h2, h3⟩ := h; ⟨p, q, k _ _ h1, k _ _ h2, k _ _ h3⟩
theorem nums_is {h : Heap} : ∀ {c : List Nat} {us : List Value}, Vals (nv c) us → NestedAll h (c.map fun i : Nat => .num (i : Int)) us
  | [], _, r => by cases r; exact .nil
  | i :: c, _, r => by
    cases r with
    | cons r1 r2 =>
      obtain ⟨t, rfl⟩ := r1
      exact .cons (.int _ t) (nums_is r2)
section
variable {P : Program} {w : World} {H : Hp} {h : Heap}
theorem nu_is (ok : HOk P w H h) {a : Addr} {c : List Nat} (e : H a = some (.tup (nv c))) : NestedIs h (nu c) (.ref a) := by
  obtain ⟨_, its, r, o, h1, h2, n, h3⟩ := (show ObjOk P w H h a (.tup (nv c)) from ok a _ e)
  exact .tup h1 h2 h3 (by simpa using nums_is r)
theorem nk_is (ok : HOk P w H h) {b : Addr} {x : K2} (e : KeyAt H b x) : (nestedKind P w).is h (nk x) b := by
  obtain ⟨p, q, e1, e2, e3⟩ := e
  obtain ⟨_, its, r, o, h1, h2, n, h3⟩ := (show ObjOk P w H h b (.tup [.ref p, .ref q]) from ok b _ e1)
  refine ⟨.tup h1 h2 h3 ?_, nk_depth x⟩
  cases r with
  | cons r1 r2 =>
    cases r2 with
    | cons r2 r3 =>
      cases r3
      cases r1
      cases r2
      exact .cons (nu_is ok e2) (.cons (nu_is ok e3) .nil)
end
def NDr (P : Program) (w : World) (d : Addr) (xs : List (NestedKey × Addr × Value)) (h : Heap) : Prop := ∃ o es ep, h.get? d = some o ∧ o.ExactDict ∧ o.data = .dict es ep ∧ es.toList = xs.map (entryOfKey (nestedKind P w)) ∧ (xs.map (·.1)).Nodup
def ndO (P : Program) (w : World) (d : Addr) (xs : List (NestedKey × Addr × Value)) : HO := .ext (NDr P w d xs)
abbrev NKs (H : Hp) : List (K2 × V) → List (NestedKey × Addr × Value) → Prop := Paired fun p q => q.1 = nk p.1 ∧ KeyAt H q.2.1 p.1 ∧ RelV p.2 q.2.2
/-- at d stands a dict with these entries -/
structure NDict (P : Program) (w : World) (H : Hp) (d : Addr) (kvs : List (K2 × V)) : Prop where
  ex : ∃ xs, H d = some (ndO P w d xs) ∧ NKs H kvs xs
  nosys : (d == sysModules) = false
theorem NKs.tup {H H' : Hp} (k : ∀ a xs, H a = some (.tup xs) → H' a = some (.tup xs)) {kvs : List (K2 × V)} {xs : List (NestedKey × Addr × Value)} (h : NKs H kvs xs) : NKs H' kvs xs := paired_mono (fun _ _ z => ⟨z.1, z.2.1.tup k, z.2.2⟩) h
theorem NDict.ex' {P : Program} {w : World} {H H' : Hp} {d : Addr} {kvs : List (K2 × V)} (e : Ex H H') (h : NDict P w H d kvs) : NDict P w H' d kvs := by
  obtain ⟨⟨xs, h1, h2⟩, h3⟩ := h
  exact ⟨⟨xs, e _ _ h1, h2.tup fun a xs z => e _ _ z⟩, h3⟩
theorem NKs.val {H : Hp} {kvs : List (K2 × V)} {xs : List (NestedKey × Addr × Value)} (r : NKs H kvs xs) (k : K2) : RelO (valV kvs k) ((atKey xs (nk k)).map (·.2)) := by
  induction r with
  | nil => exact True.intro
  | @cons p q ps qs h t ih =>
    obtain ⟨h1, _, h2⟩ := h
    by_cases e : p.1 = k
    · have e' : q.1 = nk k := by rw [h1, e]
      have b : atKey (q :: qs) (nk k) = some q.2 := by simp [atKey, List.find?_cons, e']
      rw [valV_pos e, b]; exact h2
    · have e' : ¬ q.1 = nk k := fun z => e (nk_inj (h1.symm.trans z))
      have b : atKey (q :: qs) (nk k) = atKey qs (nk k) := by simp [atKey, List.find?_cons, e']
      rw [valV_neg e, b]; exact ih
def tNNew (P : Program) (w : World) : TE := fun _ H Q => ∀ p, H p = none → NDict P w (upd H p (ndO P w p [])) p [] → Q (.ref p) (upd H p (ndO P w p []))
def tNNotIn (P : Program) (w : World) (ty td : TE) : TE := fun σ H Q => ty σ H fun y H1 => td σ H1 fun x H2 => ∃ a b kvs k, x = .ref a ∧ y = .ref b ∧ NDict P w H2 a kvs ∧ KeyAt H2 b k ∧ Q (.bl (!(valV kvs k).isSome)) H2
def tNGet (P : Program) (w : World) (td ty : TE) : TE := fun σ H Q => td σ H fun x H1 => ty σ H1 fun y H2 => ∃ a b kvs k v, x = .ref a ∧ y = .ref b ∧ NDict P w H2 a kvs ∧ KeyAt H2 b k ∧ valV kvs k = some v ∧ Q v H2
/-- a new key is put -/
def sNPut (P : Program) (w : World) (td ty tv : TE) : TS := fun D σ H => tv σ H fun v H1 => td σ H1 fun x H2 => ty σ H2 fun y H3 => ∃ a b kvs k, x = .ref a ∧ y = .ref b ∧ NDict P w H3 a kvs ∧ KeyAt H3 b k ∧ valV kvs k = none ∧ kvs.length < sizeLine ∧
  ∀ o, (∀ e, o = HO.lst e → False) → (∀ e, o = HO.tup e → False) → NDict P w (upd H3 a o) a (kvs ++ [(k, v)]) → D.nx σ (upd H3 a o)
section
variable {X : Cx} {o i value : Expr} {pos pos' : Pos} {td ty tv : TE}
theorem nd_room {A : Around} (hu : A.units + 64 < cLine) : (nestedKind X.prog X.w).room A.in1 := by show A.units + 1 + 8 < cLine; omega
theorem nd_of {pins : List (Addr × Obj)} {σ : L2.St} {H : Hp} {s : Shared} {d : Addr} {kvs : List (K2 × V)} (I : Inv X pins σ H s) (h : NDict X.prog X.w H d kvs) : ∃ xs, H d = some (ndO X.prog X.w d xs) ∧ NKs H kvs xs ∧ s.heap.DictOfH (nestedKind X.prog X.w) d xs := by
  obtain ⟨⟨xs, h1, h2⟩, _⟩ := h
  refine ⟨xs, h1, h2, ?_⟩
  obtain ⟨⟨ob, es, ep, k1, k2, k3, k4, k5⟩, _⟩ := (show ObjOk X.prog X.w H s.heap d (.ext (NDr X.prog X.w d xs)) from I.hok d _ h1)
  refine ⟨ob, es, ep, k1, k2, k3, k4, fun x hx => ?_, k5⟩
  have all : ∀ {l : List (K2 × V)} {m : List (NestedKey × Addr × Value)}, NKs H l m → ∀ x ∈ m, (nestedKind X.prog X.w).is s.heap x.1 x.2.1 := by
    intro l m q
    induction q with
    | nil => intro x hx; exact nomatch hx
    | @cons p q ps qs hq t ih =>
      intro x hx
      rcases List.mem_cons.mp hx with e | hx
      · subst e
        rw [hq.1]
        exact nk_is I.hok hq.2.1
      · exact ih x hx
  exact all h2 x hx
theorem ndr_stay {P : Program} {w : World} {d : Addr} {xs : List (NestedKey × Addr × Value)} (h1 h2 : Heap) (h : NDr P w d xs h1) (k : ∀ o, h1.get? d = some o → h2.get? d = some o) : NDr P w d xs h2 := by
  obtain ⟨ob, es, ep, k1, k2⟩ := h
  exact ⟨ob, es, ep, k _ k1, k2⟩
theorem pe_dnewN : PE X (.Dict [] [] pos) (tNNew X.prog X.w) := ⟨fun pins s σ H Q I h => by
  have hs : (s.heap.objs.size == sysModules) = false := beq_eq_false_iff_ne.mpr (Ne.symm (Nat.ne_of_lt I.big))
  have hn : NDr X.prog X.w s.heap.objs.size [] (s.heap.push { cls := .type "dict", data := .dict #[] }) := ⟨_, #[], 0, Heap.get?_push_size _ rfl, ⟨rfl, rfl, rfl⟩, rfl, rfl, List.nodup_nil⟩
  exact wpAny_Dict_empty ⟨.ref s.heap.objs.size, _, I.laid (a := s.heap.objs.size) (o := ndO X.prog X.w s.heap.objs.size []) (t' := s.toks) (fun _ _ q => Heap.get?_push_of_some _ q) (Nat.le_refl _) ⟨hn, ⟨_, Heap.get?_push_size _ rfl⟩, ndr_stay⟩, rfl,
    h _ (I.hok.fresh (Nat.le_refl _)) ⟨⟨[], upd_same, .nil⟩, hs⟩⟩⟩
theorem pc_nnotin (hu : X.A.units + 64 < cLine) (hi : PE X i ty) (ho : PE X o td) : PC X .NotIn i o (tNNotIn X.prog X.w ty td) := by
  refine ⟨fun pins s σ H Q I h => ?_⟩
  refine L2.thn (hi.run pins s σ H _ I h) fun iv s1 ⟨y, H1, I1, ry, q1⟩ => L2.thn (ho.run pins s1 σ H1 _ I1 q1) fun u s2 ⟨x, H2, I2, rx, a, b, kvs, k, ex, ey, nd, ka, q2⟩ => ?_
  subst ex ey
  obtain rfl : u = Value.ref a := rx
  obtain rfl : iv = Value.ref b := ry
  obtain ⟨xs, h1, h2, dd⟩ := nd_of I2 nd
  refine wpAny_notIn_heap (nd_room hu) (nk_is I2.hok ka) nd.nosys dd ?_
  have q := (h2.val k).isSome_eq
  rw [Option.isSome_map] at q
  rw [← q]
  exact ⟨.bl (!(valV kvs k).isSome), H2, I2.tok _, rfl, q2⟩
theorem pe_nget (hu : X.A.units + 64 < cLine) (ho : PE X o td) (hi : PE X i ty) (hs : NoSl i) : PE X (.Subscript o i pos) (tNGet X.prog X.w td ty) := by
  refine ⟨fun pins s σ H Q I h => ?_⟩
  refine subD_of PySem.F.slot_dict_getitem.lookup hs (L2.thn (ho.run pins s σ H _ I h) fun u s1 ⟨x, H1, I1, rx, q1⟩ => L2.thn (hi.run pins s1 σ H1 _ I1 q1) fun iv s2 ⟨y, H2, I2, ry, a, b, kvs, k, v, ex, ey, nd, ka, hv, q2⟩ => ?_)
  subst ex ey
  obtain rfl : u = Value.ref a := rx
  obtain rfl : iv = Value.ref b := ry
  obtain ⟨xs, h1, h2, dd⟩ := nd_of I2 nd
  refine ⟨dd.typeIs, ?_⟩
  obtain ⟨w', hw, rw'⟩ := RelO.some_of (v := v) (o := (atKey xs (nk k)).map (·.2)) (by rw [← hv]; exact h2.val k)
  obtain ⟨p, hp, hp2⟩ := Option.map_eq_some_iff.mp hw
  refine wpAny_getItem_heap (nd_room hu) (nk_is I2.hok ka) dd hp ?_
  rw [hp2]
  exact ⟨v, H2, I2.tok _, rw', q2⟩
theorem ps_nput (hu : X.A.units + 64 < cLine) (ho : PE X o td) (hi : PE X i ty) (hv : PE X value tv) (hs : swapsWith value (some (.Subscript o i pos')) pos.line X.env = pure false) :
    PS X (.Assign [.Subscript o i pos'] value pos) (sNPut X.prog X.w td ty tv) := by
  refine ⟨fun pins s σ H D I h => ?_⟩
  refine wpAny_Assign_Subscript (L2.thn (hv.run pins s σ H _ I h) fun r s1 ⟨v, H1, I1, rv, q1⟩ => L2.thn (ho.run pins s1 σ H1 _ I1 q1) fun u s2 ⟨x, H2, I2, rx, q2⟩ => L2.thn (hi.run pins s2 σ H2 _ I2 q2) fun iv s3 ⟨y, H3, I3, ry, a, b, kvs, k, ex, ey, nd, ka, hn, hl, q3⟩ => ?_) hs
  subst ex ey
  obtain rfl : u = Value.ref a := rx
  obtain rfl : iv = Value.ref b := ry
  obtain ⟨xs, h1, h2, dd⟩ := nd_of I3 nd
  have hlen : xs.length < sizeLine := by rw [← paired_len h2]; exact hl
  have hnone : atKey xs (nk k) = none := by
    have z := RelO.none_of (o := (atKey xs (nk k)).map (·.2)) (by rw [← hn]; exact h2.val k)
    exact Option.map_eq_none_iff.mp z
  refine wpAny_setItem_heap (hsz := Nat.le_of_lt hlen) (nd_room hu) (nk_is I3.hok ka) dd fun h' dd' sb => ?_
  obtain ⟨ob, es, ep, k1, k2, k3, k4, _, k5⟩ := dd'
  rw [storedH_new hnone] at k4 k5
  have hne : ∀ c ys, H3 c = some (.tup ys) → c ≠ a := fun c ys ec z => by
    rw [z, h1] at ec
    cases ec
  have kt : ∀ c ys, H3 c = some (.tup ys) → (upd H3 a (ndO X.prog X.w a (xs ++ [(nk k, b, r)]))) c = some (.tup ys) := fun c ys ec => by
    rw [upd_ne (hne c ys ec)]; exact ec
  refine ⟨σ, _, d_write (ob := ndO X.prog X.w a (xs ++ [(nk k, b, r)])) (t' := s3.toks + (nestedKind X.prog X.w).draws (nk k)) I3 (by rw [h1]; exact True.intro) sb ⟨_, k1⟩ ⟨⟨ob, es, ep, k1, k2, k3, k4, k5⟩, ⟨_, k1⟩, ndr_stay⟩, q3 (ndO X.prog X.w a (xs ++ [(nk k, b, r)])) (fun e z => nomatch z) (fun e z => nomatch z) ⟨⟨_, upd_same, ?_⟩, nd.nosys⟩⟩
  exact paired_snoc (h2.tup kt) ⟨rfl, ka.tup kt, rv⟩
end
end Kx
namespace Kx
open PySem PySem.Spec PyProof.Rows L2 Evl

section
variable {P : Program} {w : World} {K : PySem.W.Frag} {mg : Str → Option Value} {base : Heap}
/-! _law_rounds: slots 0 _law_first, 1 _law_second, 2 _law_one, 3 _law_other, 4 _law_seen, 5 _law_found; cells [] -/
abbrev s_law_rounds : Stmt := top 46
theorem sc_law_rounds : FnScope ["_law_first", "_law_second", "_law_one", "_law_other", "_law_seen", "_law_found"] ["_law_first", "_law_second"] (defScope s_law_rounds) := ⟨rfl, rfl, rfl, by decide +kernel, rfl, by decide +kernel, by decide +kernel⟩
/-- both bodies, done round by round -/
def zz (c : List Nat) (x y : Nat) (i : Nat) : K2 := (pw c (x * i), pw c (y * i))
theorem zz_succ {c : List Nat} (h : Chg c) (x y i : Nat) : zz c x y (i + 1) = (Kx.thn (pw c (x * i)) (pw c x), Kx.thn (pw c (y * i)) (pw c y)) := by
  unfold zz
  rw [thn_pw h, thn_pw h, Nat.mul_succ, Nat.mul_succ]
theorem zz_det {c : List Nat} (h : Chg c) (x y : Nat) : Det (zz c x y) := fun i j e => by
  rw [zz_succ h, zz_succ h]
  have e1 := congrArg Prod.fst e
  have e2 := congrArg Prod.snd e
  simp only [zz] at e1 e2
  rw [e1, e2]
theorem pw_round {c : List Nat} {t r : Nat} (h : Rh c t r) (x : Nat) : pw c (x * t) = pw c (x * (t + r)) := by
  rw [Nat.mul_add]
  rcases Nat.eq_zero_or_pos x with rfl | hx
  · simp
  · exact (h.rho.2 (x * t) (x * r)).mpr (.inr ⟨Nat.le_mul_of_pos_left t hx, Nat.dvd_mul_left _ _⟩)
theorem zz_le {c : List Nat} {t r : Nat} (h : Rh c t r) {x y n : Nat} (d : Dist (zz c x y) n) : n ≤ t + r := by
  refine Nat.le_of_not_lt fun z => ?_
  have := h.rho.1
  refine d t (t + r) (by omega) z ?_
  unfold zz
  rw [pw_round h x, pw_round h y]
def Rnd (H : Hp) (v : V) (bs : List Bool) (back : Nat) : Prop := ∃ p l, v = .ref p ∧ H p = some (.tup [.ref l, .int (back : Nat)]) ∧ H l = some (.lst (bs.map V.bl))
def samev (c : List Nat) (x y n : Nat) : List Bool := (List.range n).map fun i => decide (pw c (x * i) = pw c (y * i))
def spRounds : Sp := fun vs H Q _ => ∃ a b c x y, vs = [.ref a, .ref b] ∧ H a = some (.tup (nv (pw c x))) ∧ H b = some (.tup (nv (pw c y))) ∧ Chg c ∧
  RetD (fun H' v => ∃ T R, Rho (zz c x y) T R ∧ T + R ≤ 7000 ∧ Rnd H' v (samev c x y (T + R)) T) H Q
theorem samev_succ (c : List Nat) (x y n : Nat) : (samev c x y n).map V.bl ++ [.bl (decide (pw c (x * n) = pw c (y * n)))] = (samev c x y (n + 1)).map V.bl := by
  unfold samev
  rw [List.range_succ, List.map_append, List.map_append]
  rfl
theorem c__law_rounds (T : Txt K mg) : Cal P w K mg base CX0 2 "_law_rounds" ["_law_first", "_law_second"] (spRounds) :=
  cal_of T._law_rounds sc_law_rounds (fun _ _ _ _ _ _ us hl => match us, hl with | [_, _], _ => rfl) (fun vs H Q E h => by obtain ⟨_, _, _, _, _, rfl, _⟩ := h; rfl) fun f cdv A outer s H vs Q E hr h => by
    have C_law_then := c__law_then (P := P) (w := w) (base := base) T
    refine ⟨_, pss_nox (pss_cons (ps_par (i := 2) (j := 3) (by rfl) sc_law_rounds.nd rfl rfl (by decide) rfl rfl (pa_cons (pe_callTy (tupK K rfl) (by rfl) T.n_tuple (by decide +kernel) (pa_cons (pe_listRg rfl (by rfl) T.n_list (prg_1 (by rfl) T.n_range (pe_callB (lenK K rfl) (by rfl) T.n_len (by decide +kernel) (pa_cons (pv 0) pa_nil)))) pa_nil)) (pa_cons (pe_callTy (tupK K rfl) (by rfl) T.n_tuple (by decide +kernel) (pa_cons (pe_listRg rfl (by rfl) T.n_list (prg_1 (by rfl) T.n_range (pe_callB (lenK K rfl) (by rfl) T.n_len (by decide +kernel) (pa_cons (pv 0) pa_nil)))) pa_nil)) pa_nil)) (by rfl))
        (pss_cons (ps_par (i := 4) (j := 5) (by rfl) sc_law_rounds.nd rfl rfl (by decide) rfl rfl (pa_cons (pe_dnewN) (pa_cons (pe_lst pa_nil) pa_nil)) (by rfl))
        (pss_cons (ps_while PassesOwn.never (pt_cmp (pc_nnotin hr.units (pe_tup (pa_cons (pv 2) (pa_cons (pv 3) pa_nil))) (pv 4))) (pss_cons (ps_nput hr.units (pv 4) (pe_tup (pa_cons (pv 2) (pa_cons (pv 3) pa_nil))) (pe_callB (lenK K rfl) (by rfl) T.n_len (by decide +kernel) (pa_cons (pv 5) pa_nil)) rfl)
        (pss_cons (ps_expr (pe_bm PySem.F.plainAttrs_list PySem.F.slot_list_append PySem.F.type_list_append mt_append (pv 5) (pa_cons (pe_cmpR (eqDK K rfl hr.units) (pv 2) (pv 3) (nomark _)) pa_nil)))
        (pss_one (ps_par (i := 2) (j := 3) (by rfl) sc_law_rounds.nd rfl rfl (by decide) rfl rfl (pa_cons (pe_cal C_law_then (hr.mono (by decide)) pass0 (pa_cons (pv 2) (pa_cons (pv 0) pa_nil))) (pa_cons (pe_cal C_law_then (hr.mono (by decide)) pass0 (pa_cons (pv 3) (pa_cons (pv 1) pa_nil))) pa_nil)) (by rfl))))))
        (pss_one (ps_ret (pe_tup (pa_cons (pv 5) (pa_cons (pe_nget hr.units (pv 4) (pe_tup (pa_cons (pv 2) (pa_cons (pv 3) pa_nil))) (fun _ _ => rfl)) pa_nil)))))))), ?_⟩
    obtain ⟨a, b, c, x, y, rfl, ha, hb, hc, q⟩ := h
    obtain ⟨t, r, hr2⟩ := rh_ex hc
    have htl := hr2.tl
    have hrl := hr2.rl
    have hcl := hc.le
    refine seq1 (par1 (cons1 (idle_way (n := c.length) (by omega) (fun Q k => ⟨_, rfl, a, _, rfl, .inr (st_of ha), by rw [nv_len, pw_len]; exact k⟩) fun p1 H1 e1 hp1 => ?_)))
    refine cons1 (idle_way (n := c.length) (by omega) (fun Q k => ⟨_, rfl, a, _, rfl, .inr (st_of (e1 _ _ ha)), by rw [nv_len, pw_len]; exact k⟩) fun p2 H2 e2 hp2 => ?_)
    refine ⟨_, _, rfl, ?_⟩
    have E2 := e1.trans e2
    refine fun d hd nd0 => ?_
    have ed := Ex.new (o := ndO P w d []) hd
    refine ⟨Nat.zero_le _, fun l hl => ⟨_, _, rfl, ?_⟩⟩
    have el := Ex.new (o := .lst []) hl
    have hd0 : H d = none := fresh_back E2 hd
    have hl0 : H l = none := fresh_back (E2.trans ed) hl
    have hdl : d ≠ l := fun z => by
      subst z
      rw [upd_same] at hl; cases hl
    refine ⟨fun m σ H' => ∃ n p1 p2, m = t + r - n ∧ σ = [some (.ref a), some (.ref b), some (.ref p1), some (.ref p2), some (.ref d), some (.ref l)] ∧ Ex H H' ∧ NDict P w H' d (sqd (zz c x y) n) ∧ H' l = some (.lst ((samev c x y n).map V.bl)) ∧
      H' p1 = some (.tup (nv (zz c x y n).1)) ∧ H' p2 = some (.tup (nv (zz c x y n).2)) ∧ Dist (zz c x y) n, ?_, ?_⟩
    · refine ⟨t + r, 0, p1, p2, rfl, rfl, (E2.trans ed).trans el, nd0.ex' el, upd_same, ?_, ?_, fun i j h1 h2 => absurd h2 (Nat.not_lt_zero _)⟩
      · rw [show (zz c x y 0).1 = List.range c.length by unfold zz; rw [Nat.mul_zero, pw_zero]]
        exact el _ _ (ed _ _ (e2 _ _ hp1))
      · rw [show (zz c x y 0).2 = List.range c.length by unfold zz; rw [Nat.mul_zero, Nat.mul_zero, pw_zero]]
        exact el _ _ (ed _ _ hp2)
    rintro m σ H' ⟨n, p1, p2, rfl, rfl, e3, nd, k1, k2, k3, hD⟩
    have hn := zz_le hr2 hD
    refine ⟨_, rfl, _, rfl, sz_of (by simp), fun b1 hb1 => ⟨_, rfl, d, b1, sqd (zz c x y) n, zz c x y n, rfl, rfl, nd.ex' (Ex.new hb1), ⟨p1, p2, upd_same, Ex.new hb1 _ _ k2, Ex.new hb1 _ _ k3⟩, ?_⟩⟩
    have eb := Ex.new (o := .tup [.ref p1, .ref p2]) hb1
    by_cases hin : ∀ j, j < n → zz c x y j ≠ zz c x y n
    · have hn2 := zz_le hr2 (hD.succ hin)
      rw [sqd_none hin]
      refine ⟨true, rfl, fun σ H3 => ∃ p1 p2, σ = [some (.ref a), some (.ref b), some (.ref p1), some (.ref p2), some (.ref d), some (.ref l)] ∧ Ex H H3 ∧ NDict P w H3 d (sqd (zz c x y) (n + 1)) ∧ H3 l = some (.lst ((samev c x y (n + 1)).map V.bl)) ∧
        H3 p1 = some (.tup (nv (zz c x y (n + 1)).1)) ∧ H3 p2 = some (.tup (nv (zz c x y (n + 1)).2)), ?_, ?_⟩
      · rintro σ H3 ⟨p1, p2, h1, h2, h3, h4, h5, h6⟩
        exact ⟨t + r - (n + 1), by omega, n + 1, p1, p2, rfl, h1, h2, h3, h4, h5, h6, hD.succ hin⟩
      · refine ⟨_, rfl, l, _, rfl, .inl (sq_of (eb _ _ k1)), _, rfl, _, rfl, _, rfl, sz_of (by simp), fun b2 hb2 => ?_⟩
        have eb2 := eb.trans (Ex.new (o := .tup [.ref p1, .ref p2]) hb2)
        have e4 := e3.trans eb2
        have ndb := nd.ex' eb2
        refine ⟨d, b2, sqd (zz c x y) n, zz c x y n, rfl, rfl, ndb, ⟨p1, p2, upd_same, eb2 _ _ k2, eb2 _ _ k3⟩, sqd_none hin, by rw [sqd_len]; exact sz_lt (by omega), fun o o1 o2 nd' => ?_⟩
        rw [show ((samev c x y n).map V.bl).length = n by simp [samev], ← sqd_succ] at nd'
        obtain ⟨⟨xs, hdx, _⟩, _⟩ := id ndb
        have p1d : p1 ≠ d := ne_of (eb2 _ _ k2) hdx (fun z => nomatch z)
        have p2d : p2 ≠ d := ne_of (eb2 _ _ k3) hdx (fun z => nomatch z)
        have e5 := e4.mut (o := o) hd0
        have g2 : (upd (upd (upd H' b1 (.tup [.ref p1, .ref p2])) b2 (.tup [.ref p1, .ref p2])) d o) p1 = some (.tup (nv (zz c x y n).1)) := by rw [upd_ne p1d]; exact eb2 _ _ k2
        have g3 : (upd (upd (upd H' b1 (.tup [.ref p1, .ref p2])) b2 (.tup [.ref p1, .ref p2])) d o) p2 = some (.tup (nv (zz c x y n).2)) := by rw [upd_ne p2d]; exact eb2 _ _ k3
        have g1 : (upd (upd (upd H' b1 (.tup [.ref p1, .ref p2])) b2 (.tup [.ref p1, .ref p2])) d o) l = some (.lst ((samev c x y n).map V.bl)) := by rw [upd_ne hdl.symm]; exact eb2 _ _ k1
        refine ⟨_, rfl, .inl ⟨rfl, _, sq_of g1⟩, _, rfl, _, rfl, tD (zz c x y n).1, tD (zz c x y n).2, dp_tD (st_of g2), dp_tD (st_of g3), (fit_tD _).shaped (by decide), (fit_tD _).shaped (by decide), l, _, _, rfl, rfl, g1, by simp [samev]; exact sz_lt (by omega), ?_⟩
        rw [eqv_tD, show decide ((zz c x y n).1 = (zz c x y n).2) = decide (pw c (x * n) = pw c (y * n)) from rfl, samev_succ]
        have p1l : p1 ≠ l := fun z => by rw [z, k1] at k2; cases k2
        have p2l : p2 ≠ l := fun z => by rw [z, k1] at k3; cases k3
        generalize hH9 : (upd (upd (upd (upd H' b1 (.tup [.ref p1, .ref p2])) b2 (.tup [.ref p1, .ref p2])) d o) l (.lst ((samev c x y (n + 1)).map V.bl))) = H9
        have e6 : Ex H H9 := by rw [← hH9]; exact e5.mut hl0
        have j1 : H9 p1 = some (.tup (nv (zz c x y n).1)) := by rw [← hH9, upd_ne p1l]; exact g2
        have j2 : H9 p2 = some (.tup (nv (zz c x y n).2)) := by rw [← hH9, upd_ne p2l]; exact g3
        have j3 : H9 l = some (.lst ((samev c x y (n + 1)).map V.bl)) := by rw [← hH9]; exact upd_same
        have j4 : NDict P w H9 d (sqd (zz c x y) (n + 1)) := by
          obtain ⟨⟨xs, m1, m2⟩, m3⟩ := nd'
          refine ⟨⟨xs, ?_, m2.tup fun a ys z => ?_⟩, m3⟩
          · rw [← hH9, upd_ne hdl]; exact m1
          · rw [← hH9, upd_ne]
            · exact z
            · rintro rfl
              rw [g1] at z; cases z
        refine ⟨_, rfl, _, rfl, p1, a, (zz c x y n).1, pw c x, rfl, st_of j1, st_of (e6 _ _ ha), ?_, ?_, j1, fun q1 H10 e10 h10 => ?_⟩
        · rw [pw_len]; exact pw_lt hc _
        · show (pw c (x * n)).length ≤ 1000
          rw [pw_len]; omega
        refine ⟨_, rfl, _, rfl, p2, b, (zz c x y n).2, pw c y, rfl, st_of (e10 _ _ j2), st_of (e10 _ _ (e6 _ _ hb)), ?_, ?_, e10 _ _ j2, fun q2 H11 e11 h11 => ?_⟩
        · rw [pw_len]; exact pw_lt hc _
        · show (pw c (y * n)).length ≤ 1000
          rw [pw_len]; omega
        have z1 := e10.trans e11
        refine ⟨_, _, rfl, q1, q2, rfl, e6.trans z1, j4.ex' z1, z1 _ _ j3, ?_, ?_⟩
        · rw [zz_succ hc]; exact e11 _ _ h10
        · rw [zz_succ hc]; exact h11
    · obtain ⟨j, hj⟩ : ∃ j, j < n ∧ zz c x y j = zz c x y n := by
        refine Classical.byContradiction fun z => hin fun j hj z2 => z ⟨j, hj, z2⟩
      have hv : valV (sqd (zz c x y) n) (zz c x y n) = some (.int (j : Nat)) := by
        rw [← hj.2]
        exact sqd_some hD hj.1
      have hrho := first_rep (zz_det hc x y) hD hj.1 hj.2
      rw [hv]
      refine ⟨false, rfl, ?_⟩
      refine ⟨_, rfl, _, rfl, _, rfl, _, rfl, sz_of (by simp), fun b2 hb2 => ?_⟩
      have eb2 := eb.trans (Ex.new (o := .tup [.ref p1, .ref p2]) hb2)
      refine ⟨d, b2, sqd (zz c x y) n, zz c x y n, _, rfl, rfl, nd.ex' eb2, ⟨p1, p2, upd_same, eb2 _ _ k2, eb2 _ _ k3⟩, hv, sz_of (by simp), fun p hp => ?_⟩
      have e9 := eb2.trans (Ex.new (o := .tup [.ref l, .int (j : Nat)]) hp)
      refine q _ _ (e3.trans e9) ⟨j, n - j, hrho, by omega, p, l, rfl, upd_same, ?_⟩
      rw [show j + (n - j) = n by omega]
      exact e9 _ _ k1
end
end Kx
namespace Kx
open PySem PySem.Spec PyProof.Rows L2 Evl

theorem filt_first {p : Nat → Bool} : ∀ (n s a : Nat), s ≤ a → a < s + n → p a = true → (∀ i, s ≤ i → i < a → p i = false) → (List.range' s n).filter p = a :: (List.range' (a + 1) (s + n - a - 1)).filter p
  | 0, s, a, h1, h2, _, _ => by omega
  | n + 1, s, a, h1, h2, h3, h4 => by
    rw [List.range'_succ, List.filter_cons]
    by_cases e : s = a
    · subst e
      rw [if_pos h3, show s + (n + 1) - s - 1 = n by omega]
    · rw [if_neg (by rw [h4 s (Nat.le_refl _) (by omega)]; decide), filt_first n (s + 1) a (by omega) (by omega) h3 (fun i a b => h4 i (by omega) b), show s + (n + 1) - a - 1 = s + 1 + n - a - 1 by omega]
theorem far_two {p : Nat → Bool} {m a b : Nat} (hab : a < b) (hb : b < m) (pa : p a = true) (pb : p b = true) (h1 : ∀ i, i < a → p i = false) (h2 : ∀ i, a < i → i < b → p i = false) : ∃ rest, (List.range m).filter p = a :: b :: rest := by
  rw [List.range_eq_range', filt_first m 0 a (by omega) (by omega) pa (fun i _ h => h1 i h), filt_first _ (a + 1) b (by omega) (by omega) pb (fun i h3 h4 => h2 i (by omega) h4)]
  exact ⟨_, rfl⟩
/-- what the row s of answers may be, and what is told of it -/
def TS (s : Nat → Bool) (back N : Nat) (x : List (Nat × Nat) × Nat) : Prop :=
  ((∀ n, s n = true) ∧ x = ([], 1)) ∨ ((∀ n, 0 < n → s n = false) ∧ x = ([], 0)) ∨
  ∃ F d, 0 < d ∧ 0 < F ∧ back ≤ F ∧ F + d < 3 * N + 3 ∧ s F = true ∧ s (F + d) = true ∧ (∀ n, 0 < n → n < F → s n = false) ∧ (∀ n, F < n → n < F + d → s n = false) ∧ x = (if d < F then [(F, 1)] else [], d)

section
variable {P : Program} {w : World} {K : PySem.W.Frag} {mg : Str → Option Value} {base : Heap}
/-! _law_told_set: slots 0 _law_rounds_here, 1 _law_found, 2 _law_back, 3 _law_far, 4 _law_end, 5 _law_runs, 6 _law_last, 7 _law_n, 8 _law_run; cells ['_law_end', '_law_rounds_here'] -/
abbrev s_law_told_set : Stmt := top 48
theorem sc_law_told_set : FnScope ["_law_rounds_here", "_law_found", "_law_back", "_law_far", "_law_end", "_law_runs", "_law_last", "_law_n", "_law_run"] ["_law_rounds_here"] (defScope s_law_told_set) := ⟨rfl, rfl, rfl, by decide +kernel, rfl, by decide +kernel, by decide +kernel⟩
def spTold : Sp := fun vs H Q _ => ∃ v bs back x, vs = [v] ∧ Rnd H v bs back ∧ back < bs.length ∧ bs.length ≤ 7000 ∧ TS (alk bs back) back bs.length x ∧ RetD (fun H' v => Told H' v x) H Q
theorem runs_itm {H : Hp} {us : List V} {rs : List (Nat × Nat)} (h : Runs H us rs) : ∀ x ∈ us, Itm H x := by
  induction h with
  | nil => intro x h; cases h
  | cons h t ih =>
    intro x hx
    obtain ⟨q, h1, h2⟩ := h
    rcases List.mem_cons.mp hx with rfl | hx
    · exact .inr ⟨q, [_, _], h1, h2⟩
    · exact ih x hx
theorem c__law_told_set (T : Txt K mg) : Cal P w K mg base CX0 2 "_law_told_set" ["_law_rounds_here"] (spTold) :=
  cal_of T._law_told_set sc_law_told_set (fun _ _ _ _ _ _ us hl => match us, hl with | [_], _ => rfl) (fun vs H Q E h => by obtain ⟨_, _, _, _, rfl, _⟩ := h; rfl) fun f cdv A outer s H vs Q E hr h => by
    have C_law_alike := c__law_alike (P := P) (w := w) (base := base) T
    refine ⟨_, pss_nox (pss_cons (ps_asg (pv 0) (pg_tupK K rfl 2 rfl (pgs_cons (pg_name (i := 1) sc_law_told_set.nd rfl (Or.inl rfl)) (pgs_cons (pg_name (i := 2) sc_law_told_set.nd rfl (Or.inl rfl)) pgs_nil))))
        (pss_cons (ps_setLc (i := 3) (own := [("_law_n", 7)]) (by rfl) sc_law_told_set.nd rfl rfl (sw_true rfl rfl rfl (by decide +kernel)) (pi_range2 (by rfl) T.n_range (pa_cons (pv 2) (pa_cons (pe_op op_add (pe_op op_mul pe_int (pe_callB (lenK K rfl) (by rfl) T.n_len (by decide +kernel) (pa_cons (pv 1) pa_nil))) pe_int) pa_nil))) (blkOk_by (N := ["_law_rounds_here", "_law_found", "_law_back", "_law_far", "_law_end", "_law_runs", "_law_last", "_law_n", "_law_run"]) (sc := defScope s_law_told_set) (by decide +kernel)) (fun _ _ _ _ _ => (pg_name (i := 7) sc_law_told_set.nd rfl (Or.inl rfl))) (fun _ _ _ _ _ => (pts_one (PW.pt (pw_and (pt_val (pe_cal C_law_alike (hr.mono (by decide)) pass0 (pa_cons (pv 0) (pa_cons (pv 7) pa_nil)))) (pw_and1 (pt_cmpR op_gt (pv 7) pe_int (nomark _))))))) (fun _ _ _ _ _ => (pv 7)))
        (pss_cons (ps_if (pt_cmpR (eqDK K rfl hr.units) (pv 3) (pe_lst pa_nil) (nomark _)) (pss_one (ps_ret (pe_tup (pa_cons (pe_tup pa_nil) (pa_cons pe_int pa_nil))))) pss_nil)
        (pss_cons (ps_asg (pe_tup (pa_cons (pe_op op_sub (pe_ix (ixL K rfl) (pv 3) pe_int (fun _ _ => rfl)) (pe_ix (ixL K rfl) (pv 3) pe_int (fun _ _ => rfl))) (pa_cons (pe_lst pa_nil) (pa_cons pe_int pa_nil)))) (pg_tupK K rfl 3 rfl (pgs_cons (pg_name (i := 4) sc_law_told_set.nd rfl (Or.inr rfl)) (pgs_cons (pg_name (i := 5) sc_law_told_set.nd rfl (Or.inl rfl)) (pgs_cons (pg_name (i := 6) sc_law_told_set.nd rfl (Or.inl rfl)) pgs_nil)))))
        (pss_cons (ps_for PassesOwn.never rfl (pi_range2 (by rfl) T.n_range (pa_cons pe_int (pa_cons (pe_op op_add (pe_ix (ixL K rfl) (pv 3) pe_int (fun _ _ => rfl)) pe_int) pa_nil))) (pg_name (i := 7) sc_law_told_set.nd rfl (Or.inl rfl)) (pss_one (ps_if (pt_val (pe_cal C_law_alike (hr.mono (by decide)) pass0 (pa_cons (pv 0) (pa_cons (pv 7) pa_nil)))) (pss_cons (ps_if (PW.pt (pw_and (pt_cmpR (neDK K rfl hr.units) (pv 5) (pe_lst pa_nil) (nomark _)) (pw_and1 (pt_cmpR op_eq (pe_ix (ixT K rfl) (pe_ix (ixL K rfl) (pv 5) (pe_un un_neg pe_int) (fun _ _ => rfl)) pe_int (fun _ _ => rfl)) (pe_op op_sub (pv 7) (pv 6)) (nomark _))))) (pss_one (ps_asg (pe_tup (pa_cons (pe_op op_sub (pv 7) (pv 6)) (pa_cons (pe_op op_add (pe_ix (ixT K rfl) (pe_ix (ixL K rfl) (pv 5) (pe_un un_neg pe_int) (fun _ _ => rfl)) pe_int (fun _ _ => rfl)) pe_int) pa_nil))) (pg_sub (pv 5) (pe_un un_neg pe_int) set_list))) (pss_one (ps_expr (pe_bm PySem.F.plainAttrs_list PySem.F.slot_list_append PySem.F.type_list_append mt_append (pv 5) (pa_cons (pe_tup (pa_cons (pe_op op_sub (pv 7) (pv 6)) (pa_cons pe_int pa_nil))) pa_nil)))))
        (pss_one (ps_set (i := 6) sc_law_told_set.nd rfl (Or.inl rfl) (pv 7)))) pss_nil)))
        (pss_one (ps_ret (pe_tup (pa_cons (pe_callTy (tupK K rfl) (by rfl) T.n_tuple (by decide +kernel) (pa_cons (pe_lc (own := [("_law_run", 8)]) (by rfl) sc_law_told_set.nd (pi_listK K rfl (pv 5)) (blkOk_by (N := ["_law_rounds_here", "_law_found", "_law_back", "_law_far", "_law_end", "_law_runs", "_law_last", "_law_n", "_law_run"]) (sc := defScope s_law_told_set) (by decide +kernel)) (fun _ _ _ _ _ => (pg_name (i := 8) sc_law_told_set.nd rfl (Or.inl rfl))) (fun _ _ _ _ _ => (pts_one (pt_cmpR op_gt (pe_ix (ixT K rfl) (pv 8) pe_int (fun _ _ => rfl)) (pv 4) (nomark _)))) (fun _ _ _ _ _ => (pv 8))) pa_nil)) (pa_cons (pv 4) pa_nil)))))))))), ?_⟩
    obtain ⟨v, bs, back, x, rfl, ⟨p, l, rfl, hp, hl⟩, hbk, hN, hts, q⟩ := h
    have alike : ∀ (σ : L2.St) (H' : Hp) (n : Nat) (Q : Bool → Hp → Prop) (ta tb : TE), Ex H H' → (∀ Q : VK, Q (.ref p) H' → ta σ H' Q) → (∀ Q : VK, Q (.int (n : Nat)) H' → tb σ H' Q) → Q (alk bs back n) H' → tTest (tCall (spAlike K) [] E0 (tCons ta (tCons tb tNil))) σ H' Q :=
      fun σ H' n Q ta tb e h1 h2 k => h1 _ (h2 _ ⟨p, l, back, n, bs, rfl, e _ _ hp, sq_of (e _ _ hl), hbk, _, rfl, k⟩)
    refine ⟨_, rfl, p, _, rfl, st_of hp, rfl, _, _, rfl, _, _, rfl, rfl, ?_⟩
    dsimp only
    generalize hs : alk bs back = s at *
    refine seq1 (asg1 (lc_R2 (lo := (back : Int)) (n := ((3 * bs.length + 3 : Nat) : Int)) (Ex.frame H) (fun i => s (back + i) && decide (0 < back + i)) (fun i y => y = .int ((back + i : Nat) : Int)) (fun _ _ => False) ⟨by omega, by omega, by omega, by omega⟩ (fun Q k => ?_) (fun x => rfl)
      (fun i H1 e1 hi Qb k => ?_) (fun i H1 e1 hi _ Q k => ⟨_, rfl, k _ H1 (Ex.refl _) (.inl ?_)⟩) (fun fa H1 ys hfa e1 hy pr => ?_)))
    · refine ⟨_, rfl, _, rfl, l, _, rfl, .inl (sq_of hl), _, _, rfl, rfl, .inl ⟨by omega, by omega⟩, _, _, rfl, rfl, ?_⟩
      have := k H (Ex.refl _)
      dsimp only
      rw [List.length_map, show (3 * (bs.length : Int) + 3) = ((3 * bs.length + 3 : Nat) : Int) by omega]
      exact this
    · have hc : ((back : Int) + (i : Int)) = ((back + i : Nat) : Int) := by omega
      rw [hc]
      refine alike _ _ (back + i) _ _ _ e1 (fun Q k => ⟨_, rfl, k⟩) (fun Q k => ⟨_, rfl, k⟩) ?_
      have kk := k H1 (Ex.refl _)
      cases h : s (back + i) with
      | true =>
        rw [h] at kk
        refine ⟨_, rfl, _, _, rfl, rfl, decide (0 < back + i), by simp; omega, kk⟩
      | false =>
        rw [h] at kk
        exact kk
    · show V.int _ = V.int _
      congr 1
    have ey := paired_pure (v := fun i => .int ((back + i : Nat) : Int)) pr
    have hm : (((3 * bs.length + 3 : Nat) : Int) - (back : Int)).toNat = 3 * bs.length + 3 - back := by omega
    rw [hm] at ey
    have hitm : ∀ x ∈ ys, Itm H1 x := fun x hx => by
      rw [ey] at hx
      obtain ⟨i, _, rfl⟩ := List.mem_map.mp hx
      exact .inl ⟨_, rfl⟩
    refine ⟨_, rfl, Nat.zero_le _, fun o ho => ?_⟩
    have eo := Ex.new (o := .lst []) ho
    refine eq_nil (eo _ _ hy) (fun x hx => (hitm x hx).tup (fun a xs h => eo _ _ h)) upd_same ⟨_, rfl, ?_⟩
    have e2 := e1.trans eo
    by_cases hnone : ∀ n, 0 < n → s n = false
    · have hys : ys = [] := by
        rw [ey, List.map_eq_nil_iff, List.filter_eq_nil_iff]
        intro i _ z
        rw [Bool.and_eq_true] at z
        rw [hnone _ (of_decide_eq_true z.2)] at z
        exact absurd z.1 (by decide)
      subst hys
      have hx : x = ([], 0) := by
        rcases hts with ⟨h, _⟩ | ⟨_, h⟩ | ⟨F, d, h1, h2, h3, h4, h5, _⟩
        · have := h 1
          rw [hnone 1 (by omega)] at this
          cases this
        · exact h
        · rw [hnone F h2] at h5; cases h5
      subst hx
      refine ⟨sz_of (by simp), fun p1 hp1 => ⟨sz_of (by simp), fun p2 hp2 => ?_⟩⟩
      exact q _ _ (e2.trans ((Ex.new hp1).trans (Ex.new hp2))) ⟨p2, p1, [], rfl, upd_same, Ex.new hp2 _ _ upd_same, .nil⟩
    -- the first two far ones
    obtain ⟨F, d, md, hF, hd, hFd, hbF, ⟨rest, hfil⟩, hmd⟩ : ∃ (F d : Nat) (md : Bool), 0 < F ∧ 0 < d ∧ F ≤ 30000 ∧ back ≤ F ∧ (∃ rest, ys = .int (F : Nat) :: .int ((F + d : Nat) : Nat) :: rest) ∧
        ((md = true ∧ (∀ n, s n = true) ∧ d = 1 ∧ x = ([], 1)) ∨ (md = false ∧ s F = true ∧ (∀ n, 0 < n → n < F → s n = false) ∧ x = (if d < F then [(F, 1)] else [], d))) := by
      have two : ∀ F d, back ≤ F → 0 < d → 0 < F → F + d < 3 * bs.length + 3 → s F = true → s (F + d) = true → (∀ n, 0 < n → back ≤ n → n < F → s n = false) → (∀ n, F < n → n < F + d → s n = false) → ∃ rest, ys = .int (F : Nat) :: .int ((F + d : Nat) : Nat) :: rest := by
        intro F d h1 h2 h3 h4 h5 h6 h7 h8
        obtain ⟨rest, hr⟩ := far_two (p := fun i => s (back + i) && decide (0 < back + i)) (m := 3 * bs.length + 3 - back) (a := F - back) (b := F + d - back) (by omega) (by omega) (by rw [show back + (F - back) = F by omega, h5]; simp; omega) (by rw [show back + (F + d - back) = F + d by omega, h6]; simp; omega)
          (fun i hi => by
            by_cases z : 0 < back + i
            · rw [h7 _ z (by omega) (by omega)]; rfl
            · rw [decide_eq_false z, Bool.and_false])
          (fun i h9 h10 => by rw [h8 _ (by omega) (by omega)]; rfl)
        refine ⟨rest.map fun i => .int ((back + i : Nat) : Int), ?_⟩
        rw [ey, hr, List.map_cons, List.map_cons, show back + (F - back) = F by omega, show back + (F + d - back) = F + d by omega]
      rcases hts with ⟨h, hx⟩ | ⟨h, _⟩ | ⟨F, d, h1, h2, h3, h4, h5, h6, h7, h8, hx⟩
      · refine ⟨max back 1, 1, true, by omega, by omega, by omega, by omega, two _ _ (by omega) (by omega) (by omega) (by omega) (h _) (h _) (fun n a b c => by omega) (fun n a b => by omega), .inl ⟨rfl, h, rfl, hx⟩⟩
      · exact absurd h hnone
      · exact ⟨F, d, false, h2, h1, by omega, h3, two F d h3 h1 h2 h4 h5 h6 (fun n a _ c => h7 n a c) h8, .inr ⟨rfl, h5, h7, hx⟩⟩
    subst hfil
    have y0 : atI (V.int (F : Nat) :: .int ((F + d : Nat) : Nat) :: rest) 0 = some (.int (F : Nat)) := atI_nat (j := 0) rfl
    have y1 : atI (V.int (F : Nat) :: .int ((F + d : Nat) : Nat) :: rest) 1 = some (.int ((F + d : Nat) : Nat)) := atI_nat (j := 1) rfl
    have hy2 := eo _ _ hy
    clear ey pr hitm
    refine ⟨_, rfl, fa, _, 1, _, rfl, rfl, sq_of hy2, y1, _, rfl, fa, _, 0, _, rfl, rfl, sq_of hy2, y0, _, _, rfl, rfl, Nat.zero_le _, fun ru hru => ⟨sz_of (by simp), fun pp hpp => ⟨pp, _, rfl, st_of upd_same, rfl, _, _, rfl, _, _, rfl, _, _, rfl, rfl, ?_⟩⟩⟩
    have e3 := e2.trans (Ex.new (o := .lst []) hru)
    have e4 := e3.trans (Ex.new (o := .tup [.int (((F + d : Nat) : Int) - (F : Nat)), .ref ru, .int 0]) hpp)
    have hru0 : H ru = none := fresh_back e2 hru
    have hy3 := (Ex.new (o := .tup [.int (((F + d : Nat) : Int) - (F : Nat)), .ref ru, .int 0]) hpp) _ _ ((Ex.new (o := .lst []) hru) _ _ hy2)
    have hfr : fa ≠ ru := ne_of_none hy2 hru
    dsimp only
    rw [show (((F + d : Nat) : Int) - (F : Int)) = (d : Int) by omega] at hy3 e4 ⊢
    refine q_forR2 (lo := 1) (n := (F : Int) + 1) (fun H1 e Q k => ⟨_, rfl, fa, _, 0, _, rfl, rfl, sq_of (e _ _ hy3), y0, _, _, rfl, rfl, k H1 (Ex.refl _)⟩) ⟨by omega, by omega, by omega, by omega⟩
      (fun i σ H' => ∃ (us : List V) (rs : List (Nat × Nat)) (la : Nat) (y7 : Option V), σ = [some (.ref p), some (.ref l), some (.int (back : Nat)), some (.ref fa), some (.int (d : Nat)), some (.ref ru), some (.int (la : Nat)), y7, none] ∧ Ex H H' ∧ H' ru = some (.lst us) ∧ Runs H' us rs ∧
        (md = true → (i = 0 ∧ rs = [] ∧ la = 0) ∨ (0 < i ∧ rs = [(1, i)] ∧ la = i)) ∧ (md = false → (i < F ∧ rs = [] ∧ la = 0) ∨ (i = F ∧ rs = [(F, 1)])))
      (fun H1 e => ⟨[], [], 0, _, rfl, e4.trans e, e _ _ (Ex.new hpp _ _ upd_same), .nil, fun _ => .inl ⟨rfl, rfl, rfl⟩, fun _ => .inl ⟨hF, rfl, rfl⟩⟩) ?_ ?_
    · rintro i σ H' hi ⟨us, rs, la, y7, rfl, e5, k1, k2, k3, k4⟩
      have hi : i < F := by omega
      have hn1 : (1 : Int) + (i : Int) = ((i + 1 : Nat) : Int) := by omega
      rw [hn1]
      -- runs was empty: append((n - last, 1))
      have app : ∀ (D : Ends) (H2 : Hp), us = [] → rs = [] → la ≤ i + 1 → Ex H' H2 → (∀ H3 q, Ex H H3 → H3 ru = some (.lst [.ref q]) → H3 q = some (.tup [.int ((i + 1 - la : Nat) : Nat), .int ((1 : Nat) : Nat)]) → D.nx [some (.ref p), some (.ref l), some (.int (back : Nat)), some (.ref fa), some (.int (d : Nat)), some (.ref ru), some (.int (la : Nat)), some (.int ((i + 1 : Nat) : Nat)), none] H3) →
          tDrop (tBM K "list" rAppend (tVar 5) (tCons (tTup (tCons (tOp (rI0 fun i j => .int (i - j)) (tVar 7) (tVar 6)) (tCons (tC (.int 1)) tNil))) tNil)) D [some (.ref p), some (.ref l), some (.int (back : Nat)), some (.ref fa), some (.int (d : Nat)), some (.ref ru), some (.int (la : Nat)), some (.int ((i + 1 : Nat) : Nat)), none] H2 := by
        intro D H2 hus hrs hla e6 kk
        subst hus hrs
        refine ⟨_, rfl, .inl ⟨rfl, _, sq_of (e6 _ _ k1)⟩, _, rfl, _, rfl, _, _, rfl, rfl, sz_of (by simp), fun q1 hq1 => ?_⟩
        have eq1 := Ex.new (o := .tup [.int (((i + 1 : Nat) : Int) - (la : Nat)), .int 1]) hq1
        have hrq : ru ≠ q1 := ne_of_none (e6 _ _ k1) hq1
        refine ⟨ru, _, _, rfl, rfl, eq1 _ _ (e6 _ _ k1), sz_lt (by simp), ?_⟩
        refine kk _ q1 (((e5.trans e6).trans eq1).mut hru0) upd_same ?_
        rw [upd_ne hrq.symm]
        dsimp only
        rw [show (((i + 1 : Nat) : Int) - (la : Int)) = ((i + 1 - la : Nat) : Int) by omega]
        exact upd_same
      have one : ∀ {H3 : Hp} {q1 : Addr} {g k : Nat}, H3 q1 = some (.tup [.int (g : Nat), .int (k : Nat)]) → Runs H3 [.ref q1] [(g, k)] := fun h => .cons ⟨_, rfl, h⟩ .nil
      by_cases hsn : s (i + 1) = true
      · refine alike _ _ (i + 1) _ _ _ e5 (fun Q k => ⟨_, rfl, k⟩) (fun Q k => ⟨_, rfl, k⟩) ?_
        rw [hsn]
        refine ⟨_, rfl, Nat.zero_le _, fun o2 ho2 => ?_⟩
        have eo2 := Ex.new (o := .lst []) ho2
        refine ne_nil (eo2 _ _ k1) (fun x hx => (runs_itm k2 x hx).tup (fun a xs h => eo2 _ _ h)) upd_same ⟨_, rfl, ?_⟩
        rcases hmd with ⟨hm, hall, hd1, hx⟩ | ⟨hm, hsF, hsn2, hx⟩
        · rcases k3 hm with ⟨hi0, hrs, hla⟩ | ⟨hi0, hrs, hla⟩
          · subst hi0 hrs hla
            cases k2
            refine app _ _ rfl rfl (by omega) eo2 fun H3 q1 a1 a2 a3 => ⟨_, rfl, ?_⟩
            exact ⟨_, [(1, 1)], 1, _, rfl, a1, a2, one a3, fun _ => .inr ⟨by omega, rfl, rfl⟩, fun z => by rw [hm] at z; cases z⟩
          · subst hrs hla
            cases k2 with
            | cons hq t =>
              cases t
              obtain ⟨q1, rfl, hq1⟩ := hq
              have l1 : atI [V.ref q1] (-1) = some (.ref q1) := atI_last [] _
              have sqr := sq_of (K := K) (eo2 _ _ k1)
              refine ⟨_, rfl, 1, rfl, ru, _, -1, _, rfl, rfl, sqr, l1, q1, _, 0, _, rfl, rfl, st_of (eo2 _ _ hq1), atI_nat (j := 0) rfl, _, rfl, _, rfl, _, _, rfl, rfl, rfl, true, by simp; omega, ?_⟩
              refine ⟨_, rfl, _, rfl, _, _, rfl, rfl, _, rfl, 1, rfl, ru, _, -1, _, rfl, rfl, sqr, l1, q1, _, 1, _, rfl, rfl, st_of (eo2 _ _ hq1), atI_nat (j := 1) rfl, _, _, rfl, rfl, sz_of (by simp), fun q2 hq2 => ?_⟩
              have eq2 := Ex.new (o := .tup [.int (((la + 1 : Nat) : Int) - (la : Nat)), .int ((la : Int) + 1)]) hq2
              have hrq : ru ≠ q2 := ne_of_none (eo2 _ _ k1) hq2
              refine ⟨_, rfl, 1, rfl, ru, _, -1, 0, rfl, rfl, eq2 _ _ (eo2 _ _ k1), rfl, _, rfl, ?_⟩
              refine ⟨[.ref q2], [(1, la + 1)], la + 1, _, rfl, ((e5.trans eo2).trans eq2).mut hru0, upd_same, one ?_, fun _ => .inr ⟨by omega, rfl, rfl⟩, fun z => by rw [hm] at z; cases z⟩
              rw [upd_ne hrq.symm, upd_same]
              dsimp only
              rw [show (((la + 1 : Nat) : Int) - (la : Int)) = ((1 : Nat) : Int) by omega]
              rfl
        · have hiF : i + 1 = F := by
            by_cases z : i + 1 < F
            · rw [hsn2 _ (by omega) z] at hsn; cases hsn
            · omega
          rcases k4 hm with ⟨_, hrs, hla⟩ | ⟨hi0, _⟩
          · subst hrs hla
            cases k2
            refine app _ _ rfl rfl (by omega) eo2 fun H3 q1 a1 a2 a3 => ⟨_, rfl, ?_⟩
            rw [Nat.sub_zero, hiF] at a3
            exact ⟨_, [(F, 1)], i + 1, _, rfl, a1, a2, one a3, fun z => (by rw [hm] at z; cases z), fun _ => .inr ⟨hiF, rfl⟩⟩
          · omega
      · have hsn : s (i + 1) = false := by simpa using hsn
        refine alike _ _ (i + 1) _ _ _ e5 (fun Q k => ⟨_, rfl, k⟩) (fun Q k => ⟨_, rfl, k⟩) ?_
        rw [hsn]
        rcases hmd with ⟨hm, hall, _⟩ | ⟨hm, hsF, hsn2, hx⟩
        · rw [hall] at hsn; cases hsn
        · have hiF : i + 1 < F := by
            by_cases z : i + 1 < F
            · exact z
            · rw [show i + 1 = F by omega, hsF] at hsn; cases hsn
          rcases k4 hm with ⟨_, hrs, hla⟩ | ⟨hi0, _⟩
          · exact ⟨us, rs, la, _, rfl, e5, k1, k2, fun z => (by rw [hm] at z; cases z), fun _ => .inl ⟨hiF, hrs, hla⟩⟩
          · omega
    · rintro σ H' ⟨us, rs, la, y7, rfl, e5, k1, k2, k3, k4⟩
      rw [show ((F : Int) + 1 - 1).toNat = F by omega] at k3 k4
      obtain ⟨g, k, hrs, hgk⟩ : ∃ g k, rs = [(g, k)] ∧ x = (if d < g then [(g, k)] else [], d) := by
        rcases hmd with ⟨hm, hall, hd1, hx⟩ | ⟨hm, hsF, hsn2, hx⟩
        · rcases k3 hm with ⟨hi0, _⟩ | ⟨hi0, hrs, hla⟩
          · omega
          · refine ⟨1, F, hrs, ?_⟩
            rw [hd1, hx, if_neg (by omega)]
        · rcases k4 hm with ⟨hi0, _⟩ | ⟨_, hrs⟩
          · omega
          · exact ⟨F, 1, hrs, hx⟩
      subst hrs hgk
      cases k2 with
      | cons hq t =>
        cases t
        obtain ⟨q1, rfl, hq1⟩ := hq
        refine ret1 (tup1 (cons1 (cb1 (lc_L (a := ru) (xs := [.ref q1]) (Ex.frame H') (fun _ => decide (d < g)) (fun _ y => y = .ref q1) (fun _ _ => False) (fun Q kk => ⟨_, rfl, kk H' (Ex.refl _) (sq_of k1)⟩) (fun H1 e1 => sq_of (e1 _ _ k1)) (by simp) (fun x => rfl) (fun i x H1 e6 hx Qb kk => ?_) (fun i x H1 e6 hx _ Q kk => ?_) (fun r H2 ys hr0 e6 hy6 pr => ?_)))))
        · have hx : x = .ref q1 := by
            rcases i with _ | i
            · exact (Option.some.inj hx).symm
            · simp at hx
          subst hx
          refine ⟨_, rfl, q1, _, 0, _, rfl, rfl, st_of (e6 _ _ hq1), atI_nat (j := 0) rfl, _, rfl, _, _, rfl, rfl, decide (d < g), by simp, kk H1 (Ex.refl _)⟩
        · have hx : x = .ref q1 := by
            rcases i with _ | i
            · exact (Option.some.inj hx).symm
            · simp at hx
          subst hx
          exact ⟨_, rfl, kk _ H1 (Ex.refl _) (.inl rfl)⟩
        · have ey := paired_pure (v := fun _ => .ref q1) pr
          refine ⟨r, ys, rfl, .inl ⟨sq_of hy6, fun u hu => ⟨_, rfl, sz_of (by simp), fun z hz => ?_⟩⟩⟩
          have eu := Ex.new (o := .tup ys) hu
          have ez := Ex.new (o := .tup [.ref u, .int (d : Nat)]) hz
          refine q _ _ (((e5.trans e6).trans eu).trans ez) ⟨z, u, ys, rfl, upd_same, ez _ _ upd_same, ?_⟩
          have zq := ez _ _ (eu _ _ (e6 _ _ hq1))
          by_cases hdg : d < g
          · rw [if_pos hdg]
            simp only [hdg, decide_true] at ey
            have ey2 : ys = [V.ref q1] := ey
            subst ey2
            exact .cons ⟨q1, rfl, zq⟩ .nil
          · rw [if_neg hdg]
            simp only [hdg, decide_false] at ey
            have ey2 : ys = [] := ey
            subst ey2
            exact .nil
end
end Kx
namespace Kx
open PySem

/-! ### the plain law -/
theorem dvd_gcd_iff {r a n : Nat} (hr : 0 < r) : r ∣ a * n ↔ r / Nat.gcd r a ∣ n := by
  have hg : 0 < Nat.gcd r a := Nat.gcd_pos_of_pos_left _ hr
  obtain ⟨r', h1⟩ := Nat.gcd_dvd_left r a
  obtain ⟨a', h2⟩ := Nat.gcd_dvd_right r a
  have e : r / Nat.gcd r a = r' := by
    conv => lhs; arg 1; rw [h1]
    exact Nat.mul_div_cancel_left _ hg
  have co : Nat.Coprime r' a' := by
    have := Nat.coprime_div_gcd_div_gcd hg
    rw [e, show a / Nat.gcd r a = a' by conv => lhs; arg 1; rw [h2]
                                        exact Nat.mul_div_cancel_left _ hg] at this
    exact this
  rw [e]
  generalize Nat.gcd r a = g at *
  constructor
  · intro h
    rw [h1, h2, Nat.mul_assoc] at h
    have h3 := Nat.dvd_of_mul_dvd_mul_left hg h
    exact co.dvd_of_dvd_mul_left h3
  · rintro ⟨k, rfl⟩
    rw [h1, h2]
    refine ⟨a' * k, ?_⟩
    grind
theorem upTo_dvd (n m : Nat) : n ∣ upTo n m := ⟨(m + n - 1) / n, by unfold upTo; rw [Nat.mul_comm]⟩
theorem upTo_ge {n m : Nat} (h : 0 < n) : m ≤ upTo n m := by
  unfold upTo
  have := Nat.div_add_mod (m + n - 1) n
  have h2 := Nat.mod_lt (m + n - 1) h
  rw [Nat.mul_comm]
  omega
theorem upTo_least {n m k : Nat} (h : 0 < n) (hd : n ∣ k) (hk : m ≤ k) : upTo n m ≤ k := by
  obtain ⟨q, rfl⟩ := hd
  unfold upTo
  rw [Nat.mul_comm]
  refine Nat.mul_le_mul_left n ?_
  have : (m + n - 1) / n < q + 1 := by
    rw [Nat.div_lt_iff_lt_mul h, Nat.succ_mul, Nat.mul_comm q n]
    omega
  omega
theorem ceil_iff {lo t n : Nat} (h : 0 < lo) : t ≤ lo * n ↔ upTo lo t / lo ≤ n := by
  constructor
  · intro hn
    have := upTo_least (k := lo * n) h (Nat.dvd_mul_right _ _) hn
    exact Nat.div_le_of_le_mul this
  · intro hn
    have h1 := upTo_ge (m := t) h
    have h2 : lo * (upTo lo t / lo) = upTo lo t := Nat.mul_div_cancel' (upTo_dvd lo t)
    have h3 := Nat.mul_le_mul_left lo hn
    omega
/-- for which counts both bodies are alike -/
theorem same_iff {c : List Nat} {t r x y n : Nat} (h : Rh c t r) (hxy : x ≠ y) : pw c (x * n) = pw c (y * n) ↔ n = 0 ∨ (t ≤ min x y * n ∧ rbEnd r x y ∣ n) := by
  have key : ∀ lo hi, lo < hi → (pw c (lo * n) = pw c (hi * n) ↔ n = 0 ∨ (t ≤ lo * n ∧ r ∣ (hi - lo) * n)) := by
    intro lo hi hlt
    have e : hi * n = lo * n + (hi - lo) * n := by
      rw [← Nat.add_mul, show lo + (hi - lo) = hi by omega]
    rw [e, h.rho.2 (lo * n) ((hi - lo) * n), Nat.mul_eq_zero]
    constructor
    · rintro ((z | z) | z)
      · omega
      · exact .inl z
      · exact .inr z
    · rintro (z | z)
      · exact .inl (.inr z)
      · exact .inr z
  have h0 := h.rho.1
  unfold rbEnd
  rcases Nat.lt_or_gt_of_ne hxy with z | z
  · rw [key x y z, dvd_gcd_iff h0, show min x y = x by omega, show max x y = y by omega]
  · rw [eq_comm, key y x z, dvd_gcd_iff h0, show min x y = y by omega, show max x y = x by omega]
theorem alk_same {c : List Nat} {x y T R n : Nat} (h : Rho (zz c x y) T R) : alk (samev c x y (T + R)) T n = decide (pw c (x * n) = pw c (y * n)) := by
  have get : ∀ i, i < T + R → (samev c x y (T + R)).getD i false = decide (pw c (x * i) = pw c (y * i)) := fun i hi => by
    unfold samev
    rw [List.getD_eq_getElem?_getD, List.getElem?_map, List.getElem?_range hi]
    rfl
  have hl : (samev c x y (T + R)).length = T + R := by simp [samev]
  have hR := h.1
  unfold alk
  rw [hl]
  by_cases hn : n < T + R
  · rw [if_pos hn, get n hn]
  · rw [if_neg hn, show T + R - T = R by omega]
    have hm := Nat.mod_lt (n - T) hR
    rw [get _ (by omega)]
    have h3 := Nat.mod_add_div (n - T) R
    have h4 := (h.2 (T + (n - T) % R) (R * ((n - T) / R))).mpr (.inr ⟨by omega, Nat.dvd_mul_right _ _⟩)
    rw [show T + (n - T) % R + R * ((n - T) / R) = n by omega] at h4
    have e1 := congrArg Prod.fst h4
    have e2 := congrArg Prod.snd h4
    simp only [zz] at e1 e2
    rw [e1, e2]
theorem round_T {c : List Nat} {t r x y T R F : Nat} (h : Rh c t r) (hz : Rho (zz c x y) T R) (hx : t ≤ x * F ∨ x = 0) (hy : t ≤ y * F ∨ y = 0) : T ≤ F := by
  have one : ∀ x, t ≤ x * F ∨ x = 0 → pw c (x * F) = pw c (x * (F + r)) := fun x hx => by
    rw [Nat.mul_add]
    rcases hx with hx | rfl
    · exact (h.rho.2 (x * F) (x * r)).mpr (.inr ⟨hx, Nat.dvd_mul_left _ _⟩)
    · simp
  have e : zz c x y F = zz c x y (F + r) := by
    unfold zz
    rw [one x hx, one y hy]
  rcases (hz.2 F r).mp e with z | z
  · have := h.rho.1
    omega
  · exact z.1
/-- the falling row that is told is that of repeated_by -/
theorem told_law {c : List Nat} {t r x y T R : Nat} (h : Rh c t r) (hz : Rho (zz c x y) T R) : TS (alk (samev c x y (T + R)) T) T (samev c x y (T + R)).length (rb t r x y) := by
  rw [show (samev c x y (T + R)).length = T + R by simp [samev]]
  rw [show alk (samev c x y (T + R)) T = fun n => decide (pw c (x * n) = pw c (y * n)) from funext fun n => alk_same hz]
  have hR := hz.1
  have hr0 := h.rho.1
  by_cases hxy : x = y
  · subst hxy
    refine .inl ⟨fun n => by simp, ?_⟩
    unfold rb
    rw [if_pos (by omega)]
  have hg : 0 < Nat.gcd r (max x y - min x y) := Nat.gcd_pos_of_pos_left _ hr0
  have hd : 0 < rbEnd r x y := Nat.div_pos (Nat.le_of_dvd hr0 (Nat.gcd_dvd_left _ _)) hg
  have iff : ∀ n, decide (pw c (x * n) = pw c (y * n)) = true ↔ n = 0 ∨ (t ≤ min x y * n ∧ rbEnd r x y ∣ n) := fun n => by
    rw [decide_eq_true_iff]
    exact same_iff h hxy
  have iffF : ∀ n, ¬ (n = 0 ∨ (t ≤ min x y * n ∧ rbEnd r x y ∣ n)) → decide (pw c (x * n) = pw c (y * n)) = false := fun n hn => by
    rw [← iff] at hn
    simpa using hn
  have per : ∀ n, T ≤ n → decide (pw c (x * (n + R)) = pw c (y * (n + R))) = decide (pw c (x * n) = pw c (y * n)) := fun n hn => by
    have h4 := (hz.2 n R).mpr (.inr ⟨hn, Nat.dvd_refl _⟩)
    have e1 := congrArg Prod.fst h4
    have e2 := congrArg Prod.snd h4
    simp only [zz] at e1 e2
    rw [e1, e2]
  unfold rb
  rw [if_neg (by omega)]
  -- the third case, from a first member F
  have third : ∀ F, 0 < F → rbEnd r x y ∣ F → t ≤ min x y * F → T ≤ F → (∀ n, 0 < n → n < F → ¬ (t ≤ min x y * n ∧ rbEnd r x y ∣ n)) → (∀ n, F ≤ n → t ≤ min x y * n) →
      ∀ z, z = (if rbEnd r x y < F then [(F, 1)] else [], rbEnd r x y) → TS (fun n => decide (pw c (x * n) = pw c (y * n))) T (T + R) z := by
    intro F h1 h2 h3 h4 h5 h6 z hzz
    have sF : decide (pw c (x * F) = pw c (y * F)) = true := (iff F).mpr (.inr ⟨h3, h2⟩)
    have sFR : decide (pw c (x * (F + R)) = pw c (y * (F + R))) = true := by rw [per F h4]; exact sF
    have dR : rbEnd r x y ∣ R := by
      rcases (iff (F + R)).mp sFR with z | z
      · omega
      · exact (Nat.dvd_add_right h2).mp z.2
    have leR := Nat.le_of_dvd hR dR
    have leF : F ≤ T + R := by
      refine Nat.le_of_not_lt fun q => ?_
      have e := per (F - R) (by omega)
      rw [show F - R + R = F by omega, sF] at e
      rcases (iff (F - R)).mp e.symm with z | z
      · omega
      · exact h5 (F - R) (by omega) (by omega) z
    refine .inr (.inr ⟨F, rbEnd r x y, hd, h1, h4, by omega, sF, (iff _).mpr (.inr ⟨h6 _ (by omega), (Nat.dvd_add_right h2).mpr (Nat.dvd_refl _)⟩), fun n a b => iffF n fun z => ?_, fun n a b => iffF n fun z => ?_, hzz⟩)
    · rcases z with z | z
      · omega
      · exact h5 n a b z
    · rcases z with z | z
      · omega
      · have := (Nat.dvd_sub z.2 h2)
        have := Nat.le_of_dvd (by omega) this
        omega
  by_cases hlo : min x y = 0
  · rw [if_pos hlo]
    by_cases ht : 0 < t
    · rw [if_pos ht]
      refine .inr (.inl ⟨fun n hn => iffF n fun z => ?_, rfl⟩)
      rw [hlo] at z
      rcases z with z | z
      · omega
      · simp at z; omega
    · rw [if_neg ht]
      have t0 : t = 0 := by omega
      subst t0
      refine third (rbEnd r x y) hd (Nat.dvd_refl _) (Nat.zero_le _) (Nat.le_trans (round_T (F := 0) h hz (.inl (Nat.zero_le _)) (.inl (Nat.zero_le _))) (Nat.zero_le _)) (fun n a b z => ?_) (fun n _ => Nat.zero_le _) _ (by rw [if_neg (Nat.lt_irrefl _)])
      have := Nat.le_of_dvd a z.2
      omega
  · rw [if_neg hlo]
    have hlo : 0 < min x y := by omega
    have f1 : rbEnd r x y ≤ rbFirst t r x y := Nat.le_max_left _ _
    have f2 : upTo (rbEnd r x y) (upTo (min x y) t / min x y) ≤ rbFirst t r x y := Nat.le_max_right _ _
    have f3 : upTo (min x y) t / min x y ≤ rbFirst t r x y := Nat.le_trans (upTo_ge hd) f2
    have f4 : rbEnd r x y ∣ rbFirst t r x y := by
      unfold rbFirst
      rcases Nat.le_total (rbEnd r x y) (upTo (rbEnd r x y) (upTo (min x y) t / min x y)) with z | z
      · rw [Nat.max_eq_right z]; exact upTo_dvd _ _
      · rw [Nat.max_eq_left z]; exact Nat.dvd_refl _
    have f5 : t ≤ min x y * rbFirst t r x y := (ceil_iff hlo).mpr f3
    refine third (rbFirst t r x y) (by omega) f4 f5 (round_T h hz (.inl (Nat.le_trans f5 (Nat.mul_le_mul_right _ (by omega)))) (.inl (Nat.le_trans f5 (Nat.mul_le_mul_right _ (by omega))))) (fun n a b z => ?_) (fun n hn => Nat.le_trans f5 (Nat.mul_le_mul_left _ hn)) _ ?_
    · have g1 := Nat.le_of_dvd a z.2
      have g2 := upTo_least hd z.2 ((ceil_iff hlo).mp z.1)
      have : rbFirst t r x y ≤ n := Nat.max_le.mpr ⟨g1, g2⟩
      omega
    · by_cases e : rbFirst t r x y = rbEnd r x y
      · rw [if_pos e, if_neg (by omega)]
      · rw [if_neg e, if_pos (by omega)]

/-! ### count by count -/
/-- how the law reads a falling row of at most one run -/
def memR : List (Nat × Nat) → Nat → Nat → Nat × Bool → Nat × Bool
  | [], _, _, z => z
  | (s, m) :: rs, n, e, (a, b) => memR rs n e (a + s * m, b || (decide (a < n ∧ n ≤ a + s * m) && decide ((n - a) % s = 0)))
def memB (x : List (Nat × Nat) × Nat) (n : Nat) : Bool :=
  let z := memR x.1 n x.2 (0, decide (n = 0))
  z.2 || (decide (z.1 ≤ n) && (decide (0 < x.2) && decide ((n - z.1) % x.2 = 0)))
def dueB (t r x y n : Nat) : Bool := decide (n * x = n * y) || (decide (t ≤ min (n * x) (n * y)) && decide (((n * x : Nat) - (n * y : Nat) : Int) % (r : Int) = 0))
theorem due_iff {t r x y n : Nat} (hr : 0 < r) (hxy : x ≠ y) : dueB t r x y n = true ↔ n = 0 ∨ (t ≤ min x y * n ∧ rbEnd r x y ∣ n) := by
  unfold dueB
  rw [Bool.or_eq_true, Bool.and_eq_true, decide_eq_true_iff, decide_eq_true_iff, decide_eq_true_iff]
  have h1 : n * x = n * y ↔ n = 0 := by
    constructor
    · intro h
      rcases Nat.eq_zero_or_pos n with z | z
      · exact z
      · exact absurd (Nat.eq_of_mul_eq_mul_left z h) hxy
    · rintro rfl; simp
  have h2 : min (n * x) (n * y) = min x y * n := by
    rw [Nat.mul_min_mul_left, Nat.mul_comm]
  have h3 : (((n * x : Nat) - (n * y : Nat) : Int) % (r : Int) = 0) ↔ rbEnd r x y ∣ n := by
    unfold rbEnd
    rw [← dvd_gcd_iff hr, ← Int.dvd_iff_emod_eq_zero]
    rcases Nat.le_total x y with z | z
    · rw [show max x y - min x y = y - x by omega]
      have e : ((n * x : Nat) - (n * y : Nat) : Int) = -(((y - x) * n : Nat) : Int) := by
        have : n * y = n * x + (y - x) * n := by rw [Nat.mul_comm (y - x) n, ← Nat.mul_add, show x + (y - x) = y by omega]
        omega
      rw [e, Int.dvd_neg]
      exact Int.natCast_dvd_natCast
    · rw [show max x y - min x y = x - y by omega]
      have e : ((n * x : Nat) - (n * y : Nat) : Int) = (((x - y) * n : Nat) : Int) := by
        have : n * x = n * y + (x - y) * n := by rw [Nat.mul_comm (x - y) n, ← Nat.mul_add, show y + (x - y) = x by omega]
        omega
      rw [e]
      exact Int.natCast_dvd_natCast
  rw [h1, h2, h3]
theorem mem_due {t r x y n : Nat} (hr : 0 < r) : memB (rb t r x y) n = dueB t r x y n := by
  rw [Bool.eq_iff_iff]
  by_cases hxy : x = y
  · subst hxy
    have : dueB t r x x n = true := by unfold dueB; simp
    rw [this]
    unfold rb
    rw [if_pos (by omega)]
    simp [memB, memR, Nat.mod_one]
  rw [due_iff hr hxy]
  have hg : 0 < Nat.gcd r (max x y - min x y) := Nat.gcd_pos_of_pos_left _ hr
  have hd : 0 < rbEnd r x y := Nat.div_pos (Nat.le_of_dvd hr (Nat.gcd_dvd_left _ _)) hg
  unfold rb
  rw [if_neg (by omega)]
  have plain : ∀ e, memB ([], e) n = true ↔ n = 0 ∨ (0 < e ∧ e ∣ n) := fun e => by
    simp only [memB, memR, Nat.zero_le, decide_true, Bool.true_and, Nat.sub_zero, Bool.or_eq_true, Bool.and_eq_true, decide_eq_true_iff, Nat.dvd_iff_mod_eq_zero]
    exact ⟨fun h => h.imp id fun z => ⟨z.1, of_decide_eq_true z.2⟩, fun h => h.imp id fun z => ⟨z.1, decide_eq_true z.2⟩⟩
  by_cases hlo : min x y = 0
  · rw [if_pos hlo, hlo]
    by_cases ht : 0 < t
    · rw [if_pos ht, plain]
      constructor
      · rintro (z | z)
        · exact .inl z
        · omega
      · rintro (z | z)
        · exact .inl z
        · simp at z; omega
    · rw [if_neg ht, plain]
      constructor
      · rintro (z | z)
        · exact .inl z
        · exact .inr ⟨by simp; omega, z.2⟩
      · rintro (z | z)
        · exact .inl z
        · exact .inr ⟨hd, z.2⟩
  · rw [if_neg hlo]
    have hlo : 0 < min x y := by omega
    have f1 : rbEnd r x y ≤ rbFirst t r x y := Nat.le_max_left _ _
    have f2 : upTo (rbEnd r x y) (upTo (min x y) t / min x y) ≤ rbFirst t r x y := Nat.le_max_right _ _
    have f3 : upTo (min x y) t / min x y ≤ rbFirst t r x y := Nat.le_trans (upTo_ge hd) f2
    have f4 : rbEnd r x y ∣ rbFirst t r x y := by
      unfold rbFirst
      rcases Nat.le_total (rbEnd r x y) (upTo (rbEnd r x y) (upTo (min x y) t / min x y)) with z | z
      · rw [Nat.max_eq_right z]; exact upTo_dvd _ _
      · rw [Nat.max_eq_left z]; exact Nat.dvd_refl _
    -- members: 0, and the multiples from the first on
    have mem : (n = 0 ∨ (t ≤ min x y * n ∧ rbEnd r x y ∣ n)) ↔ n = 0 ∨ (rbFirst t r x y ≤ n ∧ rbEnd r x y ∣ n) := by
      constructor
      · rintro (z | z)
        · exact .inl z
        · rcases Nat.eq_zero_or_pos n with h0 | h0
          · exact .inl h0
          · exact .inr ⟨Nat.max_le.mpr ⟨Nat.le_of_dvd h0 z.2, upTo_least hd z.2 ((ceil_iff hlo).mp z.1)⟩, z.2⟩
      · rintro (z | z)
        · exact .inl z
        · exact .inr ⟨(ceil_iff hlo).mpr (Nat.le_trans f3 z.1), z.2⟩
    rw [mem]
    by_cases e : rbFirst t r x y = rbEnd r x y
    · rw [if_pos e, plain, e]
      constructor
      · rintro (z | z)
        · exact .inl z
        · rcases Nat.eq_zero_or_pos n with h0 | h0
          · exact .inl h0
          · exact .inr ⟨Nat.le_of_dvd h0 z.2, z.2⟩
      · rintro (z | z)
        · exact .inl z
        · exact .inr ⟨hd, z.2⟩
    · rw [if_neg e]
      have hF : 0 < rbFirst t r x y := by omega
      generalize rbFirst t r x y = F at *
      generalize rbEnd r x y = d at *
      simp only [memB, memR, Nat.mul_one, Nat.zero_add, Nat.sub_zero, Bool.or_eq_true, Bool.and_eq_true, decide_eq_true_iff]
      constructor
      · rintro ((z | ⟨⟨z1, z2⟩, z3⟩) | ⟨z1, z2, z3⟩)
        · exact .inl z
        · have := Nat.le_of_dvd z1 (Nat.dvd_of_mod_eq_zero z3)
          exact .inr ⟨this, by rw [show n = F by omega]; exact f4⟩
        · exact .inr ⟨z1, by
            have h5 := Nat.dvd_of_mod_eq_zero z3
            have := (Nat.dvd_add_right f4).mpr h5
            rw [show F + (n - F) = n by omega] at this
            exact this⟩
      · rintro (z | ⟨z1, z2⟩)
        · exact .inl (.inl z)
        · exact .inr ⟨z1, hd, Nat.mod_eq_zero_of_dvd (Nat.dvd_sub z2 f4)⟩

/-! ### doubling -/
theorem rb_12 (t : Nat) {r : Nat} (hr : 0 < r) : rb t r 1 2 = (if max r (upTo r t) = r then [] else [(max r (upTo r t), 1)], r) := by
  have e1 : rbEnd r 1 2 = r := by
    unfold rbEnd
    rw [show max 1 2 - min 1 2 = 1 from rfl, Nat.gcd_one_right, Nat.div_one]
  have e2 : upTo 1 t / 1 = t := by
    unfold upTo
    rw [Nat.div_one, Nat.mul_one, Nat.div_one, Nat.add_sub_cancel]
  have e3 : rbFirst t r 1 2 = max r (upTo r t) := by
    unfold rbFirst
    rw [e1, show min 1 2 = 1 from rfl, e2]
  unfold rb
  rw [if_neg (by decide), if_neg (by decide), e1, e3]
  by_cases z : max r (upTo r t) = r
  · rw [if_pos z, if_pos z]
  · rw [if_neg z, if_neg z]
theorem twice_end (t : Nat) {r : Nat} (hr : 0 < r) : (rb t r 1 2).2 = r := by rw [rb_12 t hr]
theorem twice_idem {c : List Nat} {t r : Nat} (h : Rh c t r) (hc : Chg c) : (rb t r 1 2 = ([], 1)) ↔ Kx.thn c c = c := by
  have e := thn_pw hc 1 1
  rw [pw_one] at e
  rw [e, rb_12 t h.rho.1]
  have e2 : (pw c (1 + 1) = c) ↔ (t ≤ 1 ∧ r ∣ 1) := by
    have := h.rho.2 1 1
    rw [pw_one] at this
    rw [eq_comm, this]
    constructor
    · rintro (z | z)
      · omega
      · exact z
    · exact .inr
  rw [e2]
  have hr := h.rho.1
  constructor
  · intro z
    have z1 : r = 1 := congrArg Prod.snd z
    have z2 := congrArg Prod.fst z
    subst z1
    refine ⟨?_, Nat.dvd_refl _⟩
    simp only at z2
    split at z2
    · rename_i q
      have := upTo_ge (m := t) hr
      omega
    · cases z2
  · rintro ⟨z1, z2⟩
    have : r = 1 := Nat.dvd_one.mp z2
    subst this
    have : upTo 1 t = t := by unfold upTo; rw [Nat.div_one, Nat.mul_one, Nat.add_sub_cancel]
    rw [this, if_pos (by omega)]
end Kx
namespace Kx
open PySem PySem.Spec PyProof.Rows L2 Evl
theorem slTA {X : Cx} (K : PySem.W.Frag) (h : X.K = K) : SlR X (rSlA K) := by subst h; exact sl_tupA

/-! ### boolean values, as they are put together -/
def Pu (te : TE) (σ : L2.St) (H : Hp) (v : V) : Prop := ∀ Q : VK, Q v H → te σ H Q
section
variable {σ : L2.St} {H : Hp} {ta tb : TE} {b1 b2 : Bool}
theorem pu_or (h1 : Pu ta σ H (.bl b1)) (h2 : b1 = false → Pu tb σ H (.bl b2)) : Pu (tOrV ta tb) σ H (.bl (b1 || b2)) := fun Q k => h1 _ ⟨b1, rfl, by
  cases b1 with
  | true => exact k
  | false => exact h2 rfl _ k⟩
theorem pu_and (h1 : Pu ta σ H (.bl b1)) (h2 : b1 = true → Pu tb σ H (.bl b2)) : Pu (tAndV ta tb) σ H (.bl (b1 && b2)) := fun Q k => h1 _ ⟨b1, rfl, by
  cases b1 with
  | false => exact k
  | true => exact h2 rfl _ k⟩
end
theorem dint (i j : Nat) : decide (V.int (i : Int) = V.int (j : Int)) = decide (i = j) := by
  by_cases h : i = j
  · subst h; simp
  · simp [h]; omega
theorem dint0 (i : Nat) : decide (V.int (i : Int) = V.int 0) = decide (i = 0) := dint i 0
theorem memR_app : ∀ (a b : List (Nat × Nat)) (n e : Nat) (z : Nat × Bool), memR (a ++ b) n e z = memR b n e (memR a n e z)
  | [], b, n, e, z => rfl
  | (s, m) :: a, b, n, e, (x, y) => by
    show memR (a ++ b) n e _ = _
    rw [memR_app a b]
    rfl
section
variable {P : Program} {w : World} {K : PySem.W.Frag} {mg : Str → Option Value} {base : Heap}
/-! _law_by_counts: slots 0 _law_first, 1 _law_length, 2 _law_times_here, 3 _law_others, 4 _law_told, 5 _law_runs, 6 _law_end, 7 _law_count, 8 _law_one, 9 _law_other, 10 _law_due, 11 _law_at, 12 _law_has, 13 _law_step, 14 _law_many; cells [] -/
abbrev s_law_by_counts : Stmt := top 55
theorem sc_law_by_counts : FnScope ["_law_first", "_law_length", "_law_times_here", "_law_others", "_law_told", "_law_runs", "_law_end", "_law_count", "_law_one", "_law_other", "_law_due", "_law_at", "_law_has", "_law_step", "_law_many"] ["_law_first", "_law_length", "_law_times_here", "_law_others", "_law_told"] (defScope s_law_by_counts) := ⟨rfl, rfl, rfl, by decide +kernel, rfl, by decide +kernel, by decide +kernel⟩
def spCounts (K : PySem.W.Frag) : Sp := fun vs H Q _ => ∃ (t r a b : Nat) (v : V) (x : List (Nat × Nat) × Nat), vs = [.int (t : Nat), .int (r : Nat), .int (a : Nat), .int (b : Nat), v] ∧ 0 < r ∧ a ≤ 1000 ∧ b ≤ 1000 ∧ Told H v x ∧ (∀ sm ∈ x.1, 0 < sm.1 ∧ sm.2 ≤ 1000) ∧ x.1.length ≤ 100 ∧
  (∀ n, n < 40 → memB x n = dueB t r a b n) ∧ ∀ H', Ex H H' → Q (.bl true) H'
theorem c__law_by_counts (T : Txt K mg) : Cal P w K mg base CX0 1 "_law_by_counts" ["_law_first", "_law_length", "_law_times_here", "_law_others", "_law_told"] (spCounts K) :=
  cal_of T._law_by_counts sc_law_by_counts (fun _ _ _ _ _ _ us hl => match us, hl with | [_, _, _, _, _], _ => rfl) (fun vs H Q E h => by obtain ⟨_, _, _, _, _, _, rfl, _⟩ := h; rfl) fun f cdv A outer s H vs Q E hr h => by
    refine ⟨_, pss_nox (pss_cons (ps_asg (pv 4) (pg_tupK K rfl 2 rfl (pgs_cons (pg_name (i := 5) sc_law_by_counts.nd rfl (Or.inl rfl)) (pgs_cons (pg_name (i := 6) sc_law_by_counts.nd rfl (Or.inl rfl)) pgs_nil))))
        (pss_cons (ps_for PassesOwn.never rfl (pi_range1 (by rfl) T.n_range (pa_cons pe_int pa_nil)) (pg_name (i := 7) sc_law_by_counts.nd rfl (Or.inl rfl)) (pss_cons (ps_par (i := 8) (j := 9) (by rfl) sc_law_by_counts.nd rfl rfl (by decide) rfl rfl (pa_cons (pe_op op_mul (pv 7) (pv 2)) (pa_cons (pe_op op_mul (pv 7) (pv 3)) pa_nil)) (by rfl))
        (pss_cons (ps_set (i := 10) sc_law_by_counts.nd rfl (Or.inl rfl) (pe_or (pe_cmpR op_eq (pv 8) (pv 9) (nomark _)) (pe_one (pe_and (pe_cmpR op_ge (pe_callB (min2 rfl) (by rfl) T.n_min (by decide +kernel) (pa_cons (pv 8) (pa_cons (pv 9) pa_nil))) (pv 0) (nomark _)) (pe_one (pe_cmpR op_eq (pe_op op_mod (pe_callTy int1 (by rfl) T.n_int (by decide +kernel) (pa_cons (pe_op op_sub (pv 8) (pv 9)) pa_nil)) (pv 1)) pe_int (nomark _)))))))
        (pss_cons (ps_par (i := 11) (j := 12) (by rfl) sc_law_by_counts.nd rfl rfl (by decide) rfl rfl (pa_cons pe_int (pa_cons (pe_cmpR op_eq (pv 7) pe_int (nomark _)) pa_nil)) (by rfl))
        (pss_cons (ps_for PassesOwn.never rfl (pi_tupK K rfl (pv 5)) (pg_tupK K rfl 2 rfl (pgs_cons (pg_name (i := 13) sc_law_by_counts.nd rfl (Or.inl rfl)) (pgs_cons (pg_name (i := 14) sc_law_by_counts.nd rfl (Or.inl rfl)) pgs_nil))) (pss_cons (ps_set (i := 12) sc_law_by_counts.nd rfl (Or.inl rfl) (pe_or (pv 12) (pe_one (pe_and (pe_chain op_lt op_le (pv 11) (pv 7) (pe_op op_add (pv 11) (pe_op op_mul (pv 13) (pv 14)))) (pe_one (pe_cmpR op_eq (pe_op op_mod (pe_callTy int1 (by rfl) T.n_int (by decide +kernel) (pa_cons (pe_op op_sub (pv 7) (pv 11)) pa_nil)) (pv 13)) pe_int (nomark _)))))))
        (pss_one (ps_set (i := 11) sc_law_by_counts.nd rfl (Or.inl rfl) (pe_op op_add (pv 11) (pe_op op_mul (pv 13) (pv 14)))))))
        (pss_cons (ps_set (i := 12) sc_law_by_counts.nd rfl (Or.inl rfl) (pe_or (pv 12) (pe_one (pe_and (pe_cmpR op_ge (pv 7) (pv 11) (nomark _)) (pe_and (pe_cmpR op_gt (pv 6) pe_int (nomark _)) (pe_one (pe_cmpR op_eq (pe_op op_mod (pe_callTy int1 (by rfl) T.n_int (by decide +kernel) (pa_cons (pe_op op_sub (pv 7) (pv 11)) pa_nil)) (pv 6)) pe_int (nomark _))))))))
        (pss_one (ps_if (pt_cmpR op_ne (pv 12) (pv 10) (nomark _)) (pss_one (ps_ret pe_bl)) pss_nil))))))))
        (pss_one (ps_ret pe_bl)))), ?_⟩
    obtain ⟨t, r, a, b, v, ⟨rs, e⟩, rfl, hr0, ha, hb, ⟨p, p1, us, rfl, hp, hp1, hu⟩, hrs, hrl, hmem, q⟩ := h
    have hul : us.length = rs.length := paired_len hu
    refine ⟨_, rfl, p, _, rfl, st_of hp, rfl, _, _, rfl, _, _, rfl, rfl, ?_⟩
    dsimp only
    refine q_forR1 (n := 40) (fun H1 _ Q k => k H1 (Ex.refl _)) ⟨by omega, by omega⟩
      (fun i σ H' => ∃ y7 y8 y9 y10 y11 y12 y13 y14 : Option V, σ = [some (.int (t : Nat)), some (.int (r : Nat)), some (.int (a : Nat)), some (.int (b : Nat)), some (.ref p), some (.ref p1), some (.int (e : Nat)), y7, y8, y9, y10, y11, y12, y13, y14] ∧ Ex H H')
      (fun H1 e1 => ⟨_, _, _, _, _, _, _, _, rfl, e1⟩) ?_ (fun σ H' ⟨_, _, _, _, _, _, _, _, h, e1⟩ => by subst h; exact q H' e1)
    rintro n σ H' hn ⟨y7, y8, y9, y10, y11, y12, y13, y14, rfl, e1⟩
    have hn : n < 40 := by omega
    refine ⟨_, rfl, _, rfl, _, _, rfl, rfl, .inl ⟨by omega, by omega⟩, _, rfl, _, rfl, _, _, rfl, rfl, .inl ⟨by omega, by omega⟩, _, _, rfl, ?_⟩
    dsimp only
    rw [← Int.natCast_mul, ← Int.natCast_mul]
    -- due
    refine seq1 (asg1 ((pu_or (b1 := decide (n * a = n * b)) (b2 := decide (t ≤ min (n * a) (n * b)) && decide (((n * a : Nat) - (n * b : Nat) : Int) % (r : Int) = 0)) (fun Q k => ⟨_, rfl, _, rfl, rfl, by rw [dint]; exact k⟩)
      (fun _ => pu_and (fun Q k => ⟨_, rfl, _, rfl, _, _, rfl, ?_⟩) (fun _ Q k => ⟨_, rfl, _, rfl, _, _, rfl, rfl, .inl ⟨_, rfl, _, rfl, _, _, rfl, rfl, by omega, rfl, ?_⟩⟩))) _ ?_))
    rotate_left
    · rw [minc]
      refine ⟨_, rfl, _, _, rfl, rfl, ?_⟩
      dsimp only
      rw [show decide ((t : Int) ≤ ((min (n * a) (n * b) : Nat) : Int)) = decide (t ≤ min (n * a) (n * b)) by simp [-Nat.le_min]; omega]
      exact k
    · dsimp only
      rw [show decide (V.int (((n * a : Nat) - (n * b : Nat) : Int) % (r : Int)) = V.int 0) = decide (((n * a : Nat) - (n * b : Nat) : Int) % (r : Int) = 0) by simp]
      exact k
    rw [show (decide (n * a = n * b) || (decide (t ≤ min (n * a) (n * b)) && decide (((n * a : Nat) - (n * b : Nat) : Int) % (r : Int) = 0))) = dueB t r a b n from rfl, ← hmem n hn]
    refine ⟨_, rfl, rfl, _, _, rfl, ?_⟩
    dsimp only
    rw [dint0]
    refine q_forT (a := p1) (xs := us) (fun H1 _ Q k => ⟨_, rfl, k H1 (Ex.refl _)⟩) (st_of (e1 _ _ hp1))
      (fun j σ H2 => ∃ y13 y14 : Option V, σ = [some (.int (t : Nat)), some (.int (r : Nat)), some (.int (a : Nat)), some (.int (b : Nat)), some (.ref p), some (.ref p1), some (.int (e : Nat)), some (.int (n : Nat)), some (.int ((n * a : Nat) : Nat)), some (.int ((n * b : Nat) : Nat)), some (.bl (memB (rs, e) n)),
        some (.int ((memR (rs.take j) n e (0, decide (n = 0))).1 : Nat)), some (.bl (memR (rs.take j) n e (0, decide (n = 0))).2), y13, y14] ∧ Ex H H2)
      (fun H1 e2 => ⟨_, _, rfl, e1.trans e2⟩) (fun j σ H2 _ ⟨_, _, _, h⟩ => st_of (h _ _ hp1)) ?_ ?_
    · rintro j x σ H2 hx ⟨y13, y14, rfl, e2⟩
      have hj : j < rs.length := by rw [← hul]; exact (List.getElem?_eq_some_iff.mp hx).1
      obtain ⟨x2, h1, q1, rfl, hq1⟩ := paired_get hu j _ (List.getElem?_eq_getElem hj)
      rw [hx] at h1
      cases h1
      obtain ⟨s0, m1⟩ := hrs _ (List.getElem_mem hj)
      have hstep : memR (rs.take (j + 1)) n e (0, decide (n = 0)) = memR [rs[j]] n e (memR (rs.take j) n e (0, decide (n = 0))) := by
        rw [List.take_add_one, List.getElem?_eq_getElem hj, memR_app]
        rfl
      generalize hz : memR (rs.take j) n e (0, decide (n = 0)) = z at *
      obtain ⟨at1, has⟩ := z
      generalize rs[j] = sm at *
      obtain ⟨s, m⟩ := sm
      refine ⟨q1, _, rfl, st_of (e2 _ _ hq1), rfl, _, _, rfl, _, _, rfl, rfl, ?_⟩
      refine seq1 (asg1 ((pu_or (b1 := has) (b2 := decide (at1 < n ∧ n ≤ at1 + s * m) && decide ((n - at1) % s = 0)) (fun Q k => ⟨_, rfl, k⟩)
        (fun _ => pu_and (fun Q k => ⟨_, rfl, _, rfl, _, _, rfl, rfl, _, rfl, ?_⟩) (fun hlt Q k => ⟨_, rfl, _, rfl, _, _, rfl, rfl, .inl ⟨_, rfl, _, rfl, _, _, rfl, rfl, by omega, rfl, ?_⟩⟩))) _ ?_))
      rotate_left
      · by_cases hlt : at1 < n
        · rw [decide_eq_true (show (at1 : Int) < (n : Int) by omega), if_pos rfl]
          refine ⟨_, rfl, _, rfl, _, rfl, _, _, rfl, rfl, .inr ⟨by omega, by omega⟩, _, _, rfl, rfl, _, _, rfl, rfl, ?_⟩
          have : decide ((n : Int) ≤ (at1 : Int) + (s : Int) * (m : Int)) = decide (at1 < n ∧ n ≤ at1 + s * m) := by
            rw [← Int.natCast_mul, decide_eq_decide]
            omega
          dsimp only
          rw [this]
          exact k
        · rw [decide_eq_false (show ¬ (at1 : Int) < (n : Int) by omega), if_neg (by decide)]
          rw [decide_eq_false (show ¬ (at1 < n ∧ n ≤ at1 + s * m) by omega)] at k
          exact k
      · have hlt := of_decide_eq_true hlt
        have : decide (V.int (((n : Int) - (at1 : Int)) % (s : Int)) = V.int 0) = decide ((n - at1) % s = 0) := by
          rw [show ((n : Int) - (at1 : Int)) = ((n - at1 : Nat) : Int) by omega, ← Int.natCast_emod, dint0]
        dsimp only
        rw [this]
        exact k
      · refine ⟨_, rfl, _, rfl, _, rfl, _, _, rfl, rfl, .inr ⟨by omega, by omega⟩, _, _, rfl, rfl, some (.int (s : Nat)), some (.int (m : Nat)), ?_, e2⟩
        rw [hstep]
        have : (at1 : Int) + (s : Int) * (m : Int) = ((at1 + s * m : Nat) : Int) := by rw [Int.natCast_add, Int.natCast_mul]
        dsimp only
        rw [this]
        rfl
    · rintro σ H2 ⟨y13, y14, rfl, e2⟩
      rw [hul, List.take_length]
      have hm : memB (rs, e) n = ((memR rs n e (0, decide (n = 0))).2 || (decide ((memR rs n e (0, decide (n = 0))).1 ≤ n) && (decide (0 < e) && decide ((n - (memR rs n e (0, decide (n = 0))).1) % e = 0)))) := rfl
      generalize memR rs n e (0, decide (n = 0)) = z at *
      obtain ⟨at1, has⟩ := z
      refine seq1 (asg1 ((pu_or (b1 := has) (b2 := decide (at1 ≤ n) && (decide (0 < e) && decide ((n - at1) % e = 0))) (fun Q k => ⟨_, rfl, k⟩)
        (fun _ => pu_and (fun Q k => ⟨_, rfl, _, rfl, _, _, rfl, rfl, ?_⟩) (fun hle => pu_and (fun Q k => ⟨_, rfl, _, _, rfl, rfl, ?_⟩) (fun he Q k => ⟨_, rfl, _, rfl, _, _, rfl, rfl, .inl ⟨_, rfl, _, rfl, _, _, rfl, rfl, ?_, rfl, ?_⟩⟩)))) _ ?_))
      rotate_left
      · dsimp only
        rw [show decide ((at1 : Int) ≤ (n : Int)) = decide (at1 ≤ n) by simp]
        exact k
      · dsimp only
        rw [show decide ((0 : Int) < (e : Int)) = decide (0 < e) by simp]
        exact k
      · have := of_decide_eq_true he
        omega
      · have hle := of_decide_eq_true hle
        have : decide (V.int (((n : Int) - (at1 : Int)) % (e : Int)) = V.int 0) = decide ((n - at1) % e = 0) := by
          rw [show ((n : Int) - (at1 : Int)) = ((n - at1 : Nat) : Int) by omega, ← Int.natCast_emod, dint0]
        dsimp only
        rw [this]
        exact k
      · rw [← hm]
        refine ⟨_, rfl, _, rfl, rfl, false, by simp, ?_⟩
        exact ⟨_, _, _, _, _, _, _, _, rfl, e2⟩

/-! _law_bad_row: slots 0 _law_deal, 1 _law_commands, 2 _law_row, 3 _law_at; cells [] -/
abbrev s_law_bad_row : Stmt := top 50
theorem sc_law_bad_row : FnScope ["_law_deal", "_law_commands", "_law_row", "_law_at"] ["_law_deal", "_law_commands", "_law_row"] (defScope s_law_bad_row) := ⟨rfl, rfl, rfl, by decide +kernel, rfl, by decide +kernel, by decide +kernel⟩
/-- what is no row: not a sequence, or with a first item that is no command -/
def BadV (K : PySem.W.Frag) (H : Hp) (k : Nat) (bad : V) (at' : Nat) : Prop := (at' = 0 ∧ ∃ T, TyX K H bad (.type T) ∧ noseq T = true) ∨
  ∃ a xs, bad = .ref a ∧ H a = some (.lst xs) ∧ xs.length ≤ 1000 ∧ (∀ i, i < at' → ∃ c : Nat, xs[i]? = some (.int (c : Nat)) ∧ c < k) ∧ ∃ x, xs[at']? = some x ∧ Pln K H x ∧ idxV x k = false
theorem BadV.ex {H H' : Hp} {k : Nat} {bad : V} {at' : Nat} (e : Ex H H') (h : BadV K H k bad at') : BadV K H' k bad at' := by
  rcases h with ⟨h1, T, h2, h3⟩ | ⟨a, xs, h1, h2, h3, h4, x, h5, h6, h7⟩
  · exact .inl ⟨h1, T, TyX.ex e h2, h3⟩
  · exact .inr ⟨a, xs, h1, e _ _ h2, h3, h4, x, h5, h6.ex e, h7⟩
def spBad (K : PySem.W.Frag) : Sp := fun vs H Q _ => ∃ (d l : Addr) (k : Nat) (a : Addr) (rw' : List Nat), vs = [.ref d, .int (k : Nat), .ref a] ∧ Deal d l H ∧ H a = some (.tup (nv rw')) ∧ Below k rw' ∧ rw'.length ≤ 100 ∧
  ∀ p bad at' H', Fd d l H H' → H' p = some (.tup [bad, .int (at' : Nat)]) → BadV K H' k bad at' → Q (.ref p) H'
theorem cut_to (c : List Nat) {n : Nat} (h : n ≤ c.length) : cutV (nv c) none (some (n : Int)) = nv (c.take n) := by
  unfold cutV
  rw [show HT.sIx (nv c).length 0 none = 0 from HT.sIx_none _ _, show HT.sIx (nv c).length (nv c).length (some (n : Int)) = min n (nv c).length from HT.sIx_nat _ _ n, List.drop_zero, Nat.sub_zero, nv_len, Nat.min_eq_left h]
  simp [nv, List.map_take]
theorem cut_from (c : List Nat) {n : Nat} (h : n ≤ c.length) : cutV (nv c) (some (n : Int)) none = nv (c.drop n) := by
  unfold cutV
  rw [show HT.sIx (nv c).length (nv c).length none = (nv c).length from HT.sIx_none _ _, show HT.sIx (nv c).length 0 (some (n : Int)) = min n (nv c).length from HT.sIx_nat _ _ n, nv_len, Nat.min_eq_left h]
  have : (nv c).drop n = nv (c.drop n) := by simp [nv, List.map_drop]
  rw [this, List.take_of_length_le]
  rw [nv_len, List.length_drop]
  exact Nat.le_refl _
/-- list(t[lo:hi]) -/
theorem list_cut {σ : L2.St} {H : Hp} {Q : VK} {a : Addr} {c d : List Nat} {lo hi : Option Int} {te : TE} {tl th : TO} (ha : H a = some (.tup (nv c))) (hd : cutV (nv c) lo hi = nv d) (h0 : ∀ Q : VK, Q (.ref a) H → te σ H Q) (h1 : ∀ Q : Option Int → Hp → Prop, Q lo H → tl σ H Q) (h2 : ∀ Q : Option Int → Hp → Prop, Q hi H → th σ H Q)
    (hw : HT.sIx (nv c).length 0 lo = 0 ∧ HT.sIx (nv c).length (nv c).length hi = (nv c).length → c = d) (q : ∀ p H', H p = none → Ex H H' → H' p = some (.lst (nv d)) → Q (.ref p) H') :
    tCB (rListS K) (tCons (tSl (rSlA K) te tl th) tNil) σ H Q := by
  refine cb1 (h0 _ (h1 _ (h2 _ ⟨a, nv c, rfl, st_of ha, fun z => ?_, fun z p hp => ?_⟩)))
  · have := hw z
    subst this
    exact ⟨a, _, rfl, .inr (st_of ha), fun l hl => q l _ hl (Ex.new hl) upd_same⟩
  · rw [hd]
    have ep := Ex.new (o := .tup (nv d)) hp
    exact ⟨p, _, rfl, .inr (st_of upd_same), fun l hl => q l _ (fresh_back ep hl) (ep.trans (Ex.new hl)) upd_same⟩
theorem c__law_bad_row (T : Txt K mg) : Cal P w K mg base CX0 3 "_law_bad_row" ["_law_deal", "_law_commands", "_law_row"] (spBad K) :=
  cal_of T._law_bad_row sc_law_bad_row (fun _ _ _ _ _ _ us hl => match us, hl with | [_, _, _], _ => rfl) (fun vs H Q E h => by obtain ⟨_, _, _, _, _, rfl, _⟩ := h; rfl) fun f cdv A outer s H vs Q E hr h => by
    have C_law_any := c__law_any (P := P) (w := w) (base := base) T
    have C_law_of := c__law_of (P := P) (w := w) (base := base) T
    refine ⟨_, pss_nox (pss_cons (ps_if (pt_cmpR op_eq (pe_cal C_law_any (hr.mono (by decide)) pass0 (pa_cons (pv 0) (pa_cons pe_int pa_nil))) pe_int (nomark _)) (pss_one (ps_ret (pe_tup (pa_cons (pe_cal C_law_of (hr.mono (by decide)) pass0 (pa_cons (pv 0) (pa_cons (pe_lst (pa_cons pe_non (pa_cons pe_int (pa_cons pe_str (pa_cons (pe_dnewK) pa_nil))))) pa_nil))) (pa_cons pe_int pa_nil))))) pss_nil)
        (pss_cons (ps_set (i := 3) sc_law_bad_row.nd rfl (Or.inl rfl) (pe_cal C_law_any (hr.mono (by decide)) pass0 (pa_cons (pv 0) (pa_cons (pe_op op_add (pe_callB (lenK K rfl) (by rfl) T.n_len (by decide +kernel) (pa_cons (pv 2) pa_nil)) pe_int) pa_nil))))
        (pss_one (ps_ret (pe_tup (pa_cons (pe_op op_cat (pe_op op_cat (pe_op op_cat (pe_callTy (lstK K rfl) (by rfl) T.n_list (by decide +kernel) (pa_cons (pe_slice (slTA K rfl) (pv 2) po_none (po_some (pv 3))) pa_nil)) (pe_lst (pa_cons (pe_cal C_law_of (hr.mono (by decide)) pass0 (pa_cons (pv 0) (pa_cons (pe_lst (pa_cons (pv 1) (pa_cons (pe_un un_neg pe_int) (pa_cons pe_non (pa_cons pe_bl (pa_cons pe_str (pa_cons (pe_tup (pa_cons pe_int pa_nil)) pa_nil))))))) pa_nil))) pa_nil))) (pe_callTy (lstK K rfl) (by rfl) T.n_list (by decide +kernel) (pa_cons (pe_slice (slTA K rfl) (pv 2) (po_some (pv 3)) po_none) pa_nil))) (pe_lst (pa_cons pe_non pa_nil))) (pa_cons (pv 3) pa_nil))))))), ?_⟩
    obtain ⟨d, l, k, a, rw', rfl, hd, ha, hb, hl, q⟩ := h
    refine ⟨_, rfl, d, l, 4, rfl, by decide, by decide, hd, fun r H1 hr1 f1 => ?_⟩
    by_cases hr0 : r = 0
    · subst hr0
      refine ⟨rfl, true, by simp, ?_⟩
      refine ⟨_, rfl, fun e he => ⟨sz_of (by simp), fun p hp => ?_⟩⟩
      have ee := Ex.new (o := .dK []) he
      have ep := Ex.new (o := .lst [.non, .int 0, .str "0", .ref e]) hp
      have F := f1.exd (ee.trans ep)
      obtain ⟨n1, n2⟩ := ((f1.exd ee).deal hd).new hp
      refine ⟨d, l, p, _, rfl, F.deal hd, upd_same, n1, n2, by simp, by simp, fun v H2 hv f2 => ⟨sz_of (by simp), fun z hz => ?_⟩⟩
      have hed : (upd (upd H1 e (.dK [])) p (.lst [.non, .int 0, .str "0", .ref e])) e = some (.dK []) := ep _ _ upd_same
      have hek : e ≠ d ∧ e ≠ l := (f1.deal hd).new he
      refine q z v 0 _ ((F.trans f2).exd (Ex.new hz)) upd_same (.inl ⟨rfl, ?_⟩)
      simp only [List.mem_cons, List.not_mem_nil, or_false] at hv
      rcases hv with rfl | rfl | rfl | rfl
      · exact ⟨_, .base .non, by decide⟩
      · exact ⟨_, .base (.int _), by decide⟩
      · exact ⟨_, .base (.str _), by decide⟩
      · exact ⟨_, .base (.dK (Ex.new hz _ _ (f2.keep _ _ hek.1 hek.2 hed))), by decide⟩
    refine ⟨rfl, false, by simp; omega, ?_⟩
    refine ⟨_, rfl, _, rfl, a, _, rfl, .inr (st_of (f1.tup _ _ ha)), _, _, rfl, rfl, d, l, rw'.length + 1, ?_, by omega, Nat.lt_of_le_of_lt (show rw'.length + 1 ≤ 101 by omega) (by decide), f1.deal hd, fun n H2 hn f2 => ?_⟩
    · show [V.ref d, V.int (((nv rw').length : Nat) + 1)] = _
      rw [nv_len]
      rfl
    have F2 := f1.trans f2
    have ha2 := F2.tup _ _ ha
    refine gn1 ?_
    dsimp only
    refine ret1 (tup1 (cons1 (op1 (op1 (op1 (list_cut (lo := none) (hi := some (n : Int)) ha2 (cut_to _ (by omega)) (fun Q k => ⟨_, rfl, k⟩) (fun Q k => k) (fun Q k => ⟨_, rfl, _, rfl, k⟩) (fun z => ?_) fun p1 H3 hp1 e3 h3 => ?_))))))
    · have z2 := z.2
      rw [show HT.sIx (nv rw').length (nv rw').length (some (n : Int)) = min n (nv rw').length from HT.sIx_nat _ _ n, nv_len] at z2
      rw [List.take_of_length_le (by omega)]
    refine ⟨_, rfl, _, rfl, 1, rfl, sz_of (by simp), fun t0 ht0 => ⟨sz_of (by simp), fun p hp => ?_⟩⟩
    have et := Ex.new (o := .tup [.int 0]) ht0
    have ep := Ex.new (o := .lst [.int (k : Nat), .int (-1), .non, .bl true, .str "0", .ref t0]) hp
    have F3 := F2.exd e3
    have F4 := F3.exd (et.trans ep)
    obtain ⟨n1, n2⟩ := ((F3.exd et).deal hd).new hp
    obtain ⟨m1, m2⟩ := (F2.deal hd).new hp1
    refine ⟨d, l, p, _, rfl, F4.deal hd, upd_same, n1, n2, by simp, by simp, fun v H5 hv f5 => ?_⟩
    have F5 := F4.trans f5
    have h3' : H5 p1 = some (.lst (nv (rw'.take n))) := f5.keep _ _ m1 m2 (ep _ _ (et _ _ h3))
    have hbad : Pln K H5 v ∧ idxV v k = false := by
      have ht0' : H5 t0 = some (.tup [.int 0]) := f5.tup _ _ (ep _ _ upd_same)
      simp only [List.mem_cons, List.not_mem_nil, or_false] at hv
      rcases hv with rfl | rfl | rfl | rfl | rfl | rfl
      · exact ⟨.inl ⟨_, rfl⟩, by simp [idxV]⟩
      · exact ⟨.inl ⟨_, rfl⟩, by simp [idxV]⟩
      · exact ⟨.inr ⟨fun i z => (by cases z), _, .base .non, by decide⟩, rfl⟩
      · exact ⟨.inr ⟨fun i z => (by cases z), _, .base (.bl _), by decide⟩, rfl⟩
      · exact ⟨.inr ⟨fun i z => (by cases z), _, .base (.str _), by decide⟩, rfl⟩
      · exact ⟨.inr ⟨fun i z => (by cases z), _, .base (.tup ht0'), by decide⟩, rfl⟩
    refine ⟨sz_of (by simp), fun p2 hp2 => ?_⟩
    have e6 := Ex.new (o := .lst [v]) hp2
    refine ⟨p1, p2, _, _, rfl, rfl, e6 _ _ h3', upd_same, ?_, fun p3 hp3 => ?_⟩
    · rw [nv_len, List.length_take]; exact sz_of (by simp; omega)
    have e7 := e6.trans (Ex.new (o := .lst (nv (rw'.take n) ++ [v])) hp3)
    refine list_cut (lo := some (n : Int)) (hi := none) (e7 _ _ (F5.tup _ _ ha)) (cut_from _ (by omega)) (fun Q k => ⟨_, rfl, k⟩) (fun Q k => ⟨_, rfl, _, rfl, k⟩) (fun Q k => k) (fun z => ?_) fun p4 H8 hp4 e8 h4 => ?_
    · have z1 := z.1
      rw [show HT.sIx (nv rw').length 0 (some (n : Int)) = min n (nv rw').length from HT.sIx_nat _ _ n, nv_len] at z1
      rw [show n = 0 by omega, List.drop_zero]
    refine ⟨p3, p4, _, _, rfl, rfl, e8 _ _ upd_same, h4, ?_, fun p5 hp5 => ?_⟩
    · rw [nv_len, List.length_append, nv_len, List.length_take, List.length_drop]; exact sz_of (by simp; omega)
    have e9 := e8.trans (Ex.new (o := .lst (nv (rw'.take n) ++ [v] ++ nv (rw'.drop n))) hp5)
    refine ⟨sz_of (by simp), fun p6 hp6 => ?_⟩
    have e10 := e9.trans (Ex.new (o := .lst [.non]) hp6)
    refine ⟨p5, p6, _, _, rfl, rfl, Ex.new hp6 _ _ upd_same, upd_same, ?_, fun p7 hp7 => ⟨_, rfl, sz_of (by simp), fun p8 hp8 => ?_⟩⟩
    · rw [List.length_append, nv_len, List.length_append, nv_len, List.length_take, List.length_drop]; exact sz_of (by simp; omega)
    have e11 := (e10.trans (Ex.new (o := .lst (nv (rw'.take n) ++ [v] ++ nv (rw'.drop n) ++ [.non])) hp7)).trans (Ex.new (o := .tup [.ref p7, .int (n : Nat)]) hp8)
    have hlt : (nv (rw'.take n)).length = n := by rw [nv_len, List.length_take]; omega
    refine q p8 (.ref p7) n _ (F5.exd (e7.trans e11)) upd_same (.inr ⟨p7, _, rfl, Ex.new hp8 _ _ upd_same, ?_, fun i hi => ?_, v, ?_, hbad.1.ex (e7.trans e11), hbad.2⟩)
    · simp [nv_len]; omega
    · have hi2 : i < rw'.length := by omega
      refine ⟨rw'[i], ?_, hb _ (List.getElem_mem hi2)⟩
      rw [List.append_assoc, List.append_assoc, List.getElem?_append_left (by omega)]
      exact nv_get (by rw [List.getElem?_take_of_lt hi]; exact List.getElem?_eq_getElem hi2)
    · rw [List.append_assoc, List.append_assoc, List.getElem?_append_right (by omega), hlt, Nat.sub_self]
      rfl
end
end Kx
namespace Kx
open PySem PySem.Spec PyProof.Rows L2 Evl

theorem efmRow : ErrForm (inClass (top 3) 0) := ⟨⟨_, _, rfl⟩, ⟨_, _, _, _, _, _, _, _, _, _, _, _, fun _ => _, rfl, fun _ => rfl⟩, rfl⟩
theorem efmQue : ErrForm (inClass (top 5) 0) := ⟨⟨_, _, rfl⟩, ⟨_, _, _, _, _, _, _, _, _, _, _, _, fun _ => _, rfl, fun _ => rfl⟩, rfl⟩
/-- what the top says of the classes -/
structure Cls4 (P : Program) (K : PySem.W.Frag) (mg : Str → Option Value) (CM CR CQ : Addr) : Prop where
  row : ∃ f, ErrTxt P K mg "InvalidRow" CR f (inClass (top 3) 0)
  que : ∃ f, ErrTxt P K mg "InvalidQuestion" CQ f (inClass (top 5) 0)
  top : (P.main.scope.names.lookup ("super" : Str)).isSome = false
  rr : PySem.W.exmOne K (.ref CR) (.ref CR) = some true
  qr : PySem.W.exmOne K (.ref CQ) (.ref CR) = some false
  qq : PySem.W.exmOne K (.ref CQ) (.ref CQ) = some true
  cl : Cls K CM
  nC : NoAttr K CM "commands"
  nS : NoAttr K CM "states"
  nT : NoAttr K CM "steps"
  nF : NoAttr K CM "_found"
  gM : mg "Machine" = some (.ref CM)
  made : ∃ f fd, Mk K CM f ∧ FunD K "__init__" "Machine.__init__" (defArgs (inClass (Kx.top 14) 0)) (defBody (inClass (Kx.top 14) 0)) (defScope (inClass (Kx.top 14) 0)) [] [] f fd
  does : ∃ f fd, Meth K CM "does" f ∧ FunD K "does" "Machine.does" (defArgs (inClass (Kx.top 14) 3)) (defBody (inClass (Kx.top 14) 3)) (defScope (inClass (Kx.top 14) 3)) [] [] f fd
/-! ### a machine in the heap -/
def mfs (k n : Nat) (ps pd : Addr) : List (Str × V) := putF "_found" (.ref pd) (putF "steps" (.ref ps) (putF "states" (.int (n : Nat)) (putF "commands" (.int (k : Nat)) [])))
theorem mfs_c (k n : Nat) (ps pd : Addr) : (mfs k n ps pd).lookup ("commands" : Str) = some (.int (k : Nat)) := by
  unfold mfs
  rw [lookup_putF, if_neg (by decide +kernel), lookup_putF, if_neg (by decide +kernel), lookup_putF, if_neg (by decide +kernel), lookup_putF, if_pos rfl]
theorem mfs_s (k n : Nat) (ps pd : Addr) : (mfs k n ps pd).lookup ("states" : Str) = some (.int (n : Nat)) := by
  unfold mfs
  rw [lookup_putF, if_neg (by decide +kernel), lookup_putF, if_neg (by decide +kernel), lookup_putF, if_pos rfl]
theorem mfs_t (k n : Nat) (ps pd : Addr) : (mfs k n ps pd).lookup ("steps" : Str) = some (.ref ps) := by
  unfold mfs
  rw [lookup_putF, if_neg (by decide +kernel), lookup_putF, if_pos rfl]
theorem mfs_d (k n : Nat) (ps pd : Addr) : (mfs k n ps pd).lookup ("does" : Str) = none := by
  unfold mfs
  rw [lookup_putF, if_neg (by decide +kernel), lookup_putF, if_neg (by decide +kernel), lookup_putF, if_neg (by decide +kernel), lookup_putF, if_neg (by decide +kernel)]
  rfl
def MachAt (CM : Addr) (H : Hp) (m : Addr) (cs : List (List Nat)) (n : Nat) : Prop := ∃ dx ps pd us, H m = some (.ins CM dx (mfs cs.length n ps pd)) ∧ H ps = some (.tup us) ∧ us.length = n ∧ ∀ s, s < n → ∃ q, us[s]? = some (.ref q) ∧ H q = some (.tup (nv (rowOf cs s)))
theorem MachAt.ex {CM m : Addr} {H H' : Hp} {cs : List (List Nat)} {n : Nat} (e : Ex H H') (h : MachAt CM H m cs n) : MachAt CM H' m cs n := by
  obtain ⟨dx, ps, pd, us, h1, h2, h3, h4⟩ := h
  exact ⟨dx, ps, pd, us, e _ _ h1, e _ _ h2, h3, fun s hs => let ⟨q, a, b⟩ := h4 s hs; ⟨q, a, e _ _ b⟩⟩
theorem MachAt.fd {CM m d l : Addr} {H H' : Hp} {cs : List (List Nat)} {n : Nat} (hd : Deal d l H) (f : Fd d l H H') (h : MachAt CM H m cs n) : MachAt CM H' m cs n := by
  obtain ⟨dx, ps, pd, us, h1, h2, h3, h4⟩ := h
  obtain ⟨_, b, cells, d1, d2, _⟩ := hd
  have m1 : m ≠ d := ne_of h1 d1 (fun z => nomatch z)
  have m2 : m ≠ l := ne_of h1 d2 (fun z => nomatch z)
  exact ⟨dx, ps, pd, us, f.keep _ _ m1 m2 h1, f.tup _ _ h2, h3, fun s hs => let ⟨q, a, b⟩ := h4 s hs; ⟨q, a, f.tup _ _ b⟩⟩
theorem rowOf_len (cs : List (List Nat)) (s : Nat) : (rowOf cs s).length = cs.length := by simp [rowOf]
theorem rowOf_get {cs : List (List Nat)} {s k : Nat} (hk : k < cs.length) : (rowOf cs s)[k]? = some (ap (cs.getD k []) s) := by
  unfold rowOf
  rw [List.getElem?_map, List.getD_eq_getElem?_getD, List.getElem?_eq_getElem hk]
  rfl
theorem rowOf_lt {cs : List (List Nat)} {n s : Nat} (h : Tab n cs) (hs : s < n) : Below n (rowOf cs s) := by
  intro x hx
  unfold rowOf at hx
  obtain ⟨c, hc, rfl⟩ := List.mem_map.mp hx
  obtain ⟨h1, h2⟩ := h.2.2.2.2 c hc
  exact ap_lt h2 (by omega)
theorem col_of {cs : List (List Nat)} {n k : Nat} (h : Tab n cs) (hk : k < cs.length) : (List.range n).map (fun s => V.int ((ap (cs.getD k []) s : Nat) : Int)) = nv (cs.getD k []) := by
  obtain ⟨h1, h2, h3⟩ := h.get hk
  unfold nv
  apply List.ext_getElem?
  intro i
  by_cases hi : i < n
  · rw [List.getElem?_map, List.getElem?_range hi, List.getElem?_map, ap_get (by omega)]
    rfl
  · rw [List.getElem?_eq_none (by simpa using hi), List.getElem?_eq_none (by rw [List.length_map]; omega)]
section
variable {P : Program} {w : World} {K : PySem.W.Frag} {mg : Str → Option Value} {base : Heap} {CM CR CQ : Addr}
/-! Machine.__init__: slots 0 self, 1 commands, 2 steps, 3 state, 4 row, 5 to; cells ['steps'] -/
abbrev sMachine___init__ : Stmt := inClass (top 14) 0
theorem scMachine___init__ : FnScope ["self", "commands", "steps", "state", "row", "to"] ["self", "commands", "steps"] (defScope sMachine___init__) := ⟨rfl, rfl, rfl, by decide +kernel, rfl, by decide +kernel, by decide +kernel⟩
def spInit (CM : Addr) : Sp := fun vs H Q _ => ∃ (self dx st : Addr) (us : List V) (cs : List (List Nat)) (n : Nat), vs = [.ref self, .int (cs.length : Nat), .ref st] ∧ H self = some (.ins CM dx []) ∧ H st = some (.lst us) ∧ us.length = n ∧ Tab n cs ∧
  (∀ s, s < n → ∃ q, us[s]? = some (.ref q) ∧ H q = some (.lst (nv (rowOf cs s)))) ∧ ∀ H', (∀ a o, a ≠ self → H a = some o → H' a = some o) → MachAt CM H' self cs n → Q .non H'
theorem ok_init (T : Txt K mg) (U : Cls4 P K mg CM CR CQ) {f : Addr} {fd : FuncData} (F : FunD K "__init__" "Machine.__init__" (defArgs (inClass (top 14) 0)) (defBody (inClass (top 14) 0)) (defScope (inClass (top 14) 0)) [] [] f fd) :
    FnOk P w K mg base CX0 4 f fd ["self", "commands", "steps"] (spInit CM) := by
  have Cis_index := c_is_index (P := P) (w := w) (base := base) T
  have Cis_number := c_is_number (P := P) (w := w) (base := base) T
  have Cis_sequence := c_is_sequence (P := P) (w := w) (base := base) T
  refine F.ok scMachine___init__ (fun vs H Q E h => by obtain ⟨_, _, _, _, _, _, rfl, _⟩ := h; rfl) fun cdv A outer s H vs Q E hr h => ?_
  refine ⟨_, pss_nox ((pss_cons (ps_if (PW.pt (pw_or (pt_not (pt_val (pe_cal Cis_number (hr.mono (by decide)) pass0 (pa_cons (pv 1) pa_nil)))) (pw_or1 (pt_cmpR op_eq (pv 1) pe_int (nomark _))))) (pss_one ps_never) pss_nil)
        (pss_cons (ps_if (PW.pt (pw_or (pt_not (pt_val (pe_cal Cis_sequence (hr.mono (by decide)) pass0 (pa_cons (pv 2) pa_nil)))) (pw_or1 (pt_cmpR op_eq (pe_callB (lenK K rfl) (by rfl) T.n_len (by decide +kernel) (pa_cons (pv 2) pa_nil)) pe_int (nomark _))))) (pss_one ps_never) pss_nil)
        (pss_cons (ps_for PassesOwn.never rfl (pi_enumK K rfl (by rfl) T.n_enumerate (pa_cons (pv 2) pa_nil)) (pg_tupK K rfl 2 rfl (pgs_cons (pg_name (i := 3) scMachine___init__.nd rfl (Or.inl rfl)) (pgs_cons (pg_name (i := 4) scMachine___init__.nd rfl (Or.inl rfl)) pgs_nil))) (pss_one (ps_if (PW.pt (pw_or (pt_not (pt_val (pe_cal Cis_sequence (hr.mono (by decide)) pass0 (pa_cons (pv 4) pa_nil)))) (pw_or (pt_cmpR op_ne (pe_callB (lenK K rfl) (by rfl) T.n_len (by decide +kernel) (pa_cons (pv 4) pa_nil)) (pv 1) (nomark _)) (pw_or1 (pt_not (pt_val (pe_callB (allK K rfl rfl) (by rfl) T.n_all (by decide +kernel) (pa_cons (pe_lc (own := [("to", 5)]) (tt := tYes) (by rfl) scMachine___init__.nd (pi_listK K rfl (pv 4)) (blkOk_by (N := ["self", "commands", "steps", "state", "row", "to"]) (sc := defScope sMachine___init__) (by decide +kernel)) (fun _ _ _ _ _ => (pg_name (i := 5) scMachine___init__.nd rfl (Or.inl rfl))) (fun _ _ _ _ _ => pts_nil) (fun _ _ _ _ _ => (pe_cal Cis_index (hr.mono (by decide)) pass0 (pa_cons (pv 5) (pa_cons (pe_callB (lenK K rfl) (by rfl) T.n_len (by decide +kernel) (pa_cons (pv 2) pa_nil)) pa_nil))))) pa_nil)))))))) (pss_one ps_never) pss_nil)))
        (pss_cons (ps_fldK K rfl (pv 0) (pv 1) rfl)
        (pss_cons (ps_fldK K rfl (pv 0) (pe_callB (lenK K rfl) (by rfl) T.n_len (by decide +kernel) (pa_cons (pv 2) pa_nil)) rfl)
        (pss_cons (ps_fldK K rfl (pv 0) (pe_callTy (tupK K rfl) (by rfl) T.n_tuple (by decide +kernel) (pa_cons (pe_lc (own := [("row", 4)]) (tt := tYes) (by rfl) scMachine___init__.nd (pi_listK K rfl (pv 2)) (blkOk_by (N := ["self", "commands", "steps", "state", "row", "to"]) (sc := defScope sMachine___init__) (by decide +kernel)) (fun _ _ _ _ _ => (pg_name (i := 4) scMachine___init__.nd rfl (Or.inl rfl))) (fun _ _ _ _ _ => pts_nil) (fun _ _ _ _ _ => (pe_callTy (tupK K rfl) (by rfl) T.n_tuple (by decide +kernel) (pa_cons (pv 4) pa_nil)))) pa_nil)) rfl)
        (pss_one (ps_fldK K rfl (pv 0) (pe_dnewK) rfl))))))))), ?_⟩
  obtain ⟨self, dx, st, us, cs, n, rfl, hself, hst, hul, hT, hrow, q⟩ := h
  have hn0 := hT.1
  have hn24 := hT.2.1
  have hcl := hT.2.2.2.1
  have hc0 : 0 < cs.length := len_pos hT.2.2.1
  refine ⟨_, rfl, _, rfl, .inl ⟨_, rfl⟩, true, by simp [numV], _, rfl, rfl, false, ?_, ?_⟩
  · simp; intro z; rw [z] at hc0; simp at hc0
  refine ⟨_, rfl, _, rfl, .inl ⟨⟨st, us, rfl, .inl (sq_of hst)⟩, fun H1 e1 => ⟨true, rfl, ?_⟩⟩⟩
  have hst1 := e1 _ _ hst
  refine ⟨_, rfl, st, us, rfl, .inl (sq_of hst1), rfl, false, ?_, ?_⟩
  · simp [hul]; omega
  refine ite_f (next1 ?_)
  dsimp only
  refine seq1 ⟨_, rfl, st, us, rfl, sq_of hst1, ?_⟩
  refine for_enumL (xs := us) (fun i σ H' => ∃ y3 y4 : Option V, σ = [some (.ref self), some (.int (cs.length : Nat)), some (.ref st), y3, y4, none] ∧ Ex H H') ⟨_, _, rfl, e1⟩ (fun i σ H' _ ⟨_, _, _, e⟩ => sq_of (e _ _ hst)) ?_ ?_
  · rintro i x σ H' tp hx ⟨y3, y4, rfl, e⟩ htp
    have hi : i < n := by rw [← hul]; exact (List.getElem?_eq_some_iff.mp hx).1
    obtain ⟨qr, hq1, hq2⟩ := hrow i hi
    rw [hx] at hq1
    cases hq1
    have et := e.trans (Ex.new (o := .tup [.int (i : Nat), .ref qr]) htp)
    refine ⟨tp, _, rfl, st_of upd_same, rfl, _, _, rfl, _, _, rfl, rfl, ?_⟩
    have hqr := et _ _ hq2
    refine ⟨_, rfl, _, rfl, .inl ⟨⟨qr, _, rfl, .inl (sq_of hqr)⟩, fun H2 e2 => ⟨true, rfl, ?_⟩⟩⟩
    have et2 := et.trans e2
    have hqr2 := et2 _ _ hq2
    refine ⟨_, rfl, qr, _, rfl, .inl (sq_of hqr2), _, rfl, rfl, false, by simp [nv_len, rowOf_len], ?_⟩
    refine ite_f (not1 (tst1 (cb1 (lc_L (a := qr) (xs := nv (rowOf cs i)) (Ex.frame H2) (fun _ => true) (fun i y => y = .bl true) (fun _ _ => False) (fun Q k => ⟨_, rfl, k H2 (Ex.refl H2) (sq_of hqr2)⟩) (fun H3 e3 => sq_of (e3 _ _ hqr2)) (by rw [nv_len, rowOf_len]; omega) (fun x => rfl)
      (fun j x H3 _ _ Qb k => tYes_go (Ex.frame H2) Qb k) (fun j x H3 e3 hx _ Q k => ?_) (fun p H3 ys hp e3 hy pr => ?_)))))
    · obtain ⟨c, hc, rfl⟩ := nv_get_of hx
      refine ⟨_, rfl, _, rfl, st, us, rfl, .inl (sq_of (e3 _ _ (et2 _ _ hst))), _, _, rfl, .inl ⟨_, rfl⟩, ?_⟩
      rw [idx_nat (by rw [hul]; exact rowOf_lt hT hi c (List.mem_of_getElem? hc))]
      exact k _ H3 (Ex.refl _) (.inl rfl)
    · rw [filt_yes, nv_len, rowOf_len] at pr
      have ey := paired_pure (v := fun _ => .bl true) pr
      refine ⟨p, (List.range cs.length).map (fun _ => true), rfl, ?_, true, by simp, ?_⟩
      · rw [ey] at hy
        rw [List.map_map]
        exact sq_of hy
      · exact ⟨_, _, rfl, et2.trans e3⟩
  · rintro σ H2 ⟨y3, y4, rfl, e⟩
    have hs2 := e _ _ hself
    have hst2 := e _ _ hst
    refine ⟨_, rfl, _, rfl, self, CM, dx, _, rfl, hs2, U.cl, U.nC, by simp, ?_⟩
    have nst : st ≠ self := ne_of hst hself (fun z => nomatch z)
    refine ⟨_, rfl, st, us, rfl, .inl (sq_of (by rw [upd_ne nst]; exact hst2)), _, rfl, self, CM, dx, _, rfl, upd_same, U.cl, U.nS, Nat.lt_of_le_of_lt (length_putF _ _ _) (by decide), ?_⟩
    rw [upd_upd, hul]
    generalize hH3 : upd H2 self (.ins CM dx (putF "states" (.int (n : Nat)) (putF "commands" (.int (cs.length : Nat)) []))) = H3
    have k3 : ∀ a o, a ≠ self → H a = some o → H3 a = some o := fun a o ha h => by rw [← hH3, upd_ne ha]; exact e _ _ h
    have hs3 : H3 self = some (.ins CM dx (putF "states" (.int (n : Nat)) (putF "commands" (.int (cs.length : Nat)) []))) := by rw [← hH3]; exact upd_same
    have hst3 := k3 _ _ nst hst
    dsimp only
    refine seq1 (cb1 (lc_L (a := st) (xs := us) (Ex.frame H3) (fun _ => true) (fun _ _ => False) (fun i xs => xs = nv (rowOf cs i)) (fun Q k => ⟨_, rfl, k H3 (Ex.refl H3) (sq_of hst3)⟩) (fun H4 e4 => sq_of (e4 _ _ hst3)) (by omega) (fun x => rfl)
      (fun j x H4 _ _ Qb k => tYes_go (Ex.frame H3) Qb k) (fun j x H4 e4 hx _ Q k => ?_) (fun p H4 ys hp e4 hy pr => ?_)))
    · have hj : j < n := by rw [← hul]; exact (List.getElem?_eq_some_iff.mp hx).1
      obtain ⟨qr, hq1, hq2⟩ := hrow j hj
      rw [hx] at hq1
      cases hq1
      have nq : qr ≠ self := ne_of hq2 hself (fun z => nomatch z)
      exact ⟨_, rfl, qr, _, rfl, .inl ⟨sq_of (e4 _ _ (k3 _ _ nq hq2)), fun t ht => k _ _ (Ex.new ht) (.inr ⟨t, _, rfl, upd_same, rfl⟩)⟩⟩
    · rw [filt_yes, hul] at pr
      have pr := paired_tups pr
      have hyl : ys.length = n := by rw [← paired_len pr, List.length_range]
      refine ⟨p, ys, rfl, .inl ⟨sq_of hy, fun pt hpt => ?_⟩⟩
      have e5 := e4.trans (Ex.new (o := .tup ys) hpt)
      have npt : pt ≠ self := fun z => by rw [z, e4 _ _ hs3] at hpt; cases hpt
      refine ⟨_, rfl, self, CM, dx, _, rfl, e5 _ _ hs3, U.cl, U.nT, Nat.lt_of_le_of_lt (length_putF _ _ _) (Nat.lt_of_le_of_lt (Nat.succ_le_succ (length_putF _ _ _)) (by decide)), ?_⟩
      refine fun pd hpd => ?_
      have npd : pd ≠ self := fun z => by rw [z, upd_same] at hpd; cases hpd
      refine ⟨_, rfl, self, CM, dx, _, rfl, by rw [upd_ne npd.symm]; exact upd_same, U.cl, U.nF, Nat.lt_of_le_of_lt (length_putF _ _ _) (Nat.lt_of_le_of_lt (Nat.succ_le_succ (length_putF _ _ _)) (Nat.lt_of_le_of_lt (Nat.succ_le_succ (Nat.succ_le_succ (length_putF _ _ _))) (by decide))), ?_⟩
      have fin : ∀ a o, a ≠ self → (upd H4 pt (.tup ys)) a = some o → (upd (upd (upd (upd H4 pt (.tup ys)) self (.ins CM dx (putF "steps" (.ref pt) (putF "states" (.int (n : Nat)) (putF "commands" (.int (cs.length : Nat)) []))))) pd (.dK [])) self (.ins CM dx (mfs cs.length n pt pd))) a = some o := fun a o ha h => by
        have na : a ≠ pd := fun z => by
          rw [z, ← upd_ne (H := upd H4 pt (.tup ys)) (o := .ins CM dx (putF "steps" (.ref pt) (putF "states" (.int (n : Nat)) (putF "commands" (.int (cs.length : Nat)) [])))) npd, hpd] at h
          cases h
        rw [upd_ne ha, upd_ne na, upd_ne ha]
        exact h
      refine q _ (fun a o ha h => fin a o ha (e5 _ _ (k3 a o ha h))) ⟨dx, pt, pd, ys, upd_same, fin _ _ npt upd_same, hyl, fun s hs => ?_⟩
      obtain ⟨i, hi, q1, xs, h1, h2, rfl⟩ := paired_get pr s _ (List.getElem?_eq_getElem (by omega))
      have hin : i = s := by
        rw [List.getElem?_range hs] at hi
        exact (Option.some.inj hi).symm
      subst hin
      have nq1 : q1 ≠ self := fun z => by rw [z, e4 _ _ hs3] at h2; cases h2
      exact ⟨q1, by rw [List.getElem?_eq_getElem (by omega), h1], fin _ _ nq1 (Ex.new hpt _ _ h2)⟩

/-! Machine.does: slots 0 self, 1 command, 2 row; cells ['command'] -/
abbrev sMachine_does : Stmt := inClass (top 14) 3
theorem scMachine_does : FnScope ["self", "command", "row"] ["self", "command"] (defScope sMachine_does) := ⟨rfl, rfl, rfl, by decide +kernel, rfl, by decide +kernel, by decide +kernel⟩
def spDoes (CM : Addr) : Sp := fun vs H Q _ => ∃ (m : Addr) (cs : List (List Nat)) (n k : Nat), vs = [.ref m, .int (k : Nat)] ∧ MachAt CM H m cs n ∧ Tab n cs ∧ k < cs.length ∧ RetT (nv (cs.getD k [])) H Q
theorem ok_does (T : Txt K mg) (U : Cls4 P K mg CM CR CQ) {f : Addr} {fd : FuncData} (F : FunD K "does" "Machine.does" (defArgs (inClass (top 14) 3)) (defBody (inClass (top 14) 3)) (defScope (inClass (top 14) 3)) [] [] f fd) :
    FnOk P w K mg base CX0 1 f fd ["self", "command"] (spDoes CM) := by
  refine F.ok scMachine_does (fun vs H Q E h => by obtain ⟨_, _, _, _, rfl, _⟩ := h; rfl) fun cdv A outer s H vs Q E hr h => ?_
  refine ⟨_, pss_nox ((pss_one (ps_ret (pe_callTy (tupK K rfl) (by rfl) T.n_tuple (by decide +kernel) (pa_cons (pe_lc (own := [("row", 2)]) (tt := tYes) (by rfl) scMachine_does.nd (pi_tupK K rfl (pe_fldK K rfl (pv 0) (by rfl))) (blkOk_by (N := ["self", "command", "row"]) (sc := defScope sMachine_does) (by decide +kernel)) (fun _ _ _ _ _ => (pg_name (i := 2) scMachine_does.nd rfl (Or.inl rfl))) (fun _ _ _ _ _ => pts_nil) (fun _ _ _ _ _ => (pe_ix (ixT K rfl) (pv 2) (pv 1) (fun _ _ => rfl)))) pa_nil))))), ?_⟩
  obtain ⟨m, cs, n, k, rfl, ⟨dx, ps, pd, us, h1, h2, h3, h4⟩, hT, hk, q⟩ := h
  have hn24 := hT.2.1
  refine ret1 (cb1 (lc_T (a := ps) (xs := us) (Ex.frame H) (fun _ => true) (fun i y => y = .int (ap (cs.getD k []) i : Nat)) (fun _ _ => False) (fun Q kk => ⟨_, rfl, m, CM, dx, _, _, rfl, h1, U.cl, U.nT, mfs_t _ _ _ _, kk H (Ex.refl H) (st_of h2)⟩) h2 (by omega) (fun x => rfl)
      (fun i x H1 _ _ Qb k => tYes_go (Ex.frame H) Qb k) (fun i x H1 e hx _ Q kk => ?_) (fun p H2 ys hp e hy pr => ?_)))
  · have hi : i < n := by rw [← h3]; exact (List.getElem?_eq_some_iff.mp hx).1
    obtain ⟨q1, a1, a2⟩ := h4 i hi
    rw [hx] at a1
    cases a1
    exact ⟨_, rfl, _, rfl, q1, _, _, _, rfl, rfl, st_of (e _ _ a2), nv_at (rowOf_get hk), kk _ H1 (Ex.refl _) (.inl rfl)⟩
  · rw [filt_yes, h3] at pr
    have ey := paired_pure pr
    rw [col_of hT hk] at ey
    subst ey
    exact ⟨p, _, rfl, .inl ⟨sq_of hy, fun t ht => q t _ (e.trans (Ex.new ht)) upd_same⟩⟩
end
end Kx
namespace Kx
open PySem PySem.Spec PyProof.Rows L2 Evl

section
variable {P : Program} {w : World} {K : PySem.W.Frag} {mg : Str → Option Value} {base : Heap} {CM CR CQ : Addr}
/-- a row of commands, as a list or as a tuple -/
def OkRow (H : Hp) (v : V) (k : Nat) (row : List Nat) : Prop := (∃ a, v = .ref a ∧ (H a = some (.lst (nv row)) ∨ H a = some (.tup (nv row)))) ∧ Below k row ∧ row.length ≤ 100
theorem OkRow.ex {H H' : Hp} {v : V} {k : Nat} {row : List Nat} (e : Ex H H') (h : OkRow H v k row) : OkRow H' v k row := by
  obtain ⟨⟨a, h1, h2⟩, h3⟩ := h
  exact ⟨⟨a, h1, h2.imp (e _ _) (e _ _)⟩, h3⟩
/-- an error is let out -/
def Out (C : Addr) (i : Nat) (H : Hp) (E : XK) : Prop := ∀ H' d, Ex H H' → H' d = none → E (.ref C) (some d) (upd H' d (.xd [(("at" : Str), .int (i : Nat))]))
theorem Out.ex {C : Addr} {i : Nat} {H H' : Hp} {E : XK} (e : Ex H H') (h : Out C i H E) : Out C i H' E := fun H2 d e2 => h H2 d (e.trans e2)
theorem idx_ok {k c : Nat} (h : c < k) : idxV (.int (c : Nat)) (k : Nat) = true := by rw [idx_nat h]
/-! checked_row: slots 0 machine, 1 value, 2 at, 3 command; cells [] -/
abbrev schecked_row : Stmt := top 15
theorem scchecked_row : FnScope ["machine", "value", "at", "command"] ["machine", "value"] (defScope schecked_row) := ⟨rfl, rfl, rfl, by decide +kernel, rfl, by decide +kernel, by decide +kernel⟩
def spRow (K : PySem.W.Frag) (CM CR : Addr) : Sp := fun vs H Q E => ∃ (m : Addr) (v : V) (cs : List (List Nat)) (n : Nat), vs = [.ref m, v] ∧ MachAt CM H m cs n ∧
  ((∃ row, OkRow H v cs.length row ∧ RetT (nv row) H Q) ∨ (∃ at', BadV K H cs.length v at' ∧ Out CR at' H E))
theorem c_checked_row (T : Txt K mg) (U : Cls4 P K mg CM CR CQ) : Cal P w K mg base (L2.CX P w) 4 "checked_row" ["machine", "value"] (spRow K CM CR) :=
  cal_of T.checked_row scchecked_row (fun _ _ _ _ _ _ us hl => match us, hl with | [_, _], _ => rfl) (fun vs H Q E h => by obtain ⟨_, _, _, _, rfl, _⟩ := h; rfl) fun f cdv A outer s H vs Q E hr h => by
    have Cis_index := c_is_index (P := P) (w := w) (base := base) T
    have Cis_sequence := c_is_sequence (P := P) (w := w) (base := base) T
    obtain ⟨_, URow⟩ := U.row
    obtain ⟨m, v, cs, n, rfl, hm, h⟩ := h
    rcases h with ⟨row, ⟨⟨a, rfl, ha⟩, hb, hl⟩, q⟩ | ⟨at', hbad, q⟩
    · rcases ha with ha | ha
      · refine ⟨_, (pss_cons (ps_if (pt_not (pt_val (pe_cal Cis_sequence (hr.mono (by decide)) pass0 (pa_cons (pv 1) pa_nil)))) (pss_one (ps_raiseErr rfl URow efmRow U.top hr (takes_of rfl rfl rfl rfl) (by exact (pa_cons pe_int pa_nil)) (by rfl) (by decide))) pss_nil)
        (pss_cons (ps_for (passes_of rfl) rfl (pi_enumK K rfl (by rfl) T.n_enumerate (pa_cons (pv 1) pa_nil)) (pg_tupK K rfl 2 rfl (pgs_cons (pg_name (i := 2) scchecked_row.nd rfl (Or.inl rfl)) (pgs_cons (pg_name (i := 3) scchecked_row.nd rfl (Or.inl rfl)) pgs_nil))) (pss_one (ps_if (pt_not (pt_val (pe_cal Cis_index (hr.mono (by decide)) pass0 (pa_cons (pv 3) (pa_cons (pe_fldK K rfl (pv 0) (by rfl)) pa_nil))))) (pss_one (ps_raiseErr rfl URow efmRow U.top hr (takes_of rfl rfl rfl rfl) (by exact (pa_cons (pv 2) pa_nil)) (by rfl) (by decide))) pss_nil)))
        (pss_one (ps_ret (pe_callTy (tupK K rfl) (by rfl) T.n_tuple (by decide +kernel) (pa_cons (pv 1) pa_nil)))))), ?_⟩
        refine ⟨_, rfl, _, rfl, .inl ⟨⟨a, _, rfl, .inl (sq_of ha)⟩, fun H1 e1 => ⟨true, rfl, ?_⟩⟩⟩
        refine ite_f (next1 ?_)
        dsimp only
        refine seq1 ⟨_, rfl, a, _, rfl, sq_of (e1 _ _ ha), ?_⟩
        refine for_enumL (xs := nv row) (fun i σ H' => ∃ y2 y3 : Option V, σ = [some (.ref m), some (.ref a), y2, y3] ∧ Ex H H') ⟨_, _, rfl, e1⟩ (fun i σ H' _ ⟨_, _, _, e⟩ => sq_of (e _ _ ha)) ?_ ?_
        · rintro i x σ H' tp hx ⟨y3, y4, rfl, e⟩ htp
          have et := e.trans (Ex.new (o := .tup [.int (i : Nat), x]) htp)
          obtain ⟨c, hc, rfl⟩ := nv_get_of hx
          obtain ⟨dx, ps, pd, us, h1, h2, h3, h4⟩ := hm.ex et
          refine ⟨tp, _, rfl, st_of upd_same, rfl, _, _, rfl, _, _, rfl, rfl, ?_⟩
          refine ⟨_, rfl, _, rfl, m, CM, dx, _, _, rfl, h1, U.cl, U.nC, mfs_c _ _ _ _, _, _, rfl, .inl ⟨_, rfl⟩, ?_⟩
          rw [idx_ok (hb c (List.mem_of_getElem? hc))]
          exact ⟨true, rfl, ite_f ⟨_, _, rfl, et⟩⟩
        · rintro σ H2 ⟨y3, y4, rfl, e⟩
          exact ⟨_, rfl, a, _, rfl, .inl ⟨sq_of (e _ _ ha), fun t ht => q t _ (e.trans (Ex.new ht)) upd_same⟩⟩
      · refine ⟨_, (pss_cons (ps_if (pt_not (pt_val (pe_cal Cis_sequence (hr.mono (by decide)) pass0 (pa_cons (pv 1) pa_nil)))) (pss_one (ps_raiseErr rfl URow efmRow U.top hr (takes_of rfl rfl rfl rfl) (by exact (pa_cons pe_int pa_nil)) (by rfl) (by decide))) pss_nil)
        (pss_cons (ps_for (passes_of rfl) rfl (pi_enumTK K rfl (by rfl) T.n_enumerate (pa_cons (pv 1) pa_nil)) (pg_tupK K rfl 2 rfl (pgs_cons (pg_name (i := 2) scchecked_row.nd rfl (Or.inl rfl)) (pgs_cons (pg_name (i := 3) scchecked_row.nd rfl (Or.inl rfl)) pgs_nil))) (pss_one (ps_if (pt_not (pt_val (pe_cal Cis_index (hr.mono (by decide)) pass0 (pa_cons (pv 3) (pa_cons (pe_fldK K rfl (pv 0) (by rfl)) pa_nil))))) (pss_one (ps_raiseErr rfl URow efmRow U.top hr (takes_of rfl rfl rfl rfl) (by exact (pa_cons (pv 2) pa_nil)) (by rfl) (by decide))) pss_nil)))
        (pss_one (ps_ret (pe_callTy (tupK K rfl) (by rfl) T.n_tuple (by decide +kernel) (pa_cons (pv 1) pa_nil)))))), ?_⟩
        refine ⟨_, rfl, _, rfl, .inl ⟨⟨a, _, rfl, .inr (st_of ha)⟩, fun H1 e1 => ⟨true, rfl, ?_⟩⟩⟩
        refine ite_f (next1 ?_)
        dsimp only
        refine seq1 ⟨_, rfl, a, _, rfl, st_of (e1 _ _ ha), ?_⟩
        refine for_enumT (xs := nv row) (fun i σ H' => ∃ y2 y3 : Option V, σ = [some (.ref m), some (.ref a), y2, y3] ∧ Ex H H') ⟨_, _, rfl, e1⟩ (fun i σ H' _ ⟨_, _, _, e⟩ => st_of (e _ _ ha)) ?_ ?_
        · rintro i x σ H' tp hx ⟨y3, y4, rfl, e⟩ htp
          have et := e.trans (Ex.new (o := .tup [.int (i : Nat), x]) htp)
          obtain ⟨c, hc, rfl⟩ := nv_get_of hx
          obtain ⟨dx, ps, pd, us, h1, h2, h3, h4⟩ := hm.ex et
          refine ⟨tp, _, rfl, st_of upd_same, rfl, _, _, rfl, _, _, rfl, rfl, ?_⟩
          refine ⟨_, rfl, _, rfl, m, CM, dx, _, _, rfl, h1, U.cl, U.nC, mfs_c _ _ _ _, _, _, rfl, .inl ⟨_, rfl⟩, ?_⟩
          rw [idx_ok (hb c (List.mem_of_getElem? hc))]
          exact ⟨true, rfl, ite_f ⟨_, _, rfl, et⟩⟩
        · rintro σ H2 ⟨y3, y4, rfl, e⟩
          exact ⟨_, rfl, a, _, rfl, .inr ⟨st_of (e _ _ ha), q a _ e (e _ _ ha)⟩⟩
    · refine ⟨_, (pss_cons (ps_if (pt_not (pt_val (pe_cal Cis_sequence (hr.mono (by decide)) pass0 (pa_cons (pv 1) pa_nil)))) (pss_one (ps_raiseErr rfl URow efmRow U.top hr (takes_of rfl rfl rfl rfl) (by exact (pa_cons pe_int pa_nil)) (by rfl) (by decide))) pss_nil)
        (pss_cons (ps_for (passes_of rfl) rfl (pi_enumK K rfl (by rfl) T.n_enumerate (pa_cons (pv 1) pa_nil)) (pg_tupK K rfl 2 rfl (pgs_cons (pg_name (i := 2) scchecked_row.nd rfl (Or.inl rfl)) (pgs_cons (pg_name (i := 3) scchecked_row.nd rfl (Or.inl rfl)) pgs_nil))) (pss_one (ps_if (pt_not (pt_val (pe_cal Cis_index (hr.mono (by decide)) pass0 (pa_cons (pv 3) (pa_cons (pe_fldK K rfl (pv 0) (by rfl)) pa_nil))))) (pss_one (ps_raiseErr rfl URow efmRow U.top hr (takes_of rfl rfl rfl rfl) (by exact (pa_cons (pv 2) pa_nil)) (by rfl) (by decide))) pss_nil)))
        (pss_one (ps_ret (pe_callTy (tupK K rfl) (by rfl) T.n_tuple (by decide +kernel) (pa_cons (pv 1) pa_nil)))))), ?_⟩
      rcases hbad with ⟨rfl, TT, ht, hns⟩ | ⟨a, xs, rfl, ha, hl, hgood, x, hx, hp, hix⟩
      · refine ⟨_, rfl, _, rfl, .inr ⟨⟨TT, ht, hns⟩, fun H1 e1 => ⟨false, rfl, ?_⟩⟩⟩
        exact ite_t ⟨_, rfl, fun d hd => q _ d e1 hd⟩
      · refine ⟨_, rfl, _, rfl, .inl ⟨⟨a, _, rfl, .inl (sq_of ha)⟩, fun H1 e1 => ⟨true, rfl, ?_⟩⟩⟩
        refine ite_f (next1 ?_)
        dsimp only
        refine seq1 ⟨_, rfl, a, _, rfl, sq_of (e1 _ _ ha), ?_⟩
        refine for_enumL (xs := xs) (fun i σ H' => i ≤ at' ∧ ∃ y2 y3 : Option V, σ = [some (.ref m), some (.ref a), y2, y3] ∧ Ex H H') ⟨Nat.zero_le _, _, _, rfl, e1⟩ (fun i σ H' _ ⟨_, _, _, _, e⟩ => sq_of (e _ _ ha)) ?_ ?_
        · rintro i y σ H' tp hy ⟨hi, y3, y4, rfl, e⟩ htp
          have et := e.trans (Ex.new (o := .tup [.int (i : Nat), y]) htp)
          obtain ⟨dx, ps, pd, us, h1, h2, h3, h4⟩ := hm.ex et
          refine ⟨tp, _, rfl, st_of upd_same, rfl, _, _, rfl, _, _, rfl, rfl, ?_⟩
          by_cases hia : i < at'
          · obtain ⟨c, hc, hck⟩ := hgood i hia
            rw [hy] at hc
            cases hc
            refine ⟨_, rfl, _, rfl, m, CM, dx, _, _, rfl, h1, U.cl, U.nC, mfs_c _ _ _ _, _, _, rfl, .inl ⟨_, rfl⟩, ?_⟩
            rw [idx_ok hck]
            exact ⟨true, rfl, ite_f ⟨hia, _, _, rfl, et⟩⟩
          · obtain rfl : i = at' := by omega
            rw [hy] at hx
            cases hx
            refine ⟨_, rfl, _, rfl, m, CM, dx, _, _, rfl, h1, U.cl, U.nC, mfs_c _ _ _ _, _, _, rfl, hp.ex et, ?_⟩
            rw [hix]
            exact ⟨false, rfl, ite_t ⟨_, rfl, _, rfl, fun d hd => q _ d et hd⟩⟩
        · rintro σ H2 ⟨hi, _⟩
          have := (List.getElem?_eq_some_iff.mp hx).1
          omega
/-! change_of: slots 0 machine, 1 row, 2 found, 3 command; cells [] -/
abbrev schange_of : Stmt := top 25
theorem scchange_of : FnScope ["machine", "row", "found", "command"] ["machine", "row"] (defScope schange_of) := ⟨rfl, rfl, rfl, by decide +kernel, rfl, by decide +kernel, by decide +kernel⟩
def spChange (K : PySem.W.Frag) (CM CR : Addr) : Sp := fun vs H Q E => ∃ (m : Addr) (v : V) (cs : List (List Nat)) (n : Nat), vs = [.ref m, v] ∧ MachAt CM H m cs n ∧ Tab n cs ∧
  ((∃ row, OkRow H v cs.length row ∧ RetT (nv (dn n cs row)) H Q) ∨ (∃ at', BadV K H cs.length v at' ∧ Out CR at' H E))
theorem c_change_of (T : Txt K mg) (U : Cls4 P K mg CM CR CQ) : Cal P w K mg base (L2.CX P w) 5 "change_of" ["machine", "row"] (spChange K CM CR) :=
  cal_of T.change_of scchange_of (fun _ _ _ _ _ _ us hl => match us, hl with | [_, _], _ => rfl) (fun vs H Q E h => by obtain ⟨_, _, _, _, rfl, _⟩ := h; rfl) fun f cdv A outer s H vs Q E hr h => by
    have Cafter := c_after (P := P) (w := w) (base := base) T
    have Cchecked_row := c_checked_row (P := P) (w := w) (base := base) T U
    have Cidle := c_idle (P := P) (w := w) (base := base) T
    obtain ⟨fD, fdD, M_does, FD⟩ := U.does
    have G_does := ok_does (P := P) (w := w) (base := base) T U FD
    have B_does := FD.bindsN (ps := ["self", "command"]) (fun _ _ _ _ _ _ us hl => match us, hl with | [_, _], _ => rfl)
    refine ⟨_, (pss_cons (ps_set (i := 2) scchange_of.nd rfl (Or.inl rfl) (pe_cal Cidle (hr.mono (by decide)) pass0 (pa_cons (pe_fldK K rfl (pv 0) (by rfl)) pa_nil)))
        (pss_cons (ps_for (passes_of rfl) rfl (pi_tupK K rfl (pe_cal Cchecked_row (hr.mono (by decide)) (passes_call (takes_of rfl rfl rfl rfl) (fun _ _ _ _ h => h)) (pa_cons (pv 0) (pa_cons (pv 1) pa_nil)))) (pg_name (i := 3) scchange_of.nd rfl (Or.inl rfl)) (pss_one (ps_set (i := 2) scchange_of.nd rfl (Or.inl rfl) (pe_cal Cafter (hr.mono (by decide)) pass0 (pa_cons (pv 2) (pa_cons (pe_meth (pv 0) U.cl M_does G_does (hr.mono (by decide)) B_does .nil pass0 (pa_cons (pv 3) pa_nil)) pa_nil))))))
        (pss_one (ps_ret (pv 2))))), ?_⟩
    obtain ⟨m, v, cs, n, rfl, hm, hT, h⟩ := h
    obtain ⟨dx, ps, pd, us, h1, h2, h3, h4⟩ := id hm
    refine ⟨_, rfl, m, CM, dx, _, _, rfl, h1, U.cl, U.nS, mfs_s _ _ _ _, n, rfl, by have := hT.2.1; omega, fun p H1 e1 hp => ?_⟩
    dsimp only
    rcases h with ⟨row, hrow, q⟩ | ⟨at', hbad, q⟩
    · have hb := hrow.2.1
      refine seq1 ⟨_, rfl, _, rfl, m, v, cs, n, rfl, hm.ex e1, .inl ⟨row, hrow.ex e1, fun p2 H2 e2 hp2 => ?_⟩⟩
      have e12 := e1.trans e2
      refine ⟨p2, rfl, ⟨_, st_of hp2⟩, for_tup (xs := nv row) (fun i σ H' => ∃ p1 y, σ = [some (.ref m), some v, some (.ref p1), y] ∧ Ex H2 H' ∧ H' p1 = some (.tup (nv (dn n cs (row.take i))))) ⟨p, _, rfl, Ex.refl _, e2 _ _ hp⟩
        (fun i σ H' _ ⟨_, _, _, e, _⟩ => st_of (e _ _ hp2)) ?_ ?_⟩
      · rintro i x σ H' hx ⟨p1, y, rfl, e, hp1⟩
        obtain ⟨k, hk, rfl⟩ := nv_get_of hx
        have hkl := hb k (List.mem_of_getElem? hk)
        obtain ⟨d1, d2⟩ := dn_ok hT (below_take hb i)
        obtain ⟨hc0, hc1, hc2⟩ := hT.get hkl
        have hm' := hm.ex (e12.trans e)
        obtain ⟨dx, ps, pd, us, h1, h2, h3, h4⟩ := id hm'
        refine ⟨_, rfl, _, rfl, m, _, _, rfl, h1, mfs_d _ _ _ _, _, rfl, m, cs, n, k, rfl, hm', hT, hkl, fun q0 H3 e3 hq0 => ?_⟩
        refine ⟨p1, q0, _, _, rfl, st_of (e3 _ _ hp1), st_of hq0, ?_, by rw [d2]; have := hT.2.1; omega, e3 _ _ hp1, fun p3 H4 e4 k4 => ?_⟩
        · rw [hc2]
          have z := d1.lt
          rw [d2] at z
          exact z
        · refine ⟨p3, _, rfl, e.trans (e3.trans e4), ?_⟩
          rw [dn_take hk]
          exact k4
      · rintro σ H' ⟨p1, y, rfl, e, hp1⟩
        rw [nv_len, List.take_length] at hp1
        exact ⟨_, rfl, q p1 H' (e12.trans e) hp1⟩
    · exact seq1 ⟨_, rfl, _, rfl, m, v, cs, n, rfl, hm.ex e1, .inr ⟨at', hbad.ex e1, q.ex e1⟩⟩
/-! repeated: slots 0 machine, 1 row, 2 times, 3 others, 4 tail, 5 ring, 6 at, 7 value; cells [] -/
abbrev srepeated : Stmt := top 30
theorem screpeated : FnScope ["machine", "row", "times", "others", "tail", "ring", "at", "value"] ["machine", "row", "times", "others"] (defScope srepeated) := ⟨rfl, rfl, rfl, by decide +kernel, rfl, by decide +kernel, by decide +kernel⟩
def spRep (K : PySem.W.Frag) (CM CR CQ : Addr) : Sp := fun vs H Q E => ∃ (m : Addr) (v x y : V) (cs : List (List Nat)) (n : Nat), vs = [.ref m, v, x, y] ∧ MachAt CM H m cs n ∧ Tab n cs ∧
  ((∃ row, OkRow H v cs.length row ∧ ((∃ a b t r : Nat, x = .int (a : Nat) ∧ y = .int (b : Nat) ∧ a < 2 ^ 200 ∧ b < 2 ^ 200 ∧ Rh (dn n cs row) t r ∧ RetD (fun H' v => Told H' v (rb t r a b)) H Q) ∨
    (Pln K H x ∧ numV x = false ∧ Out CQ 2 H E) ∨ (∃ a : Nat, x = .int (a : Nat) ∧ Pln K H y ∧ numV y = false ∧ Out CQ 3 H E))) ∨ (∃ at', BadV K H cs.length v at' ∧ Out CR at' H E))
theorem c_repeated (T : Txt K mg) (U : Cls4 P K mg CM CR CQ) : Cal P w K mg base (L2.CX P w) 6 "repeated" ["machine", "row", "times", "others"] (spRep K CM CR CQ) :=
  cal_of T.repeated screpeated (fun _ _ _ _ _ _ us hl => match us, hl with | [_, _, _, _], _ => rfl) (fun vs H Q E h => by obtain ⟨_, _, _, _, _, _, rfl, _⟩ := h; rfl) fun f cdv A outer s H vs Q E hr h => by
    have Cchange_of := c_change_of (P := P) (w := w) (base := base) T U
    have Cis_number := c_is_number (P := P) (w := w) (base := base) T
    have Crepeated_by := c_repeated_by (P := P) (w := w) (base := base) T
    have Ctail_and_ring := c_tail_and_ring (P := P) (w := w) (base := base) T
    obtain ⟨_, UQue⟩ := U.que
    refine ⟨_, (pss_cons (ps_asg (pe_cal Ctail_and_ring (hr.mono (by decide)) pass0 (pa_cons (pe_cal Cchange_of (hr.mono (by decide)) (passes_call (takes_of rfl rfl rfl rfl) (fun _ _ _ _ h => h)) (pa_cons (pv 0) (pa_cons (pv 1) pa_nil))) pa_nil)) (pg_tupK K rfl 2 rfl (pgs_cons (pg_name (i := 4) screpeated.nd rfl (Or.inl rfl)) (pgs_cons (pg_name (i := 5) screpeated.nd rfl (Or.inl rfl)) pgs_nil))))
        (pss_cons (ps_for (passes_of rfl) rfl (pi_tupK K rfl (pe_tup (pa_cons (pe_tup (pa_cons pe_int (pa_cons (pv 2) pa_nil))) (pa_cons (pe_tup (pa_cons pe_int (pa_cons (pv 3) pa_nil))) pa_nil)))) (pg_tupK K rfl 2 rfl (pgs_cons (pg_name (i := 6) screpeated.nd rfl (Or.inl rfl)) (pgs_cons (pg_name (i := 7) screpeated.nd rfl (Or.inl rfl)) pgs_nil))) (pss_one (ps_if (pt_not (pt_val (pe_cal Cis_number (hr.mono (by decide)) pass0 (pa_cons (pv 7) pa_nil)))) (pss_one (ps_raiseErr rfl UQue efmQue U.top hr (takes_of rfl rfl rfl rfl) (by exact (pa_cons (pv 6) pa_nil)) (by rfl) (by decide))) pss_nil)))
        (pss_one (ps_ret (pe_cal Crepeated_by (hr.mono (by decide)) pass0 (pa_cons (pv 4) (pa_cons (pv 5) (pa_cons (pv 2) (pa_cons (pv 3) pa_nil))))))))), ?_⟩
    obtain ⟨m, v, x, y, cs, n, rfl, hm, hT, h⟩ := h
    rcases h with ⟨row, hrow, h⟩ | ⟨at', hbad, q⟩
    · obtain ⟨hch, hcl⟩ := dn_ok hT hrow.2.1
      obtain ⟨t, r, hR⟩ : ∃ t r, Rh (dn n cs row) t r ∧ ((∃ a b : Nat, x = .int (a : Nat) ∧ y = .int (b : Nat) ∧ a < 2 ^ 200 ∧ b < 2 ^ 200 ∧ RetD (fun H' v => Told H' v (rb t r a b)) H Q) ∨
          (Pln K H x ∧ numV x = false ∧ Out CQ 2 H E) ∨ (∃ a : Nat, x = .int (a : Nat) ∧ Pln K H y ∧ numV y = false ∧ Out CQ 3 H E)) := by
        rcases h with ⟨a, b, t, r, h1, h2, h3, h4, h5, h6⟩ | h
        · exact ⟨t, r, h5, .inl ⟨a, b, h1, h2, h3, h4, h6⟩⟩
        · obtain ⟨t, r, hR⟩ := rh_ex hch
          exact ⟨t, r, hR, .inr h⟩
      obtain ⟨hR, h⟩ := hR
      refine ⟨_, rfl, _, rfl, m, v, cs, n, rfl, hm, hT, .inl ⟨row, hrow, fun p H1 e1 hp => ?_⟩⟩
      refine ⟨p, _, t, r, rfl, hp, hch, hR, fun p2 H2 e2 hp2 => ?_⟩
      have e12 := e1.trans e2
      refine ⟨p2, _, rfl, st_of hp2, rfl, _, _, rfl, _, _, rfl, rfl, ?_⟩
      dsimp only
      refine seq1 ⟨_, rfl, sz_of (by simp), fun p3 hp3 => ⟨_, rfl, sz_of (by simp), fun p4 hp4 => ⟨sz_of (by simp), fun p5 hp5 => ?_⟩⟩⟩
      have e3 := Ex.new (o := .tup [.int 2, x]) hp3
      have e4 := Ex.new (o := .tup [.int 3, y]) hp4
      have e5 := Ex.new (o := .tup [.ref p3, .ref p4]) hp5
      have E5 := e12.trans (e3.trans (e4.trans e5))
      generalize hH5 : upd (upd (upd H2 p3 (.tup [.int 2, x])) p4 (.tup [.int 3, y])) p5 (.tup [.ref p3, .ref p4]) = H5 at e5 E5
      have hp3' : H5 p3 = some (.tup [.int 2, x]) := e5 _ _ (e4 _ _ upd_same)
      have hp4' : H5 p4 = some (.tup [.int 3, y]) := e5 _ _ upd_same
      have hp5' : H5 p5 = some (.tup [.ref p3, .ref p4]) := by rw [← hH5]; exact upd_same
      refine ⟨p5, rfl, ⟨_, st_of hp5'⟩, for_tup (xs := [.ref p3, .ref p4]) (fun i σ H' => (0 < i → ∃ a : Nat, x = .int (a : Nat)) ∧ (1 < i → ∃ b : Nat, y = .int (b : Nat)) ∧ ∃ y6 y7 : Option V, σ = [some (.ref m), some v, some x, some y, some (.int (t : Nat)), some (.int (r : Nat)), y6, y7] ∧ Ex H5 H')
        ⟨fun h => absurd h (by omega), fun h => absurd h (by omega), _, _, rfl, Ex.refl _⟩ (fun i σ H' _ ⟨_, _, _, _, _, e⟩ => st_of (e _ _ hp5')) ?_ ?_⟩
      · rintro i z σ H' hz ⟨i0, i1, y6, y7, rfl, e⟩
        match i, hz with
        | 0, hz =>
          cases hz
          refine ⟨p3, _, rfl, st_of (e _ _ hp3'), rfl, _, _, rfl, _, _, rfl, rfl, ?_⟩
          rcases h with ⟨a, b, rfl, rfl, ha, hb, q⟩ | ⟨hp, hn, q⟩ | ⟨a, rfl, hp, hn, q⟩
          · refine ⟨_, rfl, _, rfl, .inl ⟨_, rfl⟩, true, by simp [numV], ite_f ⟨fun _ => ⟨a, rfl⟩, fun h => absurd h (by omega), _, _, rfl, e⟩⟩
          · refine ⟨_, rfl, _, rfl, hp.ex (E5.trans e), false, by rw [hn], ite_t ⟨_, rfl, _, rfl, fun d hd => q _ d (E5.trans e) hd⟩⟩
          · refine ⟨_, rfl, _, rfl, .inl ⟨_, rfl⟩, true, by simp [numV], ite_f ⟨fun _ => ⟨a, rfl⟩, fun h => absurd h (by omega), _, _, rfl, e⟩⟩
        | 1, hz =>
          cases hz
          refine ⟨p4, _, rfl, st_of (e _ _ hp4'), rfl, _, _, rfl, _, _, rfl, rfl, ?_⟩
          rcases h with ⟨a, b, rfl, rfl, ha, hb, q⟩ | ⟨hp, hn, q⟩ | ⟨a, rfl, hp, hn, q⟩
          · refine ⟨_, rfl, _, rfl, .inl ⟨_, rfl⟩, true, by simp [numV], ite_f ⟨fun _ => ⟨a, rfl⟩, fun _ => ⟨b, rfl⟩, _, _, rfl, e⟩⟩
          · obtain ⟨a, rfl⟩ := i0 (by omega)
            simp [numV] at hn
          · refine ⟨_, rfl, _, rfl, hp.ex (E5.trans e), false, by rw [hn], ite_t ⟨_, rfl, _, rfl, fun d hd => q _ d (E5.trans e) hd⟩⟩
        | i + 2, hz => simp at hz
      · rintro σ H' ⟨i0, i1, y6, y7, rfl, e⟩
        obtain ⟨a, rfl⟩ := i0 (by simp)
        obtain ⟨b, rfl⟩ := i1 (by simp)
        rcases h with ⟨a', b', ea, eb, ha, hb, q⟩ | ⟨hp, hn, q⟩ | ⟨a, _, hp, hn, q⟩
        · cases ea
          cases eb
          refine ⟨_, rfl, _, rfl, _, rfl, _, rfl, t, r, a, b, rfl, ?_, hR.rho.1, ?_, ha, hb, fun w H2 e2 ht => q w H2 (E5.trans (e.trans e2)) ht⟩
          · have := hR.tl; omega
          · have := hR.rl; omega
        · simp [numV] at hn
        · simp [numV] at hn
    · exact ⟨_, rfl, _, rfl, m, v, cs, n, rfl, hm, hT, .inr ⟨at', hbad, q⟩⟩
end
end Kx
namespace Kx
open PySem PySem.Spec PyProof.Rows L2 Evl

section
variable {X : Cx} {CX : CXT} {k : Nat} {x : Str} {ks : List Str} {gV : List V → List V} {sp : Sp} {E : L2.St → XK} {p pos : Pos} {kws : List Keyword} {tk : TA}
def tCalKS (sp : Sp) (n : Nat) (g : List V → List V) (E : L2.St → XK) (tk : TA) : TE := fun σ H Q => tk σ H fun zs H1 => zs.length = n ∧ sp (g zs) H1 Q (E σ)
theorem pe_calKS (C : CalK X.prog X.w X.K X.mg X.base CX k x ks gV sp) (hr : Room k X.A) (hx : ∀ σ, PassesAt CX X σ (E σ)) (hkw : PK X kws tk) (hg : Gl X x := by rfl)
    (hall : (backToKw pos (keywordEach kws X.env)).all (·.1.isSome) = true := by rfl) (hks : (backToKw pos (keywordEach kws X.env)).filterMap (·.1) = ks := by rfl) (hdb : (x == ("__debug__" : Str)) = false := by decide)
    (hpl : ((backTo pos (starEach [] X.env)).any (·.1) || (backToKw pos (keywordEach kws X.env)).any (·.1.isNone)) = false := by rfl) :
    PE X (.Call (.Name x p) [] kws pos) (tCalKS sp ks.length gV E tk) := by
  obtain ⟨f, fd, ps, gU, hm, hk, hb, hv, F⟩ := C.ex
  refine ⟨fun pins s σ H Q I h => ?_⟩
  refine wpAny_Call_Name_kw (ld_glob I hg hm ?_ hdb)
  refine PySem.W.callWith_KW0 (h₀ := X.base) I.ok.mod.kin hk hall ?_ hpl
  refine L2.thn (hkw.run pos pins s σ H _ I h) fun ws s2 ⟨zs, H2, I2, rz, l2, q2⟩ => ⟨I2.kIn, ?_⟩
  rw [hks]
  have l3 : ws.length = ks.length := rz.length.symm.trans l2
  refine wpAny_call (codeAny_mono (F.run X.A X.stack s2 H2 ⟨[], ks.zip ws⟩ (gU ws) (gV zs) Q (E σ) hr I2.env0 (hb s2 ws l3) (hv rz l2) q2) fun r s' hq => ?_)
  cases r with
  | error e => exact hx σ pins H2 s2 e s' I2 hq
  | ok fl =>
    cases fl with
    | ret u => exact I2.after hq
    | next => exact False.elim hq
    | brk => exact False.elim hq
    | cont => exact False.elim hq
end
section
variable {P : Program} {w : World} {K : PySem.W.Frag} {mg : Str → Option Value} {base : Heap} {CM CR CQ : Addr}
/-- called by keywords alone, the last parameter first -/
theorem calK_of {CX : CXT} {k : Nat} {x : Str} {ps : List Str} {sp : Sp} {st : Stmt} (D : DefAt K mg x st) (C : Cal P w K mg base CX k x ps sp)
    (hb : ∀ (kV doc pm : Value) (an : Option Addr) (cdv ct : Value) (ws : List Value), ws.length = ps.reverse.length → bindArgs (PySem.W.fnOf x x (defArgs st) (defBody st) (defScope st) .none kV doc pm an cdv ct) ⟨[], ps.reverse.zip ws⟩ = pure (ps.zip ws.reverse)) :
    CalK P w K mg base CX k x ps.reverse List.reverse sp := by
  obtain ⟨f, fd, hm, F⟩ := D.ex
  obtain ⟨f', fd', h1, h2, h3, h4, oc', od', osl', lk'⟩ := C.ex
  rw [hm] at h1
  cases h1
  obtain ⟨oc, od, dV, kV, doc, pm, an, cdv, ct, osl, rfl, lk, hcd, hD, hK⟩ := F.ex
  rw [lk] at lk'
  cases lk'
  refine ⟨f, _, ps, List.reverse, hm, h2, fun s ws hl => BindsTo.of_eq ?_, fun r _ => r.reverse, h4⟩
  rcases hD with ⟨_, rfl⟩ | ⟨e, _⟩
  · exact hb kV doc pm an cdv ct ws hl
  · exact absurd rfl e
theorem k_repeated (T : Txt K mg) (U : Cls4 P K mg CM CR CQ) : CalK P w K mg base (L2.CX P w) 6 "repeated" ["others", "times", "row", "machine"] List.reverse (spRep K CM CR CQ) :=
  calK_of T.repeated (c_repeated T U) (fun _ _ _ _ _ _ us hl => match us, hl with | [_, _, _, _], _ => rfl)
theorem k_repeated_by (T : Txt K mg) : CalK P w K mg base CX0 2 "repeated_by" ["others", "times", "ring", "tail"] List.reverse spRb :=
  calK_of T.repeated_by (c_repeated_by T) (fun _ _ _ _ _ _ us hl => match us, hl with | [_, _, _, _], _ => rfl)
theorem k_tail (T : Txt K mg) : CalK P w K mg base CX0 6 "tail" ["change"] List.reverse spTail :=
  calK_of T.tail (c_tail T) (fun _ _ _ _ _ _ us hl => match us, hl with | [_], _ => rfl)
theorem k_ring (T : Txt K mg) : CalK P w K mg base CX0 6 "ring" ["change"] List.reverse spRing :=
  calK_of T.ring (c_ring T) (fun _ _ _ _ _ _ us hl => match us, hl with | [_], _ => rfl)
/-! _law_asked: slots 0 _law_machine_here, 1 _law_row, 2 _law_times_here, 3 _law_others, 4 wrong; cells [] -/
abbrev s_law_asked : Stmt := top 52
theorem sc_law_asked : FnScope ["_law_machine_here", "_law_row", "_law_times_here", "_law_others", "wrong"] ["_law_machine_here", "_law_row", "_law_times_here", "_law_others"] (defScope s_law_asked) := ⟨rfl, rfl, rfl, by decide +kernel, rfl, by decide +kernel, by decide +kernel⟩
def spAsked (K : PySem.W.Frag) (CM : Addr) : Sp := fun vs H Q _ => ∃ (m : Addr) (v x y : V) (cs : List (List Nat)) (n : Nat), vs = [.ref m, v, x, y] ∧ MachAt CM H m cs n ∧ Tab n cs ∧
  ((∃ row, OkRow H v cs.length row ∧ ((∃ a b t r : Nat, x = .int (a : Nat) ∧ y = .int (b : Nat) ∧ a < 2 ^ 200 ∧ b < 2 ^ 200 ∧ Rh (dn n cs row) t r ∧ RetD (fun H' v => Told H' v (rb t r a b)) H Q) ∨
    (Pln K H x ∧ numV x = false ∧ RetT [.str "question", .int 2] H Q) ∨ (∃ a : Nat, x = .int (a : Nat) ∧ Pln K H y ∧ numV y = false ∧ RetT [.str "question", .int 3] H Q))) ∨ (∃ at', BadV K H cs.length v at' ∧ RetT [.str "row", .int (at' : Nat)] H Q))
theorem c__law_asked (T : Txt K mg) (U : Cls4 P K mg CM CR CQ) : Cal P w K mg base CX0 (6 + 1) "_law_asked" ["_law_machine_here", "_law_row", "_law_times_here", "_law_others"] (spAsked K CM) :=
  cal_of T._law_asked sc_law_asked (fun _ _ _ _ _ _ us hl => match us, hl with | [_, _, _, _], _ => rfl) (fun vs H Q E h => by obtain ⟨_, _, _, _, _, _, rfl, _⟩ := h; rfl) fun f cdv A outer s H vs Q E hr h => by
    obtain ⟨_, URow⟩ := U.row
    obtain ⟨_, UQue⟩ := U.que
    have Krepeated := k_repeated (P := P) (w := w) (base := base) T U
    refine ⟨_, pss_nox (pss_one (ps_try_as2 (i := 4) rfl rfl sc_law_asked.nd rfl rfl ⟨rfl, by decide, .inl URow.gC⟩ ⟨rfl, by decide, .inl UQue.gC⟩ (fun W pn xe tk ps => pss_one (ps_ret (pe_calKS Krepeated (hr.mono (by decide)) (passAt tk) (pk_cons (pv 3) (pk_cons (pv 2) (pk_cons (pv 1) (pk_cons (pv 0) pk_nil))))))) (fun a oe cls d pn hz hf => pss_one (ps_ret (pe_tup (pa_cons pe_str (pa_cons (pe_byAt URow hz hf (pv 4)) pa_nil))))) (fun a oe cls d pn hz hf => pss_one (ps_ret (pe_tup (pa_cons pe_str (pa_cons (pe_byAt UQue hz hf (pv 4)) pa_nil))))))), ?_⟩
    obtain ⟨m, v, x, y, cs, n, rfl, hm, hT, h⟩ := h
    refine ⟨_, rfl, _, rfl, _, rfl, _, rfl, rfl, m, v, x, y, cs, n, rfl, hm, hT, ?_⟩
    rcases h with ⟨row, hrow, h⟩ | ⟨at', hbad, q⟩
    · refine .inl ⟨row, hrow, ?_⟩
      rcases h with h | ⟨h1, h2, q⟩ | ⟨a, h1, h2, h3, q⟩
      · exact .inl h
      · refine .inr (.inl ⟨h1, h2, fun H' d e hd => ⟨false, U.qr, nofun, fun _ => ⟨true, U.qq, fun _ a ha => ?_, nofun⟩⟩⟩)
        exact ⟨_, rfl, rfl, rfl, d, _, rfl, upd_same, sz_of (by simp), fun p hp => q p _ (e.trans ((Ex.new hd).trans (Ex.new hp))) upd_same⟩
      · refine .inr (.inr ⟨a, h1, h2, h3, fun H' d e hd => ⟨false, U.qr, nofun, fun _ => ⟨true, U.qq, fun _ a ha => ?_, nofun⟩⟩⟩)
        exact ⟨_, rfl, rfl, rfl, d, _, rfl, upd_same, sz_of (by simp), fun p hp => q p _ (e.trans ((Ex.new hd).trans (Ex.new hp))) upd_same⟩
    · refine .inr ⟨at', hbad, fun H' d e hd => ⟨true, U.rr, fun _ a ha => ?_, nofun⟩⟩
      exact ⟨_, rfl, rfl, rfl, d, _, rfl, upd_same, sz_of (by simp), fun p hp => q p _ (e.trans ((Ex.new hd).trans (Ex.new hp))) upd_same⟩
end
end Kx
namespace Kx
open PySem PySem.Spec PyProof.Rows L2 Evl

/-! ### how long a repr is -/
theorem len_app (a b : Str) : (a ++ b).length = a.length + b.length := PySem.Str.length_append a b
theorem len_join {B : Nat} : ∀ ts : List Str, (∀ t ∈ ts, t.length ≤ B) → (Str.join ", " ts).length ≤ ts.length * (B + 2)
  | [], _ => by show 0 ≤ _; omega
  | [x], h => by
    have := h x List.mem_cons_self
    show x.length ≤ 1 * (B + 2)
    omega
  | x :: y :: r, h => by
    have ih := len_join (B := B) (y :: r) (fun t ht => h t (List.mem_cons_of_mem _ ht))
    have h1 := h x List.mem_cons_self
    show (x ++ ", " ++ Str.join ", " (y :: r)).length ≤ ((y :: r).length + 1) * (B + 2)
    rw [len_app, len_app, show ((", " : String) : Str).length = 2 from rfl, Nat.succ_mul]
    omega
theorem len_tup {B : Nat} {ts : List Str} (h : ∀ t ∈ ts, t.length ≤ B) : (tupleText ts).length ≤ 3 + ts.length * (B + 2) := by
  unfold tupleText
  rw [len_app, len_app]
  have h1 := len_join ts h
  have h2 : (((if ts.length == 1 then ",)" else ")" : String) : Str)).length ≤ 2 := by split <;> decide
  have h3 : ((("(" : String) : Str)).length = 1 := rfl
  omega
theorem len_lst {B : Nat} {ts : List Str} (h : ∀ t ∈ ts, t.length ≤ B) : (listText ts).length ≤ 3 + ts.length * (B + 2) := by
  unfold listText
  rw [len_app]
  have h1 := textFrom_len_le ts 0 "["
  have h3 : ((("[" : String) : Str)).length = 1 := rfl
  have h4 : ((("]" : String) : Str)).length = 1 := rfl
  have h2 : (ts.map (·.length)).sum ≤ ts.length * B := by
    clear h1
    induction ts with
    | nil => simp
    | cons t r ih =>
      have a := h t List.mem_cons_self
      have b := ih fun u hu => h u (List.mem_cons_of_mem _ hu)
      rw [List.map_cons, List.sum_cons, List.length_cons, Nat.succ_mul]
      omega
  rw [Nat.mul_add]
  omega
theorem len_int {n : Nat} (h : n < 10 ^ 10) : (PyData.shown (.int (n : Int))).length ≤ 10 := by
  have e := (Nat.length_repr_le_iff (n := n) (by decide : 0 < 10)).mpr h
  rw [PyData.shown]
  show (Str.ofString (toString (n : Int))).length ≤ 10
  have e2 : toString (n : Int) = n.repr := rfl
  rw [e2]
  rw [Str.ofString_eq_toList]
  show ((n.repr.toList.map Char.toNat).toArray).size ≤ 10
  rw [← String.length_toList] at e
  rw [List.size_toArray, List.length_map]
  exact e
/-! ### what is shown of an answer -/
def smD (sm : Nat × Nat) : PyData := .tuple [.int (sm.1 : Nat), .int (sm.2 : Nat)]
def tlD (x : List (Nat × Nat) × Nat) : PyData := .tuple [.tuple (x.1.map smD), .int (x.2 : Nat)]
theorem told_dp {K : PySem.W.Frag} {H : Hp} {v : V} {x : List (Nat × Nat) × Nat} (h : Told H v x) : Dp K H v (tlD x) := by
  obtain ⟨p, p1, us, rfl, h1, h2, h3⟩ := h
  refine .tup (st_of h1) (.cons (.tup (st_of h2) ?_) (.cons (.int _) .nil))
  clear h1 h2
  obtain ⟨rs, e⟩ := x
  dsimp only at h3 ⊢
  unfold Runs at h3
  induction h3 with
  | nil => exact .nil
  | cons a t ih =>
    obtain ⟨q, rfl, hq⟩ := a
    exact .cons (.tup (st_of hq) (.cons (.int _) (.cons (.int _) .nil))) ih
def Fits (x : List (Nat × Nat) × Nat) : Prop := x.2 ≤ 1000000 ∧ x.1.length ≤ 1 ∧ ∀ sm ∈ x.1, 0 < sm.1 ∧ sm.1 ≤ 1000000 ∧ sm.2 = 1
theorem show_int {n : Nat} (h : n ≤ 1000000) : PyData.showable (.int (n : Int)) = true := by
  rw [PyData.showable]
  refine decide_eq_true ?_
  rw [Int.natAbs_natCast]
  exact Nat.lt_of_lt_of_le (log2_small (k := 20) (by omega) (by decide)) (by decide)
theorem rb_fits {t r a b : Nat} (ht : t ≤ 1000) (h0 : 0 < r) (hr : r ≤ 100000) : Fits (rb t r a b) := by
  have hE : rbEnd r a b ≤ r := Nat.div_le_self _ _
  unfold rb
  split
  · exact ⟨by decide, by decide, fun sm h => nomatch h⟩
  · rename_i hne
    split
    · split
      · exact ⟨by decide, by decide, fun sm h => nomatch h⟩
      · exact ⟨by show rbEnd r a b ≤ _; omega, Nat.zero_le _, fun sm h => nomatch h⟩
    · rename_i hlo
      split
      · exact ⟨by show rbEnd r a b ≤ _; omega, Nat.zero_le _, fun sm h => nomatch h⟩
      · have hd : 0 < rbEnd r a b := Nat.div_pos (Nat.le_of_dvd h0 (Nat.gcd_dvd_left _ _)) (Nat.gcd_pos_of_pos_left _ h0)
        have h1 : upTo (min a b) t / min a b ≤ t := upTo_div (by omega)
        have h2 : upTo (rbEnd r a b) (upTo (min a b) t / min a b) ≤ (upTo (min a b) t / min a b) + rbEnd r a b - 1 := upTo_le _ _
        refine ⟨by show rbEnd r a b ≤ _; omega, by simp, fun sm h => ?_⟩
        rcases List.mem_singleton.mp h with rfl
        unfold rbFirst
        exact ⟨Nat.lt_of_lt_of_le hd (Nat.le_max_left _ _), by show max _ _ ≤ 1000000; exact Nat.max_le.mpr ⟨by omega, by omega⟩, rfl⟩
theorem rb_comm (t r a b : Nat) : rb t r a b = rb t r b a := by
  unfold rb rbFirst rbEnd
  rw [Nat.max_comm a b, Nat.min_comm a b]
theorem smD_show {sm : Nat × Nat} (h1 : sm.1 ≤ 1000000) (h2 : sm.2 ≤ 1000000) : PyData.showable (smD sm) = true := by
  unfold smD
  rw [PyData.showable, PyData.showableAll, PyData.showableAll, PyData.showableAll, show_int h1, show_int h2]
  rfl
theorem tl_repr {x : List (Nat × Nat) × Nat} (h : Fits x) : PyData.showable (tlD x) = true ∧ PyData.hasDict (tlD x) = false ∧ (tlD x).shown.length ≤ sizeLine ∧ PyData.depth (tlD x) ≤ 60 := by
  obtain ⟨rs, e⟩ := x
  obtain ⟨h1, h2, h3⟩ := h
  dsimp only at h1 h2 h3
  have hz : sizeLine = 16777216 := sizeLine_eq
  have he := len_int (n := e) (by omega)
  match rs, h2, h3 with
  | [], _, _ =>
    refine ⟨?_, rfl, ?_, (by show PyData.depth _ ≤ 60; simp only [tlD, List.map, PyData.depth, PyData.depthAll]; decide)⟩
    · unfold tlD
      simp only [List.map_nil, PyData.showable, PyData.showableAll]
      have := show_int h1
      rw [PyData.showable] at this
      rw [this]
      rfl
    · unfold tlD
      rw [PyData.shown, hz]
      refine Nat.le_trans (len_tup (B := 100) fun t ht => ?_) (by simp [PyData.shownAll])
      simp only [List.map_nil, PyData.shownAll, List.mem_cons, List.not_mem_nil, or_false] at ht
      rcases ht with rfl | rfl
      · rw [PyData.shown]
        exact Nat.le_trans (len_tup (B := 0) fun t ht => nomatch ht) (by simp [PyData.shownAll])
      · omega
  | [sm], _, h3 =>
    obtain ⟨g0, g1, g2⟩ := h3 sm List.mem_cons_self
    have i1 := len_int (n := sm.1) (by omega)
    have i2 := len_int (n := sm.2) (by omega)
    refine ⟨?_, rfl, ?_, by show PyData.depth _ ≤ 60; simp only [tlD, smD, List.map, PyData.depth, PyData.depthAll]; decide⟩
    · have s1 := smD_show (sm := sm) g1 (by omega)
      have s2 := show_int h1
      show PyData.showable (.tuple [.tuple [smD sm], .int (e : Nat)]) = true
      rw [PyData.showable, PyData.showableAll, PyData.showableAll, PyData.showableAll, s2, PyData.showable, PyData.showableAll, PyData.showableAll, s1]
      rfl
    · show (PyData.shown (.tuple [.tuple [smD sm], .int (e : Nat)])).length ≤ sizeLine
      have k1 : (smD sm).shown.length ≤ 27 := by
        unfold smD
        rw [PyData.shown]
        refine Nat.le_trans (len_tup (B := 10) fun t ht => ?_) (by simp [PyData.shownAll])
        simp only [PyData.shownAll, List.mem_cons, List.not_mem_nil, or_false] at ht
        rcases ht with rfl | rfl <;> assumption
      rw [PyData.shown, hz]
      refine Nat.le_trans (len_tup (B := 100) fun t ht => ?_) (by simp [PyData.shownAll])
      simp only [PyData.shownAll, List.mem_cons, List.not_mem_nil, or_false] at ht
      rcases ht with rfl | rfl
      · rw [PyData.shown]
        refine Nat.le_trans (len_tup (B := 27) fun t ht => ?_) (by simp [PyData.shownAll])
        simp only [PyData.shownAll, List.mem_cons, List.not_mem_nil, or_false] at ht
        subst ht
        exact k1
      · omega
/-- repr(x) of an answer -/
theorem repr_told {K : PySem.W.Frag} {H : Hp} {v : V} {x : List (Nat × Nat) × Nat} {Q : VK} (h : Told H v x) (hf : Fits x) (q : Q (.str (tlD x).shown) H) : rRepr K [v] H Q := by
  obtain ⟨s1, s2, s3, s4⟩ := tl_repr hf
  have d := told_dp (K := K) h
  obtain ⟨p, p1, us, rfl, _⟩ := h
  exact ⟨p, _, rfl, d, s1, s2, s3, s4, q⟩
/-- repr([m, n]) of two numbers -/
def prD (m n : Nat) : PyData := .list [.int (m : Nat), .int (n : Nat)]
theorem repr_pair {K : PySem.W.Frag} {H : Hp} {p : Addr} {m n : Nat} {Q : VK} (h : H p = some (.lst [.int (m : Nat), .int (n : Nat)])) (hm : m ≤ 1000000) (hn : n ≤ 1000000) (q : Q (.str (prD m n).shown) H) : rRepr K [.ref p] H Q := by
  refine ⟨p, prD m n, rfl, .lst (sq_of h) (.cons (.int _) (.cons (.int _) .nil)), ?_, rfl, ?_, (by simp only [prD, PyData.depth, PyData.depthAll]; decide), q⟩
  · unfold prD
    rw [PyData.showable, PyData.showableAll, PyData.showableAll, PyData.showableAll, show_int hm, show_int hn]
    rfl
  · have i1 := len_int (n := m) (by omega)
    have i2 := len_int (n := n) (by omega)
    unfold prD
    rw [PyData.shown, sizeLine_eq]
    refine Nat.le_trans (len_lst (B := 10) fun t ht => ?_) (by simp [PyData.shownAll])
    simp only [PyData.shownAll, List.mem_cons, List.not_mem_nil, or_false] at ht
    rcases ht with rfl | rfl <;> assumption
end Kx
namespace Kx
open PySem PySem.Spec PyProof.Rows L2 Evl

theorem passR {X : Cx} : Passes (L2.CX X.prog X.w) X E0 := fun _ _ _ _ _ _ _ h => by
  obtain ⟨_, _, _, _, _, _, _, _, _, _, _, _, z⟩ := h
  exact False.elim z
theorem call_reprK (K : PySem.W.Frag) {X : Cx} (h : X.K = K) (hg : X.A.guards = some []) (hu : X.A.units + 64 < cLine) : CallR X (.builtin "repr") (rRepr K) := by subst h; exact call_repr hg hu
theorem fit_str {n : Nat} (x : Str) (h : (PyData.str x).canLay0 = true) : fit n (.str x) := ⟨h, by simp [PyData.depth]⟩
theorem fit_sm (sm : Nat × Nat) : fit 1 (smD sm) := fit_tup fun d hd => by
  simp only [List.mem_cons, List.not_mem_nil, or_false] at hd
  rcases hd with rfl | rfl <;> exact fit_int _
theorem fit_tl (x : List (Nat × Nat) × Nat) : fit 3 (tlD x) := fit_tup fun d hd => by
  simp only [List.mem_cons, List.not_mem_nil, or_false] at hd
  rcases hd with rfl | rfl
  · exact fit_tup fun d hd => by
      obtain ⟨sm, _, rfl⟩ := List.mem_map.mp hd
      exact fit_sm sm
  · exact fit_int _
theorem eqv_tl (x : List (Nat × Nat) × Nat) : PyData.eqv (tlD x) (.tuple [.tuple [], .int 1]) = decide (x = ([], 1)) := by
  obtain ⟨rs, e⟩ := x
  unfold tlD
  rw [PyData.eqv, PyData.eqvAll, PyData.eqvAll, PyData.eqvAll, PyData.eqv]
  cases rs with
  | nil =>
    simp only [List.map_nil, PyData.eqvAll, PyData.eqv]
    by_cases h : e = 1
    · subst h; simp
    · simp [h]; omega
  | cons r rs =>
    have z : PyData.eqv (.tuple (smD r :: rs.map smD)) (.tuple []) = false := by rw [PyData.eqv, PyData.eqvAll]
    simp [z]
theorem eqv_two (z : Str) (k : Int) : PyData.eqv (.tuple [.str z, .int k]) (.tuple [.str z, .int k]) = true := by simp [PyData.eqv, PyData.eqvAll]
theorem fit_two {z : Str} {k : Int} (h : (PyData.str z).canLay0 = true) : fit 1 (.tuple [.str z, .int k]) := fit_tup fun d hd => by
  simp only [List.mem_cons, List.not_mem_nil, or_false] at hd
  rcases hd with rfl | rfl
  · exact fit_str _ h
  · exact fit_int _
theorem dp_two {K : PySem.W.Frag} {H : Hp} {p : Addr} {z : Str} {k : Int} (h : H p = some (.tup [.str z, .int k])) : Dp K H (.ref p) (.tuple [.str z, .int k]) := .tup (st_of h) (.cons (.str z) (.cons (.int k) .nil))
/-- (z, k) against another such -/
theorem ne_two {K : PySem.W.Frag} {H : Hp} {p q : Addr} {z : Str} {k : Int} {Q : VK} (h : H p = some (.tup [.str z, .int k])) (h2 : H q = some (.tup [.str z, .int k])) (hz : (PyData.str z).canLay0 = true) (g : Q (.bl false) H) : rNeD K (.ref p) (.ref q) H Q :=
  ⟨_, _, dp_two h, dp_two h2, (fit_two hz).shaped (by decide), (fit_two hz).shaped (by decide), by rw [eqv_two]; exact g⟩
theorem eq_two {K : PySem.W.Frag} {H : Hp} {p q : Addr} {z : Str} {k : Int} {Q : VK} (h : H p = some (.tup [.str z, .int k])) (h2 : H q = some (.tup [.str z, .int k])) (hz : (PyData.str z).canLay0 = true) (g : Q (.bl true) H) : rEqD K (.ref p) (.ref q) H Q :=
  ⟨_, _, dp_two h, dp_two h2, (fit_two hz).shaped (by decide), (fit_two hz).shaped (by decide), by rw [eqv_two]; exact g⟩
theorem odd_pln {K : PySem.W.Frag} {H : Hp} {p : Addr} {v : V} (h : H p = some (.tup [.int 1])) (hv : v ∈ [V.int (-1), .non, .bl true, .str "1", .ref p]) : Pln K H v ∧ numV v = false := by
  simp only [List.mem_cons, List.not_mem_nil, or_false] at hv
  rcases hv with rfl | rfl | rfl | rfl | rfl
  · exact ⟨.inl ⟨_, rfl⟩, by decide⟩
  · exact ⟨.inr ⟨fun i => nofun, _, .base .non, by decide⟩, rfl⟩
  · exact ⟨.inr ⟨fun i => nofun, _, .base (.bl _), by decide⟩, rfl⟩
  · exact ⟨.inr ⟨fun i => nofun, _, .base (.str _), by decide⟩, rfl⟩
  · exact ⟨.inr ⟨fun i => nofun, _, SqT.ty (st_of h), by decide⟩, rfl⟩
section
variable {P : Program} {w : World} {K : PySem.W.Frag} {mg : Str → Option Value} {base : Heap} {CM CR CQ : Addr}
/-! law: slots 0 _law_script, 1 _law_deal, 2 _law_some, 3 _law_machine_here, 4 _law_turn, 5 _law_row, 6 _law_change, 7 _law_times_here, 8 _law_others, 9 _law_first, 10 _law_length, 11 _law_due, 12 _law_twice, 13 _law_told, 14 _law_odd, 15 _law_bad, 16 _law_at; cells ['_law_deal', '_law_some'] -/
abbrev slaw : Stmt := top 56
theorem sclaw : FnScope ["_law_script", "_law_deal", "_law_some", "_law_machine_here", "_law_turn", "_law_row", "_law_change", "_law_times_here", "_law_others", "_law_first", "_law_length", "_law_due", "_law_twice", "_law_told", "_law_odd", "_law_bad", "_law_at"] ["_law_script"] (defScope slaw) := ⟨rfl, rfl, rfl, by decide +kernel, rfl, by decide +kernel, by decide +kernel⟩
theorem law_reads (T : Txt K mg) (U : Cls4 P K mg CM CR CQ) {f a : Addr} {cdv : Value} {outer : List Env} {s : Shared} {H : Hp} {zs : List Int} (hS : SqL K H a (zs.map V.int)) (hz : zs.length ≤ 63) :
    ∃ t, PSs (cxOf CX0 P w K mg base ["_law_script", "_law_deal", "_law_some", "_law_machine_here", "_law_turn", "_law_row", "_law_change", "_law_times_here", "_law_others", "_law_first", "_law_length", "_law_due", "_law_twice", "_law_told", "_law_odd", "_law_bad", "_law_at"] "law" (defScope slaw) f cdv callerA outer s H E0) (defBody slaw) t ∧
      t { nx := fun _ H' => (fun v _ => v = V.bl true : VK) .non H', rt := fun v _ => v = .bl true } (start ["_law_script", "_law_deal", "_law_some", "_law_machine_here", "_law_turn", "_law_row", "_law_change", "_law_times_here", "_law_others", "_law_first", "_law_length", "_law_due", "_law_twice", "_law_told", "_law_odd", "_law_bad", "_law_at"] [.ref a]) H := by
  have hr : Room 12 (callerA.deeper (envOfC "law" (defScope slaw) s.heap.objs.size f cdv)) := Room.deeper (k := 12) ⟨rfl, by decide, by decide⟩ _
  have hg0 : (callerA.deeper (envOfC "law" (defScope slaw) s.heap.objs.size f cdv)).guards = some [] := rfl
  obtain ⟨fM, fdM, MM_made, FM⟩ := U.made
  have G_made := ok_init (P := P) (w := w) (base := base) T U FM
  have B_made := FM.bindsN (ps := ["self", "commands", "steps"]) (fun _ _ _ _ _ _ us hl => match us, hl with | [_, _, _], _ => rfl)
  have Krepeated_by := k_repeated_by (P := P) (w := w) (base := base) T
  have Ktail := k_tail (P := P) (w := w) (base := base) T
  have Kring := k_ring (P := P) (w := w) (base := base) T
  have Crepeated := c_repeated (P := P) (w := w) (base := base) T U
  have C_law_asked := c__law_asked (P := P) (w := w) (base := base) T U
  have C_law_draw := c__law_draw (P := P) (w := w) (base := base) T
  have C_law_pair_machine := c__law_pair_machine (P := P) (w := w) (base := base) T
  have C_law_steps := c__law_steps (P := P) (w := w) (base := base) T
  have C_law_any := c__law_any (P := P) (w := w) (base := base) T
  have C_law_of := c__law_of (P := P) (w := w) (base := base) T
  have C_law_done := c__law_done (P := P) (w := w) (base := base) T
  have C_law_times := c__law_times (P := P) (w := w) (base := base) T
  have C_law_tail := c__law_tail (P := P) (w := w) (base := base) T
  have C_law_told_set := c__law_told_set (P := P) (w := w) (base := base) T
  have C_law_rounds := c__law_rounds (P := P) (w := w) (base := base) T
  have C_law_raised := c__law_raised (P := P) (w := w) (base := base) T
  have C_law_then := c__law_then (P := P) (w := w) (base := base) T
  have C_law_bad_row := c__law_bad_row (P := P) (w := w) (base := base) T
  have C_law_by_counts := c__law_by_counts (P := P) (w := w) (base := base) T
  have Crepeated_by := c_repeated_by (P := P) (w := w) (base := base) T
  refine ⟨_, pss_nox (pss_cons (ps_set (i := 1) sclaw.nd rfl (Or.inr rfl) (pe_cal C_law_draw (hr.mono (by decide)) pass0 (pa_cons (pv 0) (pa_cons pe_int pa_nil))))
        (pss_cons (ps_set (i := 2) sclaw.nd rfl (Or.inr rfl) (pe_cal C_law_pair_machine (hr.mono (by decide)) pass0 (pa_cons (pv 1) pa_nil)))
        (pss_cons (ps_set (i := 3) sclaw.nd rfl (Or.inl rfl) (pe_make MM_made G_made (hr.mono (by decide)) rfl U.gM B_made .nil pass0 (pa_cons (pe_callB (lenK K rfl) (by rfl) T.n_len (by decide +kernel) (pa_cons (pv 2) pa_nil)) (pa_cons (pe_cal C_law_steps (hr.mono (by decide)) pass0 (pa_cons (pv 2) pa_nil)) pa_nil))))
        (pss_cons (ps_for PassesOwn.never rfl (pi_range1 (by rfl) T.n_range (pa_cons pe_int pa_nil)) (pg_name (i := 4) sclaw.nd rfl (Or.inl rfl)) (pss_cons (ps_set (i := 5) sclaw.nd rfl (Or.inl rfl) (pe_callTy (tupK K rfl) (by rfl) T.n_tuple (by decide +kernel) (pa_cons (pe_lc (own := [("_law_at", 16)]) (tt := tYes) (by rfl) sclaw.nd (pi_range1 (by rfl) T.n_range (pa_cons (pe_cal C_law_any (hr.mono (by decide)) pass0 (pa_cons (pv 1) (pa_cons pe_int pa_nil))) pa_nil)) (blkOk_by (N := ["_law_script", "_law_deal", "_law_some", "_law_machine_here", "_law_turn", "_law_row", "_law_change", "_law_times_here", "_law_others", "_law_first", "_law_length", "_law_due", "_law_twice", "_law_told", "_law_odd", "_law_bad", "_law_at"]) (sc := defScope slaw) (by decide +kernel)) (fun _ _ _ _ _ => (pg_name (i := 16) sclaw.nd rfl (Or.inl rfl))) (fun _ _ _ _ _ => pts_nil) (fun _ _ _ _ _ => (pe_cal C_law_any (hr.mono (by decide)) pass0 (pa_cons (pv 1) (pa_cons (pe_callB (lenK K rfl) (by rfl) T.n_len (by decide +kernel) (pa_cons (pv 2) pa_nil)) pa_nil))))) pa_nil)))
        (pss_cons (ps_par3 (i := 6) (j := 7) (l := 8) (by rfl) sclaw.nd rfl rfl rfl (by decide) (by decide) (by decide) rfl rfl rfl (pa_cons (pe_cal C_law_done (hr.mono (by decide)) pass0 (pa_cons (pv 2) (pa_cons (pv 5) pa_nil))) (pa_cons (pe_cal C_law_times (hr.mono (by decide)) pass0 (pa_cons (pv 1) pa_nil)) (pa_cons (pe_cal C_law_times (hr.mono (by decide)) pass0 (pa_cons (pv 1) pa_nil)) pa_nil))) (by rfl))
        (pss_cons (ps_asg (pe_cal C_law_tail (hr.mono (by decide)) pass0 (pa_cons (pv 6) pa_nil)) (pg_tupK K rfl 2 rfl (pgs_cons (pg_name (i := 9) sclaw.nd rfl (Or.inl rfl)) (pgs_cons (pg_name (i := 10) sclaw.nd rfl (Or.inl rfl)) pgs_nil))))
        (pss_cons (ps_set (i := 11) sclaw.nd rfl (Or.inl rfl) (pe_cal C_law_told_set (hr.mono (by decide)) pass0 (pa_cons (pe_cal C_law_rounds (hr.mono (by decide)) pass0 (pa_cons (pe_cal C_law_raised (hr.mono (by decide)) pass0 (pa_cons (pv 6) (pa_cons (pv 7) pa_nil))) (pa_cons (pe_cal C_law_raised (hr.mono (by decide)) pass0 (pa_cons (pv 6) (pa_cons (pv 8) pa_nil))) pa_nil))) pa_nil)))
        (pss_cons (ps_if (PW.pt (pw_or (pt_cmpR op_ne (pe_callB (call_reprK K rfl hg0 hr.units) (by rfl) T.n_repr (by decide +kernel) (pa_cons (pe_cal C_law_asked (hr.mono (by decide)) pass0 (pa_cons (pv 3) (pa_cons (pv 5) (pa_cons (pv 7) (pa_cons (pv 8) pa_nil))))) pa_nil)) (pe_callB (call_reprK K rfl hg0 hr.units) (by rfl) T.n_repr (by decide +kernel) (pa_cons (pv 11) pa_nil)) (nomark _)) (pw_or1 (pt_cmpR op_ne (pe_callB (call_reprK K rfl hg0 hr.units) (by rfl) T.n_repr (by decide +kernel) (pa_cons (pe_cal C_law_asked (hr.mono (by decide)) pass0 (pa_cons (pv 3) (pa_cons (pe_callTy (lstK K rfl) (by rfl) T.n_list (by decide +kernel) (pa_cons (pv 5) pa_nil)) (pa_cons (pv 8) (pa_cons (pv 7) pa_nil))))) pa_nil)) (pe_callB (call_reprK K rfl hg0 hr.units) (by rfl) T.n_repr (by decide +kernel) (pa_cons (pv 11) pa_nil)) (nomark _))))) (pss_one (ps_ret pe_bl)) pss_nil)
        (pss_cons (ps_if (pt_cmpR op_ne (pe_callB (call_reprK K rfl hg0 hr.units) (by rfl) T.n_repr (by decide +kernel) (pa_cons (pe_calK Krepeated_by (hr.mono (by decide)) pass0 (pk_cons (pv 8) (pk_cons (pv 7) (pk_cons (pv 10) (pk_cons (pv 9) pk_nil))))) pa_nil)) (pe_callB (call_reprK K rfl hg0 hr.units) (by rfl) T.n_repr (by decide +kernel) (pa_cons (pv 11) pa_nil)) (nomark _)) (pss_one (ps_ret pe_bl)) pss_nil)
        (pss_cons (ps_if (pt_cmpR op_ne (pe_callB (call_reprK K rfl hg0 hr.units) (by rfl) T.n_repr (by decide +kernel) (pa_cons (pe_lst (pa_cons (pe_calK Ktail (hr.mono (by decide)) pass0 (pk_cons (pv 6) pk_nil)) (pa_cons (pe_calK Kring (hr.mono (by decide)) pass0 (pk_cons (pv 6) pk_nil)) pa_nil))) pa_nil)) (pe_callB (call_reprK K rfl hg0 hr.units) (by rfl) T.n_repr (by decide +kernel) (pa_cons (pe_lst (pa_cons (pv 9) (pa_cons (pv 10) pa_nil))) pa_nil)) (nomark _)) (pss_one (ps_ret pe_bl)) pss_nil)
        (pss_cons (ps_set (i := 12) sclaw.nd rfl (Or.inl rfl) (pe_cal Crepeated (hr.mono (by decide)) passR (pa_cons (pv 3) (pa_cons (pv 5) (pa_cons pe_int (pa_cons pe_int pa_nil))))))
        (pss_one (ps_if (PW.pt (pw_or (pt_cmpR op_ne (pe_cmpR op_eq (pe_ix (ixT K rfl) (pv 12) pe_int (fun _ _ => rfl)) pe_int (nomark _)) (pe_cmpR op_eq (pv 10) pe_int (nomark _)) (nomark _)) (pw_or1 (pt_cmpR op_ne (pe_cmpR (eqDK K rfl hr.units) (pv 12) (pe_tup (pa_cons (pe_tup pa_nil) (pa_cons pe_int pa_nil))) (nomark _)) (pe_cmpR (eqDK K rfl hr.units) (pe_cal C_law_then (hr.mono (by decide)) pass0 (pa_cons (pv 6) (pa_cons (pv 6) pa_nil))) (pv 6) (nomark _)) (nomark _))))) (pss_one (ps_ret pe_bl)) pss_nil)))))))))))
        (pss_cons (ps_asg (pe_tup (pa_cons (pe_cal C_law_any (hr.mono (by decide)) pass0 (pa_cons (pv 1) (pa_cons pe_int pa_nil))) (pa_cons (pe_op op_add pe_int (pe_cal C_law_any (hr.mono (by decide)) pass0 (pa_cons (pv 1) (pa_cons pe_int pa_nil)))) (pa_cons (pe_cal C_law_any (hr.mono (by decide)) pass0 (pa_cons (pv 1) (pa_cons pe_int pa_nil))) (pa_cons (pe_cal C_law_any (hr.mono (by decide)) pass0 (pa_cons (pv 1) (pa_cons pe_int pa_nil))) pa_nil))))) (pg_tupK K rfl 4 rfl (pgs_cons (pg_name (i := 9) sclaw.nd rfl (Or.inl rfl)) (pgs_cons (pg_name (i := 10) sclaw.nd rfl (Or.inl rfl)) (pgs_cons (pg_name (i := 7) sclaw.nd rfl (Or.inl rfl)) (pgs_cons (pg_name (i := 8) sclaw.nd rfl (Or.inl rfl)) pgs_nil))))))
        (pss_cons (ps_set (i := 13) sclaw.nd rfl (Or.inl rfl) (pe_cal Crepeated_by (hr.mono (by decide)) pass0 (pa_cons (pv 9) (pa_cons (pv 10) (pa_cons (pv 7) (pa_cons (pv 8) pa_nil))))))
        (pss_cons (ps_if (PW.pt (pw_or (pt_not (pt_val (pe_callB (isiK1 K rfl) (by rfl) T.n_isinstance (by decide +kernel) (pa_cons (pv 13) (pa_cons (pe_bltn (v := .ty "tuple") (by rfl) T.n_tuple (by decide +kernel) rfl) pa_nil))))) (pw_or (pt_cmpR op_ne (pe_callB (lenK K rfl) (by rfl) T.n_len (by decide +kernel) (pa_cons (pv 13) pa_nil)) pe_int (nomark _)) (pw_or1 (pt_not (pt_val (pe_cal C_law_by_counts (hr.mono (by decide)) pass0 (pa_cons (pv 9) (pa_cons (pv 10) (pa_cons (pv 7) (pa_cons (pv 8) (pa_cons (pv 13) pa_nil)))))))))))) (pss_one (ps_ret pe_bl)) pss_nil)
        (pss_cons (ps_asg (pe_tup (pa_cons (pe_cal C_law_of (hr.mono (by decide)) pass0 (pa_cons (pv 1) (pa_cons (pe_lst (pa_cons (pe_un un_neg pe_int) (pa_cons pe_non (pa_cons pe_bl (pa_cons pe_str (pa_cons (pe_tup (pa_cons pe_int pa_nil)) pa_nil)))))) pa_nil))) (pa_cons (pe_cal C_law_bad_row (hr.mono (by decide)) pass0 (pa_cons (pv 1) (pa_cons (pe_callB (lenK K rfl) (by rfl) T.n_len (by decide +kernel) (pa_cons (pv 2) pa_nil)) (pa_cons (pv 5) pa_nil)))) pa_nil))) (pg_tupK K rfl 2 rfl (pgs_cons (pg_name (i := 14) sclaw.nd rfl (Or.inl rfl)) (pgs_cons (pg_tupK K rfl 2 rfl (pgs_cons (pg_name (i := 15) sclaw.nd rfl (Or.inl rfl)) (pgs_cons (pg_name (i := 16) sclaw.nd rfl (Or.inl rfl)) pgs_nil))) pgs_nil))))
        (pss_cons (ps_if (PW.pt (pw_or (pt_cmpR (neDK K rfl hr.units) (pe_cal C_law_asked (hr.mono (by decide)) pass0 (pa_cons (pv 3) (pa_cons (pv 15) (pa_cons (pv 14) (pa_cons (pv 14) pa_nil))))) (pe_tup (pa_cons pe_str (pa_cons (pv 16) pa_nil))) (nomark _)) (pw_or1 (pt_cmpR (neDK K rfl hr.units) (pe_cal C_law_asked (hr.mono (by decide)) pass0 (pa_cons (pv 3) (pa_cons (pv 5) (pa_cons (pv 14) (pa_cons (pe_cal C_law_of (hr.mono (by decide)) pass0 (pa_cons (pv 1) (pa_cons (pe_lst (pa_cons (pv 14) (pa_cons pe_int pa_nil))) pa_nil))) pa_nil))))) (pe_tup (pa_cons pe_str (pa_cons pe_int pa_nil))) (nomark _))))) (pss_one (ps_ret pe_bl)) pss_nil)
        (pss_one (ps_ret (pe_and (pe_cmpR (eqDK K rfl hr.units) (pe_cal C_law_asked (hr.mono (by decide)) pass0 (pa_cons (pv 3) (pa_cons (pv 5) (pa_cons (pe_cal C_law_any (hr.mono (by decide)) pass0 (pa_cons (pv 1) (pa_cons pe_int pa_nil))) (pa_cons (pv 14) pa_nil))))) (pe_tup (pa_cons pe_str (pa_cons pe_int pa_nil))) (nomark _)) (pe_one (pe_cmpR op_eq (pe_callB (call_reprK K rfl hg0 hr.units) (by rfl) T.n_repr (by decide +kernel) (pa_cons (pe_cal Crepeated_by (hr.mono (by decide)) pass0 (pa_cons (pv 9) (pa_cons (pv 10) (pa_cons (pv 7) (pa_cons (pv 8) pa_nil))))) pa_nil)) (pe_callB (call_reprK K rfl hg0 hr.units) (by rfl) T.n_repr (by decide +kernel) (pa_cons (pv 13) pa_nil)) (nomark _))))))))))))))), ?_⟩
  refine ⟨_, rfl, a, zs, rfl, hS, hz, fun d l H1 hd1 hl1 e1 hD1 => ?_⟩
  refine ⟨_, rfl, d, l, rfl, hD1, fun pS xs cs n H2 f2 nSd nSl hxs hC hT => ?_⟩
  dsimp only
  have hD2 := f2.deal hD1
  obtain ⟨hn0, hn24, hcs0, hcs10, hTc⟩ := id hT
  have hxl : xs.length = cs.length := paired_len hC
  refine ⟨_, rfl, pS, xs, rfl, .inl (sq_of hxs), ?_⟩
  refine ⟨_, rfl, pS, xs, cs, n, rfl, hxs, hC, hT, fun pT us H3 hpT e3 hus hul hrows => ?_⟩
  intro m dx hm hdx hne
  have hm2 : H2 m = none := fresh_back e3 hm
  have hdx2 : H2 dx = none := fresh_back e3 hdx
  have e4 : Ex H3 (upd (upd H3 dx (.own m)) m (.ins CM dx [])) := fun b o hb => by rw [upd_ne (ne_of_none hb hm), upd_ne (ne_of_none hb hdx)]; exact hb
  refine ⟨m, dx, pT, us, cs, n, by rw [hxl]; rfl, upd_same, e4 _ _ hus, hul, hT, fun s hs => let ⟨q, h1, h2⟩ := hrows s hs; ⟨q, h1, e4 _ _ h2⟩, fun H5 k5 hM5 => ⟨rfl, ?_⟩⟩
  have e5 : Ex H2 H5 := fun b o hb => k5 b o (ne_of_none hb hm2) (e4 _ _ (e3 _ _ hb))
  have hD5 := hD2.ex e5
  have hxs5 := e5 _ _ hxs
  have hC5 : Cols H5 xs cs := paired_mono (fun a b ⟨q, h1, h2⟩ => ⟨q, h1, e5 _ _ h2⟩) hC
  clear e4 k5 hrows hus hul hpT e3 hm hdx hne hm2 hdx2
  clear Krepeated_by Ktail Kring Crepeated C_law_asked C_law_draw C_law_pair_machine C_law_steps C_law_any C_law_of C_law_done C_law_times C_law_tail C_law_told_set C_law_rounds C_law_raised C_law_then C_law_bad_row C_law_by_counts Crepeated_by G_made B_made FM MM_made hr hg0 hS hz e1 hD1 f2 hxs hD2
  refine gn1 ?_
  dsimp only
  refine q_forR1 (n := 3) (fun H1 _ Q k => k H1 (Ex.refl _)) ⟨by omega, by omega⟩
    (fun i σ H' => ∃ y4 y5 y6 y7 y8 y9 y10 y11 y12 : Option V, σ = [some (.ref a), some (.ref d), some (.ref pS), some (.ref m), y4, y5, y6, y7, y8, y9, y10, y11, y12, none, none, none, none] ∧ Fd d l H5 H' ∧
      (0 < i → ∃ pr row, y5 = some (.ref pr) ∧ H' pr = some (.tup (nv row)) ∧ Below cs.length row ∧ row.length ≤ 100))
    (fun H1 e => ⟨_, _, _, _, _, _, _, _, _, rfl, Fd.of_ex e, fun h => absurd h (by omega)⟩) ?_ ?_
  · rintro i σ H' hi ⟨y4, y5, y6, y7, y8, y9, y10, y11, y12, rfl, F0, _⟩
    have D0 := F0.deal hD5
    have S0 : H' pS = some (.lst xs) := F0.keep _ _ nSd nSl hxs5
    have C0 : Cols H' xs cs := paired_mono (fun a b ⟨q, h1, h2⟩ => ⟨q, h1, F0.tup _ _ h2⟩) hC5
    have M0 := hM5.fd hD5 F0
    have hx0 : 0 < xs.length := by rw [hxl]; exact len_pos hcs0
    -- the row
    refine seq1 (asg1 (cb1 (lc_open ⟨_, rfl, d, l, 4, rfl, by decide, by decide, D0, fun r H6 hr F6 => ⟨(r : Nat), rfl, by omega, by omega, ?_⟩⟩)))
    have D6 := F6.deal D0
    refine lc_Rc (Fd.frame D6) (fun _ => true) (fun _ y => ∃ c : Nat, y = .int (c : Int) ∧ c < cs.length) (fun _ _ => False) (by omega) (fun x => rfl) (fun i H1 _ _ Qb k => tYes_go (Fd.frame D6) Qb k) (fun i H7 F7 _ _ Q k => ?_) (fun pl H8 ys hpl F8 hy pr => ?_)
    · exact ⟨_, rfl, _, rfl, pS, xs, rfl, .inl (sq_of (F7.keep _ _ nSd nSl (F6.keep _ _ nSd nSl S0))), d, l, xs.length, rfl, hx0, by omega, F7.deal D6, fun r2 H9 hr2 F9 => k _ H9 F9 (.inl ⟨r2, rfl, by omega⟩)⟩
    rw [filt_yes] at pr
    obtain ⟨row, rfl, hrl, hrow⟩ := paired_nats pr
    rw [List.length_range] at hrl
    have hrl2 : row.length ≤ 3 := by omega
    clear pr
    refine ⟨pl, _, rfl, .inl ⟨sq_of hy, fun pr hpr => ?_⟩⟩
    have F8' : Fd d l H' (upd H8 pr (.tup (nv row))) := (F6.trans F8).exd (Ex.new hpr)
    have hR8 : (upd H8 pr (.tup (nv row))) pr = some (.tup (nv row)) := upd_same
    generalize upd H8 pr (.tup (nv row)) = HA at F8' hR8
    clear hy hpr F8 F6 D6 hpl
    have DA := F8'.deal D0
    have hB : Below cs.length row := hrow
    have okB : ∀ {HH : Hp}, (∀ b ys, HA b = some (.tup ys) → HH b = some (.tup ys)) → OkRow HH (.ref pr) cs.length row := fun k => ⟨⟨pr, rfl, .inr (k _ _ hR8)⟩, hB, by omega⟩
    refine gn1 ?_
    dsimp only
    -- change, times, others
    have SA := F8'.keep _ _ nSd nSl S0
    have CA : Cols HA xs cs := paired_mono (fun a b ⟨q, h1, h2⟩ => ⟨q, h1, F8'.tup _ _ h2⟩) C0
    obtain ⟨hch, hcl⟩ := dn_ok hT hB
    obtain ⟨t, rg, hRh⟩ := rh_ex hch
    generalize hc : dn n cs row = c at hch hcl hRh
    refine seq1 ⟨_, rfl, _, rfl, pS, pr, xs, cs, n, row, rfl, SA, CA, hT, hR8, hB, by omega, fun pc HB eB hpc => ⟨_, rfl, d, l, rfl, DA.ex eB, fun x HC hx FC => ⟨_, rfl, d, l, rfl, FC.deal (DA.ex eB), fun y HD hy FD => ⟨_, _, _, rfl, ?_⟩⟩⟩⟩
    rw [hc] at hpc
    have FAD : Fd d l HA HD := (Fd.of_ex eB).trans (FC.trans FD)
    have F0D : Fd d l H' HD := F8'.trans FAD
    have DD := F0D.deal D0
    have hpcD := FD.tup _ _ (FC.tup _ _ hpc)
    have MD := M0.fd D0 F0D
    have kD : ∀ b ys, HA b = some (.tup ys) → HD b = some (.tup ys) := FAD.tup
    have ft : Fits (rb t rg x y) := rb_fits (by have := hRh.tl; omega) hRh.rho.1 (by have := hRh.rl; omega)
    clear hpc eB FC FD
    dsimp only
    -- first, length
    refine seq1 ⟨_, rfl, pc, c, t, rg, rfl, hpcD, hch, hRh, fun pt HE eE hpt => ⟨pt, _, rfl, st_of hpt, rfl, _, _, rfl, _, _, rfl, rfl, ?_⟩⟩
    dsimp only
    -- due
    refine seq1 ⟨_, rfl, _, rfl, pc, c, x, rfl, eE _ _ hpcD, hch, fun pa HF eF ha => ⟨_, rfl, _, rfl, pc, c, y, rfl, eF _ _ (eE _ _ hpcD), hch, fun pb HG eG hb => ⟨pa, pb, c, x, y, rfl, eG _ _ ha, hb, hch, fun v HI eI ⟨T0, R0, hz, hTR, hRnd⟩ =>
      ⟨v, _, T0, rb t rg x y, rfl, hRnd, by have := hz.1; simp [samev]; omega, by simpa [samev] using hTR, told_law hRh hz, fun vd HJ eJ hdue => ?_⟩⟩⟩⟩
    have eDJ : Ex HD HJ := eE.trans (eF.trans (eG.trans (eI.trans eJ)))
    clear hz hTR hRnd ha hb hpt
    refine gn1 ?_
    dsimp only
    -- repr(asked(..)) twice
    refine seq1 ⟨_, rfl, _, rfl, _, rfl, _, rfl, m, .ref pr, .int (x : Nat), .int (y : Nat), cs, n, rfl, MD.ex eDJ, hT, .inl ⟨row, okB fun b ys h => eDJ _ _ (kD _ _ h), .inl ⟨x, y, t, rg, rfl, rfl, hx, hy, by rw [hc]; exact hRh, fun v1 HK eK ht1 => ?_⟩⟩⟩
    dsimp only [tNil]
    show rRepr K [v1] HK _
    refine repr_told ht1 ft ?_
    refine ⟨_, rfl, ?_⟩
    dsimp only [tNil]
    show rRepr K [vd] HK _
    refine repr_told (hdue.tup fun b ys h => eK _ _ h) ft ?_
    refine ⟨rfl, false, by simp, ite_f ?_⟩
    have eDK := eDJ.trans eK
    refine ⟨_, rfl, _, rfl, pr, nv row, rfl, .inr (st_of (eDK _ _ (kD _ _ hR8))), fun pw2 hpw2 => ?_⟩
    have eL := Ex.new (o := .lst (nv row)) hpw2
    have eDL := eDK.trans eL
    refine ⟨_, rfl, _, rfl, m, .ref pw2, .int (y : Nat), .int (x : Nat), cs, n, rfl, MD.ex eDL, hT, .inl ⟨row, ⟨⟨pw2, rfl, .inl upd_same⟩, hB, by omega⟩, .inl ⟨y, x, t, rg, rfl, rfl, hy, hx, by rw [hc]; exact hRh, fun v2 HM eM ht2 => ?_⟩⟩⟩
    rw [rb_comm t rg y x] at ht2
    dsimp only [tNil]
    show rRepr K [v2] HM _
    refine repr_told ht2 ft ?_
    refine ⟨_, rfl, ?_⟩
    dsimp only [tNil]
    show rRepr K [vd] HM _
    refine repr_told (hdue.tup fun b ys h => eM _ _ (eL _ _ (eK _ _ h))) ft ?_
    refine ⟨rfl, false, by simp, ite_f (next1 ?_)⟩
    have eDM := eDL.trans eM
    have hdueM : Told HM vd (rb t rg x y) := hdue.tup fun b ys h => eM _ _ (eL _ _ (eK _ _ h))
    dsimp only
    -- repeated_by(..) by keywords
    refine seq1 ⟨_, rfl, _, rfl, _, rfl, _, rfl, rfl, t, rg, x, y, rfl, by have := hRh.tl; omega, hRh.rho.1, by have := hRh.rl; omega, hx, hy, fun v3 HN eN ht3 => ?_⟩
    have eDN := eDM.trans eN
    have hdueN := hdueM.tup fun b ys h => eN _ _ h
    dsimp only [tNil]
    show rRepr K [v3] HN _
    refine repr_told ht3 ft ?_
    refine ⟨_, rfl, ?_⟩
    dsimp only [tNil]
    show rRepr K [vd] HN _
    refine repr_told hdueN ft ?_
    refine ⟨rfl, false, by simp, ite_f (next1 ?_)⟩
    dsimp only
    -- [tail, ring]
    have htl := hRh.tl
    have hrl' := hRh.rl
    refine seq1 ⟨_, rfl, rfl, pc, c, t, rg, rfl, eDN _ _ hpcD, hch, hRh, fun HO eO => ⟨_, rfl, rfl, pc, c, t, rg, rfl, eO _ _ (eDN _ _ hpcD), hch, hRh, fun HP eP => ⟨sz_of (by simp), fun p7 hp7 => ?_⟩⟩⟩
    have e7 := Ex.new (o := .lst [.int (t : Nat), .int (rg : Nat)]) hp7
    have eD7 := eDN.trans (eO.trans (eP.trans e7))
    dsimp only [tNil]
    show rRepr K [.ref p7] _ _
    refine repr_pair upd_same (by omega) (by omega) ?_
    refine ⟨_, rfl, _, rfl, sz_of (by simp), fun p8 hp8 => ?_⟩
    have e8 := Ex.new (o := .lst [.int (t : Nat), .int (rg : Nat)]) hp8
    have eD8 := eD7.trans e8
    dsimp only [tNil]
    show rRepr K [.ref p8] _ _
    refine repr_pair upd_same (by omega) (by omega) ?_
    refine ⟨rfl, false, by simp, ite_f (next1 ?_)⟩
    dsimp only
    generalize upd (upd HP p7 (.lst [.int (t : Nat), .int (rg : Nat)])) p8 (.lst [.int (t : Nat), .int (rg : Nat)]) = HQ at eD8
    -- twice
    refine seq1 ⟨_, rfl, _, rfl, m, .ref pr, .int ((1 : Nat) : Int), .int ((2 : Nat) : Int), cs, n, rfl, MD.ex eD8, hT, .inl ⟨row, okB fun b ys h => eD8 _ _ (kD _ _ h), .inl ⟨1, 2, t, rg, rfl, rfl, by decide, by decide, by rw [hc]; exact hRh, fun vt HS eS ht => ?_⟩⟩⟩
    have eDS := eD8.trans eS
    refine gn1 ?_
    dsimp only
    obtain ⟨pt1, pt2, ut, rfl, hpt1, hpt2, hpt3⟩ := id ht
    refine ⟨_, rfl, pt1, _, 1, _, rfl, rfl, st_of hpt1, rfl, rfl, ?_⟩
    refine ⟨_, rfl, rfl, ?_⟩
    refine ⟨rfl, false, by rw [twice_end t hRh.rho.1]; simp, ite_f ?_⟩
    refine ⟨_, rfl, sz_of (by simp), fun p9 hp9 => ⟨sz_of (by simp), fun p10 hp10 => ?_⟩⟩
    have e9 := Ex.new (o := .tup []) hp9
    have e10 := Ex.new (o := .tup [.ref p9, .int 1]) hp10
    have eD10 := eDS.trans (e9.trans e10)
    refine ⟨tlD (rb t rg 1 2), .tuple [.tuple [], .int 1], told_dp (ht.tup fun b ys h => e10 _ _ (e9 _ _ h)), .tup (st_of upd_same) (.cons (.tup (st_of (e10 _ _ upd_same)) .nil) (.cons (.int 1) .nil)), (fit_tl _).shaped (by decide),
      (fit_tl ([], 1)).shaped (by decide), ?_⟩
    generalize upd (upd HS p9 (.tup [])) p10 (.tup [.ref p9, .int 1]) = HT at eD10
    have hpcT := eD10 _ _ hpcD
    refine ⟨_, rfl, _, rfl, pc, pc, c, c, rfl, st_of hpcT, st_of hpcT, hch.lt, by have := hch.le; omega, hpcT, fun p11 HU eU hp11 => ?_⟩
    refine ⟨_, rfl, tD (thn c c), tD c, dp_tD (st_of hp11), dp_tD (st_of (eU _ _ hpcT)), (fit_tD _).shaped (by decide), (fit_tD _).shaped (by decide), ?_⟩
    refine ⟨rfl, false, ?_, ite_f (next1 ?_)⟩
    · rw [eqv_tl, eqv_tD, show decide (rb t rg 1 2 = ([], 1)) = decide (thn c c = c) from decide_eq_decide.mpr (twice_idem hRh hch)]
      simp
    · have eDU := eD10.trans eU
      exact ⟨_, _, _, _, _, _, _, _, _, rfl, (F0.trans F0D).exd eDU, fun _ => ⟨pr, row, rfl, eDU _ _ (kD _ _ hR8), hB, by omega⟩⟩
  · rintro σ H' ⟨y4, y5, y6, y7, y8, y9, y10, y11, y12, rfl, F0, hrow⟩
    obtain ⟨pr, row, rfl, hR, hB, hrl⟩ := hrow (by decide)
    have D0 := F0.deal hD5
    have S0 : H' pS = some (.lst xs) := F0.keep _ _ nSd nSl hxs5
    have M0 := hM5.fd hD5 F0
    refine seq1 ⟨_, rfl, d, l, 9, rfl, by decide, by decide, D0, fun t H1 ht F1 => ⟨_, rfl, d, l, 12, rfl, by decide, by decide, F1.deal D0, fun r H2 hr F2 => ⟨1, (r : Nat), rfl, rfl, _, rfl, d, l, 6, rfl, by decide, by decide, F2.deal (F1.deal D0), fun x H3 hx F3 =>
      ⟨_, rfl, d, l, 6, rfl, by decide, by decide, F3.deal (F2.deal (F1.deal D0)), fun y H4 hy F4 => ⟨sz_of (by simp), fun pu hpu => ⟨pu, _, rfl, st_of upd_same, rfl, _, _, rfl, _, _, rfl, _, _, rfl, _, _, rfl, rfl, ?_⟩⟩⟩⟩⟩⟩
    dsimp only
    rw [show (1 : Int) + ((r : Nat) : Int) = ((1 + r : Nat) : Int) by omega]
    have FX : Fd d l H' (upd H4 pu (.tup [.int (t : Nat), .int ((1 + r : Nat) : Int), .int (x : Nat), .int (y : Nat)])) := (F1.trans (F2.trans (F3.trans F4))).exd (Ex.new hpu)
    generalize upd H4 pu (.tup [.int (t : Nat), .int ((1 + r : Nat) : Int), .int (x : Nat), .int (y : Nat)]) = HX at FX
    clear F1 F2 F3 F4 hpu
    have DX := FX.deal D0
    have MX := M0.fd D0 FX
    have SX := FX.keep _ _ nSd nSl S0
    have RX := FX.tup _ _ hR
    refine seq1 ⟨_, rfl, _, rfl, _, rfl, _, rfl, t, 1 + r, x, y, rfl, by omega, by omega, by omega, by omega, by omega, fun v HY eY ht1 => ?_⟩
    refine gn1 ?_
    dsimp only
    have ft : Fits (rb t (1 + r) x y) := rb_fits (by omega) (by omega) (by omega)
    obtain ⟨p1, p2, us1, rfl, hp1, hp2, hp3⟩ := id ht1
    refine seq1 ⟨_, rfl, _, _, _, _, true, rfl, .ty _, SqT.ty (st_of hp1), kit_ty (by decide +kernel), true, rfl, ite_f ?_⟩
    refine ⟨_, rfl, p1, _, rfl, .inr (st_of hp1), rfl, false, by simp, ite_f ?_⟩
    refine ⟨_, rfl, _, rfl, _, rfl, _, rfl, _, rfl, t, 1 + r, x, y, .ref p1, rb t (1 + r) x y, rfl, by omega, by omega, by omega, ht1, fun sm hsm => ⟨(ft.2.2 sm hsm).1, by have := (ft.2.2 sm hsm).2.2; omega⟩, by have := ft.2.1; omega, fun n _ => mem_due (by omega), fun HZ eZ => ⟨true, rfl, ite_f (next1 ?_)⟩⟩
    have eXZ := eY.trans eZ
    have FZ := FX.exd eXZ
    have DZ := FZ.deal D0
    have MZ := MX.ex eXZ
    have SZ := eXZ _ _ SX
    have RZ := eXZ _ _ RX
    have htZ : Told HZ (.ref p1) (rb t (1 + r) x y) := ht1.tup fun b ys h => eZ _ _ h
    clear ht1 hp1 hp2 hp3 eZ eY eXZ SX RX MX DX FX
    dsimp only
    -- odd, (bad, at)
    refine seq1 ⟨_, rfl, 1, rfl, sz_of (by simp), fun pq hpq => ⟨sz_of (by simp), fun pl hpl => ?_⟩⟩
    have eq1 := Ex.new (o := .tup [.int 1]) hpq
    have eq2 := Ex.new (o := .lst [.int (-1), .non, .bl true, .str "1", .ref pq]) hpl
    have ePl := eq1.trans eq2
    have hpq1 : (upd HZ pq (.tup [.int 1])) pq = some (.tup [.int 1]) := upd_same
    have nl := (DZ.ex eq1).new hpl
    have hq0 := eq2 _ _ hpq1
    refine ⟨d, l, pl, _, rfl, DZ.ex ePl, upd_same, nl.1, nl.2, by simp, by simp, fun od H6 hod F6 => ?_⟩
    have hq6 : H6 pq = some (.tup [.int 1]) := F6.tup _ _ hq0
    have DP := DZ.ex ePl
    have D6 := F6.deal DP
    have M6 := (MZ.ex ePl).fd DP F6
    have S6 := F6.keep _ _ nSd nSl (ePl _ _ SZ)
    have R6 := F6.tup _ _ (ePl _ _ RZ)
    have k6 : ∀ b ys, HZ b = some (.tup ys) → H6 b = some (.tup ys) := fun b ys h => F6.tup _ _ (ePl _ _ h)
    refine ⟨_, rfl, _, rfl, pS, xs, rfl, .inl (sq_of S6), _, rfl, d, l, xs.length, pr, row, rfl, D6, R6, by rw [hxl]; exact hB, hrl, fun pb bad at' H7 F7 hpb hbad => ⟨sz_of (by simp), fun pv2 hpv => ?_⟩⟩
    rw [hxl] at hbad
    refine ⟨pv2, _, rfl, st_of upd_same, rfl, _, _, rfl, _, _, rfl, pb, _, rfl, st_of (Ex.new hpv _ _ hpb), rfl, _, _, rfl, _, _, rfl, rfl, rfl, ?_⟩
    have e8 := Ex.new (o := .tup [od, .ref pb]) hpv
    have F8 := F7.exd e8
    have D8 := F8.deal D6
    have M8 := M6.fd D6 F8
    have R8 := F8.tup _ _ R6
    have k8 : ∀ b ys, HZ b = some (.tup ys) → (upd H7 pv2 (.tup [od, .ref pb])) b = some (.tup ys) := fun b ys h => F8.tup _ _ (k6 _ _ h)
    have q8 := F8.tup _ _ hq6
    have bad8 := hbad.ex e8
    generalize upd H7 pv2 (.tup [od, .ref pb]) = H8 at D8 M8 R8 k8 q8 bad8
    clear F8 e8 hpv hpb hbad F7 D6 M6 S6 R6 k6 hq6 F6 DP hq0 nl hpq1 ePl eq2 eq1 hpq hpl
    dsimp only
    -- asked(bad, odd, odd), asked(row, odd, ..)
    refine seq1 ⟨_, rfl, _, rfl, _, rfl, _, rfl, m, bad, od, od, cs, n, rfl, M8, hT, .inr ⟨at', bad8, fun pA H9 e9 hpA => ⟨_, rfl, sz_of (by simp), fun pB hpB => ?_⟩⟩⟩
    have eB := Ex.new (o := .tup [.str "row", .int (at' : Nat)]) hpB
    refine ne_two (eB _ _ hpA) upd_same (by decide +kernel) ⟨false, rfl, ite_f ?_⟩
    have e10 := e9.trans eB
    have D10 := D8.ex e10
    have M10 := M8.ex e10
    have R10 := e10 _ _ R8
    have q10 := e10 _ _ q8
    have k10 : ∀ b ys, HZ b = some (.tup ys) → (upd H9 pB (.tup [.str "row", .int (at' : Nat)])) b = some (.tup ys) := fun b ys h => e10 _ _ (k8 _ _ h)
    generalize upd H9 pB (.tup [.str "row", .int (at' : Nat)]) = H10 at D10 M10 R10 q10 k10
    clear e9 eB hpA hpB e10
    refine ⟨_, rfl, _, rfl, _, rfl, _, rfl, _, rfl, sz_of (by simp), fun pC hpC => ?_⟩
    have eC := Ex.new (o := .lst [od, .int 1]) hpC
    have nC := D10.new hpC
    refine ⟨d, l, pC, _, rfl, D10.ex eC, upd_same, nC.1, nC.2, by simp, by simp, fun o2 H11 _ F11 => ?_⟩
    have D11 := F11.deal (D10.ex eC)
    have M11 := (M10.ex eC).fd (D10.ex eC) F11
    have k11 : ∀ b ys, HZ b = some (.tup ys) → H11 b = some (.tup ys) := fun b ys h => F11.tup _ _ (eC _ _ (k10 _ _ h))
    have R11 := F11.tup _ _ (eC _ _ R10)
    have q11 := F11.tup _ _ (eC _ _ q10)
    have o11 := odd_pln (K := K) q11 hod
    refine ⟨m, .ref pr, od, o2, cs, n, rfl, M11, hT, .inl ⟨row, ⟨⟨pr, rfl, .inr R11⟩, hB, hrl⟩, .inr (.inl ⟨o11.1, o11.2, fun pE H12 e12 hpE => ⟨sz_of (by simp), fun pF hpF => ?_⟩⟩)⟩⟩
    have eF := Ex.new (o := .tup [.str "question", .int 2]) hpF
    refine ne_two (eF _ _ hpE) upd_same (by decide +kernel) ⟨false, rfl, ite_f (next1 ?_)⟩
    have e13 := e12.trans eF
    have D13 := D11.ex e13
    have M13 := M11.ex e13
    have R13 := e13 _ _ R11
    have q13 := e13 _ _ q11
    have k13 : ∀ b ys, HZ b = some (.tup ys) → (upd H12 pF (.tup [.str "question", .int 2])) b = some (.tup ys) := fun b ys h => e13 _ _ (k11 _ _ h)
    generalize upd H12 pF (.tup [.str "question", .int 2]) = H13 at D13 M13 R13 q13 k13
    clear e12 eF hpE hpF e13 F11
    dsimp only
    -- the end
    refine ret1 ⟨_, rfl, _, rfl, _, rfl, d, l, 3, rfl, by decide, by decide, D13, fun k3 H14 hk3 F14 => ⟨_, rfl, m, .ref pr, .int (k3 : Nat), od, cs, n, rfl, M13.fd D13 F14, hT, .inl ⟨row, ⟨⟨pr, rfl, .inr (F14.tup _ _ R13)⟩, hB, hrl⟩, .inr (.inr ⟨k3, rfl, ?_⟩)⟩⟩⟩
    have o14 := odd_pln (K := K) (F14.tup _ _ q13) hod
    refine ⟨o14.1, o14.2, fun pG H15 e15 hpG => ⟨sz_of (by simp), fun pI hpI => ?_⟩⟩
    have eI := Ex.new (o := .tup [.str "question", .int 3]) hpI
    refine eq_two (eI _ _ hpG) upd_same (by decide +kernel) ⟨true, rfl, ?_⟩
    have k15 : ∀ b ys, HZ b = some (.tup ys) → (upd H15 pI (.tup [.str "question", .int 3])) b = some (.tup ys) := fun b ys h => eI _ _ (e15 _ _ (F14.tup _ _ (k13 _ _ h)))
    have ht15 := htZ.tup k15
    refine ⟨_, rfl, _, rfl, _, rfl, _, rfl, t, 1 + r, x, y, rfl, by omega, by omega, by omega, by omega, by omega, fun v9 H16 e16 ht16 => ?_⟩
    dsimp only [tNil]
    show rRepr K [v9] H16 _
    refine repr_told ht16 ft ?_
    refine ⟨_, rfl, ?_⟩
    dsimp only [tNil]
    show rRepr K [.ref p1] H16 _
    refine repr_told (ht15.tup fun b ys h => e16 _ _ h) ft ?_
    exact ⟨rfl, by simp⟩
/-- the law's own call answers True -/
theorem law_true (T : Txt K mg) (U : Cls4 P K mg CM CR CQ) {f a : Addr} {s : Shared} {H : Hp} {zs : List Int} (hf : mg "law" = some (.ref f)) (hS : SqL K H a (zs.map V.int)) (hz : zs.length ≤ 63) (e0 : Env0 P w K mg base callerA [] s H) :
    codeAny (model P w) callerA (.call (.ref f) ⟨[.ref a], []⟩) (L2.CR CX0 [] P w H s (fun v _ => v = .bl true) E0) s := by
  obtain ⟨f', fd, hm, F⟩ := T.law.ex
  rw [hf] at hm
  cases hm
  have hb := FunD.bindsA (ps := ["_law_script"]) F fun _ _ _ _ _ _ us hl => match us, hl with | [_], _ => rfl
  exact run_at (us := [.ref a]) (vs := [.ref a]) F sclaw rfl (by decide) e0 (hb s [.ref a] rfl) (.cons rfl .nil) rfl fun cdv => law_reads T U hS hz
end
end Kx
namespace Kx
open PySem PySem.Spec PySem.W PySem.Calls PyProof.Rows PySem.HandSPX
open L2 (defArgs defBody defScope inClass)

/-! ### an error class, told by Booleans -/
def clsB (K : PySem.W.Frag) (C : Addr) : Bool := match K.lookup C with
  | some ⟨.type "type", _, .cls cd, sl⟩ => (match cd.mro, sl.toList with
    | .ref C1 :: bm, [_, _, _, _, some (.builtin n), _] => (C1 == C) && ((n == "ValueError.__new__") && ((!cd.hasDel) && (cd.hasDict && refsVE bm)))
    | _, _ => false)
  | _ => false
theorem clsB_ok {K : PySem.W.Frag} {C : Addr} (h : clsB K C = true) :
    ∃ nm q N bs bm sn sub ab col dd k0 k1 k2 k3 k5, K.lookup C = some (excClassObj nm q C N bs bm true sn sub ab col dd k0 k1 k2 k3 k5 "ValueError.__new__") ∧ refsVE bm = true := by
  unfold clsB at h
  split at h
  · rename_i dd cd sl ho
    split at h
    · rename_i C1 bm k0 k1 k2 k3 n k5 hm hs
      simp only [Bool.and_eq_true, beq_iff_eq, Bool.not_eq_true'] at h
      obtain ⟨rfl, rfl, hdel, hdict, hve⟩ := h
      obtain ⟨nm, bs, mro, ns, qn, hd, sn, sub, ab, col, del⟩ := cd
      dsimp only at hm hdel hdict
      subst hm hdel hdict
      obtain ⟨sll⟩ := sl
      obtain rfl : sll = _ := hs
      exact ⟨nm, qn, ns, bs, bm, sn, sub, ab, col, dd, k0, k1, k2, k3, k5, ho, hve⟩
    · cases h
  · cases h
/-- its __init__ -/
def cellB (K : PySem.W.Frag) (cc C : Addr) : Bool := match K.lookup cc with
  | some ⟨_, _, .cell (some (.ref C1)), _⟩ => C1 == C
  | _ => false
def fileB (P : Program) (K : PySem.W.Frag) (cda : Addr) : Bool := match K.lookup cda with
  | some ⟨_, _, .fields vs, _⟩ => (match (vs[2]? : Option Value) with
    | some (Value.str file _) => (P.main.file : Str) == file
    | _ => false)
  | _ => false
def iniB (P : Program) (K : PySem.W.Frag) (C fI : Addr) : Bool := match K.lookup fI with
  | some ⟨_, _, .func fd, _⟩ => (match fd.closure, fd.defaults, fd.kwdefaults, fd.code with
    | [(x, cc)], .none, .none, .ref cda => decide (x = ("__class__" : Str)) && (codeIn K (.ref cda) fd.qualname && (cellB K cc C && fileB P K cda))
    | _, _, _, _ => false)
  | _ => false
abbrev InV : Type := Option (Str × Arguments × FuncBody × Scope × Addr × Addr)
def iniV (K : PySem.W.Frag) (fI : Addr) : InV := match K.lookup fI with
  | some ⟨_, _, .func fd, _⟩ => some (fd.name, fd.params, fd.body, fd.scope, fd.globals, fd.builtins)
  | _ => none
def iniW (st : Stmt) : InV := some ("__init__", defArgs st, .stmts (defBody st), defScope st, mainGlobals, builtinsNs)
theorem ini_ok {P : Program} {K : PySem.W.Frag} {C fI : Addr} {st : Stmt} (h : iniB P K C fI = true) (e : iniV K fI = iniW st) :
    ∃ (qual : Str) (oc : Value) (od : Option Addr) (doc pm : Value) (an : Option Addr) (cda : Addr) (ct : Value) (cc : Addr) (osl : Array (Option Value)) (ccl : Value) (cdd : Option Addr) (vs : Array Value) (ccs : Array (Option Value)) (file : Str) (tf : Tok) (cl : Value) (cld : Option Addr) (csl : Array (Option Value)),
    K.lookup fI = some ⟨oc, od, .func (ksFn "__init__" qual (defArgs st) (defBody st) (defScope st) .none .none doc pm an (.ref cda) ct cc), osl⟩ ∧ codeIn K (.ref cda) qual = true ∧
    K.lookup cda = some ⟨ccl, cdd, .fields vs, ccs⟩ ∧ vs[2]? = some (.str file tf) ∧ ((P.main.file : Str) == file) = true ∧ K.lookup cc = some ⟨cl, cld, .cell (some (.ref C)), csl⟩ := by
  unfold iniB at h
  unfold iniV at e
  split at h
  · rename_i oc od fd osl ho
    rw [ho] at e
    split at h
    · rename_i x cc cda hc hd hk hcd
      obtain ⟨n1, n2, n3, n4, n5, n6, n7, n8, n9, n10, n11, n12, n13, n14, n15⟩ := fd
      dsimp only at hc hd hk hcd e h
      subst hc hd hk hcd
      have e2 : (some (n1, n3, n4, n5, n6, n15) : InV) = some (("__init__" : Str), defArgs st, FuncBody.stmts (defBody st), defScope st, mainGlobals, builtinsNs) := e
      simp only [Option.some.injEq, Prod.mk.injEq] at e2
      obtain ⟨rfl, rfl, rfl, rfl, rfl, rfl⟩ := e2
      simp only [Bool.and_eq_true] at h
      obtain ⟨hx, hq, hce, hfi⟩ := h
      obtain rfl := of_decide_eq_true hx
      unfold cellB at hce
      unfold fileB at hfi
      split at hce
      · rename_i cl cld C1 csl hcc
        obtain rfl := beq_iff_eq.mp hce
        split at hfi
        · rename_i ccl cdd vs ccs hco
          split at hfi
          · rename_i file tf hvs
            exact ⟨n2, oc, od, n10, n11, n12, cda, n14, cc, osl, ccl, cdd, vs, ccs, file, tf, cl, cld, csl, ho, hq, hco, hvs, hfi, hcc⟩
          · cases hfi
        · cases hfi
      · cases hce
    · cases h
  · cases h
def eqT (a b : Option Value) : Bool := decide (a = b)
def errB (P : Program) (K : PySem.W.Frag) (C f : Addr) : Bool :=
  clsB K C && (He.eqO (findIn K (.ref C) "__setattr__") (some (some (.builtin "object.__setattr__"))) && (He.eqO (findIn K (.ref C) "__getattribute__") (some (some (.builtin "BaseException.__getattribute__"))) && (He.eqO (findIn K (.ref C) "__getattr__") (some none) &&
  (He.eqO (findIn K (.ref C) "at") (some none) && (He.eqO (findIn K (.ref C) "__init__") (some (some (.ref f))) && (decide (typeIn K (.ref f) = some (.type "function")) && (keepIn K (.ref C) && (decide (subIn K (.ref C) (.type "BaseException") = some true) &&
  (decide (subIn K (.ref C) (.type "ValueError") = some true) && (decide (typeIn K (.ref C) = some (.type "type")) && (hasDictIn K C && (decide (mroIn K C (.ref C) = some true) && (He.eqO (ks_superIn K C C "__init__") (some (some (.builtin "ValueError.__init__"))) &&
  (He.eqO (nsIn K cStatics "thirdparty.any") (some none) && iniB P K C f))))))))))))))
theorem err_ok {P : Program} {K : PySem.W.Frag} {mg : Str → Option Value} {nm : String} {C f : Addr} {st : Stmt} (h : errB P K C f = true) (e : iniV K f = iniW st) (g : mg nm = some (.ref C)) (gs : mg "super" = none) : ErrTxt P K mg nm C f st := by
  obtain ⟨h1, h⟩ := He.ba h
  obtain ⟨h2, h⟩ := He.ba h
  obtain ⟨h3, h⟩ := He.ba h
  obtain ⟨h4, h⟩ := He.ba h
  obtain ⟨h5, h⟩ := He.ba h
  obtain ⟨h6, h⟩ := He.ba h
  obtain ⟨h7, h⟩ := He.ba h
  obtain ⟨h8, h⟩ := He.ba h
  obtain ⟨h9, h⟩ := He.ba h
  obtain ⟨h10, h⟩ := He.ba h
  obtain ⟨h11, h⟩ := He.ba h
  obtain ⟨h12, h⟩ := He.ba h
  obtain ⟨h13, h⟩ := He.ba h
  obtain ⟨h14, h⟩ := He.ba h
  obtain ⟨h15, h16⟩ := He.ba h
  exact ⟨g, clsB_ok h1, He.eqO_ok h2, He.eqO_ok h3, He.eqO_ok h4, He.eqO_ok h5, He.eqO_ok h6, of_decide_eq_true h7, h8, of_decide_eq_true h9, of_decide_eq_true h10, of_decide_eq_true h11, h12, of_decide_eq_true h13, He.eqO_ok h14, He.eqO_ok h15, gs, ini_ok h16 e⟩
/-! ### what is looked at -/
def mkD (x : Str) (st : Stmt) : He.DefD := ⟨(x, none), x, x, defArgs st, defBody st, defScope st, [], []⟩
def mkM (m q : Str) (st : Stmt) : He.DefD := ⟨("Machine", some m), m, q, defArgs st, defBody st, defScope st, [], []⟩
def faL0 : List He.Fa := [.glo "is_integer", .glo "is_number", .glo "is_index", .glo "is_sequence", .glo "common_divisor", .glo "common_multiple", .glo "checked_row", .glo "checked_change", .glo "idle", .glo "after", .glo "size_of", .glo "checked", .glo "tail_and_ring", .glo "tail", .glo "ring", .glo "change_of", .glo "from_on", .glo "repeated_by", .glo "repeated", .glo "_law_draw", .glo "_law_any", .glo "_law_of", .glo "_law_mixed", .glo "_law_then", .glo "_law_power"]
def faL1 : List He.Fa := [.glo "_law_done", .glo "_law_place", .glo "_law_two", .glo "_law_members", .glo "_law_falling", .glo "_law_columns", .glo "_law_machine", .glo "_law_steps", .glo "_law_rounds", .glo "_law_alike", .glo "_law_told_set", .glo "_law_tail", .glo "_law_bad_row", .glo "_law_pair_machine", .glo "_law_asked", .glo "_law_times", .glo "_law_raised", .glo "_law_by_counts", .glo "law", .glo "Machine", .glo "InvalidRow", .glo "InvalidQuestion", .free "abs", .free "int", .free "list"]
def faL2 : List He.Fa := [.free "tuple", .free "bool", .free "len", .free "range", .free "enumerate", .free "max", .free "min", .free "all", .free "isinstance", .free "repr", .free "sum", .free "super", .cls "Machine", .noat "Machine" "commands", .noat "Machine" "states", .noat "Machine" "steps", .noat "Machine" "_found", .mkr "Machine", .meth "Machine" "does", .exm "InvalidRow" "InvalidRow" true, .exm "InvalidQuestion" "InvalidRow" false, .exm "InvalidQuestion" "InvalidQuestion" true]
def faL : List He.Fa := faL0 ++ faL1 ++ faL2

def fnL0 : List He.DefD := [mkD "is_integer" (top 7), mkD "is_number" (top 8), mkD "is_index" (top 9), mkD "is_sequence" (top 10), mkD "common_divisor" (top 11), mkD "common_multiple" (top 12), mkD "checked_row" (top 15), mkD "checked_change" (top 17), mkD "idle" (top 18), mkD "after" (top 19), mkD "size_of" (top 20), mkD "checked" (top 21), mkD "tail_and_ring" (top 22), mkD "tail" (top 23), mkD "ring" (top 24), mkD "change_of" (top 25), mkD "from_on" (top 27), mkD "repeated_by" (top 29), mkD "repeated" (top 30), mkD "_law_draw" (top 32), mkD "_law_any" (top 33), mkD "_law_of" (top 34), mkD "_law_mixed" (top 35), mkD "_law_then" (top 36), mkD "_law_power" (top 37)]
def fnL1 : List He.DefD := [mkD "_law_done" (top 38), mkD "_law_place" (top 39), mkD "_law_two" (top 40), mkD "_law_members" (top 41), mkD "_law_falling" (top 42), mkD "_law_columns" (top 43), mkD "_law_machine" (top 44), mkD "_law_steps" (top 45), mkD "_law_rounds" (top 46), mkD "_law_alike" (top 47), mkD "_law_told_set" (top 48), mkD "_law_tail" (top 49), mkD "_law_bad_row" (top 50), mkD "_law_pair_machine" (top 51), mkD "_law_asked" (top 52), mkD "_law_times" (top 53), mkD "_law_raised" (top 54), mkD "_law_by_counts" (top 55), mkD "law" (top 56), mkM "__init__" "Machine.__init__" (inClass (top 14) 0), mkM "does" "Machine.does" (inClass (top 14) 3)]
def fnL : List He.DefD := fnL0 ++ fnL1

def nms0 : List PySem.Str := ["BodyError", "InvalidMachine", "InvalidRow", "InvalidChange", "InvalidQuestion", "is_integer", "is_number", "is_index", "is_sequence", "common_divisor", "common_multiple", "Machine", "checked_row", "checked_change", "idle", "after", "size_of", "checked", "tail_and_ring", "tail", "ring", "change_of", "from_on", "repeated_by", "repeated"]
def nms1 : List PySem.Str := ["_law_draw", "_law_any", "_law_of", "_law_mixed", "_law_then", "_law_power", "_law_done", "_law_place", "_law_two", "_law_members", "_law_falling", "_law_columns", "_law_machine", "_law_steps", "_law_rounds", "_law_alike", "_law_told_set", "_law_tail", "_law_bad_row", "_law_pair_machine", "_law_asked", "_law_times", "_law_raised", "_law_by_counts"]
def nms : List PySem.Str := nms0 ++ nms1

def esL : List (Str × Stmt) := [("InvalidRow", inClass (top 3) 0), ("InvalidQuestion", inClass (top 5) 0)]
def eAd (K : PySem.W.Frag) (x : Str) : Addr := He.ma K (He.ga K x) "__init__"
abbrev AlE : Type := He.AlD × (Bool × List InV)
def obsE (K : PySem.W.Frag) : AlE := (He.obsD faL fnL K, (esL.all fun x => errB PRG K (He.ga K x.1) (eAd K x.1)), esL.map fun x => iniV K (eAd K x.1))
def valE : AlE := (He.valD fnL, true, esL.map fun x => iniW x.2)
def SaysE (K : PySem.W.Frag) : Prop := obsE K = valE
def obsEG (g : Addr → Option Obj) : AlE := obsE (He.frG g (cStatics :: He.asD g 5))
def hookE : PySem.W.Hook where
  α := AlE
  obs := fun s => obsEG s.heap.get?
  val := fun _ => valE
  says := fun _ h => ∃ K : PySem.W.Frag, K.In h ∧ SaysE K
  of := fun _ _ e => ⟨_, He.frG_in, e⟩
  keeps := fun _ _ _ ⟨K, hK, c⟩ k => ⟨K, PySem.W.Frag.In.keeps hK k, c⟩
def obE (s : PySem.W.SharedT) : AlE := obsEG (HandSHeadRun.getT s)
theorem obE_eq (s : PySem.W.SharedT) : obE s = hookE.obs s.abs := by
  have e : HandSHeadRun.getT s = s.abs.heap.get? := funext (HandSHeadRun.getT_eq s)
  show obsEG (HandSHeadRun.getT s) = obsEG s.abs.heap.get?
  rw [e]
abbrev ROW : OpenRow := OpenLaw.row PySem.Challenge.rw_bodyforbody_k13_whole_bodies_done_severa
def qv : Program := view ROW.prog [56]
theorem run_top (w : World) : HandSHeadRun.RunEq ROW qv hookE obE 6000 nms w := by
  intro os
  kernel_rfl
theorem facts_of {K : PySem.W.Frag} {h : Heap} {mg : Str → Option Value} (X : K.In h) (G : h.Ns mainGlobals mg) (c : SaysE K) :
    Txt K mg ∧ Cls4 PRG K mg (He.ga K "Machine") (He.ga K "InvalidRow") (He.ga K "InvalidQuestion") := by
  have c1 : He.SaysD faL fnL K := congrArg (fun z : AlE => z.1) c
  have c2 : (esL.all fun x => errB PRG K (He.ga K x.1) (eAd K x.1)) = true := congrArg (fun z : AlE => z.2.1) c
  have c3 : (esL.map fun x => iniV K (eAd K x.1)) = esL.map fun x => iniW x.2 := congrArg (fun z : AlE => z.2.2) c
  obtain ⟨b1, c2⟩ := He.ba (show (errB PRG K (He.ga K "InvalidRow") (eAd K "InvalidRow") && (errB PRG K (He.ga K "InvalidQuestion") (eAd K "InvalidQuestion") && true)) = true from c2)
  obtain ⟨b2, _⟩ := He.ba c2
  have c3' : [iniV K (eAd K "InvalidRow"), iniV K (eAd K "InvalidQuestion")] = [iniW (inClass (top 3) 0), iniW (inClass (top 5) 0)] := c3
  injection c3' with d1 c3'
  injection c3' with d2 _
  have gs : mg "super" = none := He.free_ok X G (c1.fact 61 (f := .free "super") rfl)
  refine ⟨⟨
    ⟨⟨_, _, He.glo_ok X G (c1.fact 0 (f := .glo "is_integer") rfl), (c1.def_ 0 (d := mkD "is_integer" (top 7)) rfl).choose_spec⟩⟩,
    ⟨⟨_, _, He.glo_ok X G (c1.fact 1 (f := .glo "is_number") rfl), (c1.def_ 1 (d := mkD "is_number" (top 8)) rfl).choose_spec⟩⟩,
    ⟨⟨_, _, He.glo_ok X G (c1.fact 2 (f := .glo "is_index") rfl), (c1.def_ 2 (d := mkD "is_index" (top 9)) rfl).choose_spec⟩⟩,
    ⟨⟨_, _, He.glo_ok X G (c1.fact 3 (f := .glo "is_sequence") rfl), (c1.def_ 3 (d := mkD "is_sequence" (top 10)) rfl).choose_spec⟩⟩,
    ⟨⟨_, _, He.glo_ok X G (c1.fact 4 (f := .glo "common_divisor") rfl), (c1.def_ 4 (d := mkD "common_divisor" (top 11)) rfl).choose_spec⟩⟩,
    ⟨⟨_, _, He.glo_ok X G (c1.fact 5 (f := .glo "common_multiple") rfl), (c1.def_ 5 (d := mkD "common_multiple" (top 12)) rfl).choose_spec⟩⟩,
    ⟨⟨_, _, He.glo_ok X G (c1.fact 6 (f := .glo "checked_row") rfl), (c1.def_ 6 (d := mkD "checked_row" (top 15)) rfl).choose_spec⟩⟩,
    ⟨⟨_, _, He.glo_ok X G (c1.fact 7 (f := .glo "checked_change") rfl), (c1.def_ 7 (d := mkD "checked_change" (top 17)) rfl).choose_spec⟩⟩,
    ⟨⟨_, _, He.glo_ok X G (c1.fact 8 (f := .glo "idle") rfl), (c1.def_ 8 (d := mkD "idle" (top 18)) rfl).choose_spec⟩⟩,
    ⟨⟨_, _, He.glo_ok X G (c1.fact 9 (f := .glo "after") rfl), (c1.def_ 9 (d := mkD "after" (top 19)) rfl).choose_spec⟩⟩,
    ⟨⟨_, _, He.glo_ok X G (c1.fact 10 (f := .glo "size_of") rfl), (c1.def_ 10 (d := mkD "size_of" (top 20)) rfl).choose_spec⟩⟩,
    ⟨⟨_, _, He.glo_ok X G (c1.fact 11 (f := .glo "checked") rfl), (c1.def_ 11 (d := mkD "checked" (top 21)) rfl).choose_spec⟩⟩,
    ⟨⟨_, _, He.glo_ok X G (c1.fact 12 (f := .glo "tail_and_ring") rfl), (c1.def_ 12 (d := mkD "tail_and_ring" (top 22)) rfl).choose_spec⟩⟩,
    ⟨⟨_, _, He.glo_ok X G (c1.fact 13 (f := .glo "tail") rfl), (c1.def_ 13 (d := mkD "tail" (top 23)) rfl).choose_spec⟩⟩,
    ⟨⟨_, _, He.glo_ok X G (c1.fact 14 (f := .glo "ring") rfl), (c1.def_ 14 (d := mkD "ring" (top 24)) rfl).choose_spec⟩⟩,
    ⟨⟨_, _, He.glo_ok X G (c1.fact 15 (f := .glo "change_of") rfl), (c1.def_ 15 (d := mkD "change_of" (top 25)) rfl).choose_spec⟩⟩,
    ⟨⟨_, _, He.glo_ok X G (c1.fact 16 (f := .glo "from_on") rfl), (c1.def_ 16 (d := mkD "from_on" (top 27)) rfl).choose_spec⟩⟩,
    ⟨⟨_, _, He.glo_ok X G (c1.fact 17 (f := .glo "repeated_by") rfl), (c1.def_ 17 (d := mkD "repeated_by" (top 29)) rfl).choose_spec⟩⟩,
    ⟨⟨_, _, He.glo_ok X G (c1.fact 18 (f := .glo "repeated") rfl), (c1.def_ 18 (d := mkD "repeated" (top 30)) rfl).choose_spec⟩⟩,
    ⟨⟨_, _, He.glo_ok X G (c1.fact 19 (f := .glo "_law_draw") rfl), (c1.def_ 19 (d := mkD "_law_draw" (top 32)) rfl).choose_spec⟩⟩,
    ⟨⟨_, _, He.glo_ok X G (c1.fact 20 (f := .glo "_law_any") rfl), (c1.def_ 20 (d := mkD "_law_any" (top 33)) rfl).choose_spec⟩⟩,
    ⟨⟨_, _, He.glo_ok X G (c1.fact 21 (f := .glo "_law_of") rfl), (c1.def_ 21 (d := mkD "_law_of" (top 34)) rfl).choose_spec⟩⟩,
    ⟨⟨_, _, He.glo_ok X G (c1.fact 22 (f := .glo "_law_mixed") rfl), (c1.def_ 22 (d := mkD "_law_mixed" (top 35)) rfl).choose_spec⟩⟩,
    ⟨⟨_, _, He.glo_ok X G (c1.fact 23 (f := .glo "_law_then") rfl), (c1.def_ 23 (d := mkD "_law_then" (top 36)) rfl).choose_spec⟩⟩,
    ⟨⟨_, _, He.glo_ok X G (c1.fact 24 (f := .glo "_law_power") rfl), (c1.def_ 24 (d := mkD "_law_power" (top 37)) rfl).choose_spec⟩⟩,
    ⟨⟨_, _, He.glo_ok X G (c1.fact 25 (f := .glo "_law_done") rfl), (c1.def_ 25 (d := mkD "_law_done" (top 38)) rfl).choose_spec⟩⟩,
    ⟨⟨_, _, He.glo_ok X G (c1.fact 26 (f := .glo "_law_place") rfl), (c1.def_ 26 (d := mkD "_law_place" (top 39)) rfl).choose_spec⟩⟩,
    ⟨⟨_, _, He.glo_ok X G (c1.fact 27 (f := .glo "_law_two") rfl), (c1.def_ 27 (d := mkD "_law_two" (top 40)) rfl).choose_spec⟩⟩,
    ⟨⟨_, _, He.glo_ok X G (c1.fact 28 (f := .glo "_law_members") rfl), (c1.def_ 28 (d := mkD "_law_members" (top 41)) rfl).choose_spec⟩⟩,
    ⟨⟨_, _, He.glo_ok X G (c1.fact 29 (f := .glo "_law_falling") rfl), (c1.def_ 29 (d := mkD "_law_falling" (top 42)) rfl).choose_spec⟩⟩,
    ⟨⟨_, _, He.glo_ok X G (c1.fact 30 (f := .glo "_law_columns") rfl), (c1.def_ 30 (d := mkD "_law_columns" (top 43)) rfl).choose_spec⟩⟩,
    ⟨⟨_, _, He.glo_ok X G (c1.fact 31 (f := .glo "_law_machine") rfl), (c1.def_ 31 (d := mkD "_law_machine" (top 44)) rfl).choose_spec⟩⟩,
    ⟨⟨_, _, He.glo_ok X G (c1.fact 32 (f := .glo "_law_steps") rfl), (c1.def_ 32 (d := mkD "_law_steps" (top 45)) rfl).choose_spec⟩⟩,
    ⟨⟨_, _, He.glo_ok X G (c1.fact 33 (f := .glo "_law_rounds") rfl), (c1.def_ 33 (d := mkD "_law_rounds" (top 46)) rfl).choose_spec⟩⟩,
    ⟨⟨_, _, He.glo_ok X G (c1.fact 34 (f := .glo "_law_alike") rfl), (c1.def_ 34 (d := mkD "_law_alike" (top 47)) rfl).choose_spec⟩⟩,
    ⟨⟨_, _, He.glo_ok X G (c1.fact 35 (f := .glo "_law_told_set") rfl), (c1.def_ 35 (d := mkD "_law_told_set" (top 48)) rfl).choose_spec⟩⟩,
    ⟨⟨_, _, He.glo_ok X G (c1.fact 36 (f := .glo "_law_tail") rfl), (c1.def_ 36 (d := mkD "_law_tail" (top 49)) rfl).choose_spec⟩⟩,
    ⟨⟨_, _, He.glo_ok X G (c1.fact 37 (f := .glo "_law_bad_row") rfl), (c1.def_ 37 (d := mkD "_law_bad_row" (top 50)) rfl).choose_spec⟩⟩,
    ⟨⟨_, _, He.glo_ok X G (c1.fact 38 (f := .glo "_law_pair_machine") rfl), (c1.def_ 38 (d := mkD "_law_pair_machine" (top 51)) rfl).choose_spec⟩⟩,
    ⟨⟨_, _, He.glo_ok X G (c1.fact 39 (f := .glo "_law_asked") rfl), (c1.def_ 39 (d := mkD "_law_asked" (top 52)) rfl).choose_spec⟩⟩,
    ⟨⟨_, _, He.glo_ok X G (c1.fact 40 (f := .glo "_law_times") rfl), (c1.def_ 40 (d := mkD "_law_times" (top 53)) rfl).choose_spec⟩⟩,
    ⟨⟨_, _, He.glo_ok X G (c1.fact 41 (f := .glo "_law_raised") rfl), (c1.def_ 41 (d := mkD "_law_raised" (top 54)) rfl).choose_spec⟩⟩,
    ⟨⟨_, _, He.glo_ok X G (c1.fact 42 (f := .glo "_law_by_counts") rfl), (c1.def_ 42 (d := mkD "_law_by_counts" (top 55)) rfl).choose_spec⟩⟩,
    ⟨⟨_, _, He.glo_ok X G (c1.fact 43 (f := .glo "law") rfl), (c1.def_ 43 (d := mkD "law" (top 56)) rfl).choose_spec⟩⟩,
    He.free_ok X G (c1.fact 47 (f := .free "abs") rfl),
    He.free_ok X G (c1.fact 48 (f := .free "int") rfl),
    He.free_ok X G (c1.fact 49 (f := .free "list") rfl),
    He.free_ok X G (c1.fact 50 (f := .free "tuple") rfl),
    He.free_ok X G (c1.fact 51 (f := .free "bool") rfl),
    He.free_ok X G (c1.fact 52 (f := .free "len") rfl),
    He.free_ok X G (c1.fact 53 (f := .free "range") rfl),
    He.free_ok X G (c1.fact 54 (f := .free "enumerate") rfl),
    He.free_ok X G (c1.fact 55 (f := .free "max") rfl),
    He.free_ok X G (c1.fact 56 (f := .free "min") rfl),
    He.free_ok X G (c1.fact 57 (f := .free "all") rfl),
    He.free_ok X G (c1.fact 58 (f := .free "isinstance") rfl),
    He.free_ok X G (c1.fact 59 (f := .free "repr") rfl),
    He.free_ok X G (c1.fact 60 (f := .free "sum") rfl)⟩, ?_⟩
  exact ⟨⟨_, err_ok b1 d1 (He.glo_ok X G (c1.fact 45 (f := .glo "InvalidRow") rfl)) gs⟩, ⟨_, err_ok b2 d2 (He.glo_ok X G (c1.fact 46 (f := .glo "InvalidQuestion") rfl)) gs⟩, by decide +kernel, He.exm_ok (c1.fact 69 (f := .exm "InvalidRow" "InvalidRow" true) rfl), He.exm_ok (c1.fact 70 (f := .exm "InvalidQuestion" "InvalidRow" false) rfl), He.exm_ok (c1.fact 71 (f := .exm "InvalidQuestion" "InvalidQuestion" true) rfl),
    He.cls_ok (c1.fact 62 (f := .cls "Machine") rfl), He.noat_ok (c1.fact 63 (f := .noat "Machine" "commands") rfl), He.noat_ok (c1.fact 64 (f := .noat "Machine" "states") rfl), He.noat_ok (c1.fact 65 (f := .noat "Machine" "steps") rfl), He.noat_ok (c1.fact 66 (f := .noat "Machine" "_found") rfl), He.glo_ok X G (c1.fact 44 (f := .glo "Machine") rfl),
    ⟨_, _, He.mkr_ok (c1.fact 67 (f := .mkr "Machine") rfl), (c1.def_ 44 (d := mkM "__init__" "Machine.__init__" (inClass (top 14) 0)) rfl).choose_spec⟩, ⟨_, _, He.meth_ok (c1.fact 68 (f := .meth "Machine" "does") rfl), (c1.def_ 45 (d := mkM "does" "Machine.does" (inClass (top 14) 3)) rfl).choose_spec⟩⟩
end Kx
namespace Kx
open PySem PySem.Spec PyProof.Rows
theorem law_name : (HandSHeadRun.topDef ROW.prog 56).name = ("law" : PySem.Str) := by kernel_rfl
theorem call_ok : PySem.W.WalkO qv nms (PySem.W.XL qv []) hookE.says ROW.toRowW (HandSHeadRun.topDef ROW.prog 56) [] (fun f vs => PySem.call f vs) := by
  refine end_of (l := PySem.Challenge.rw_bodyforbody_k13_whole_bodies_done_severa) (n := 63) rfl (by decide) (by kernel_rfl) fun w mg fa h Y G hmg => ?_
  obtain ⟨K, kx, c⟩ := Y
  obtain ⟨T, U⟩ := facts_of kx G c
  rw [law_name] at hmg
  exact ⟨K, kx, fun base s H a ns hl _ hS e0 => law_true T U hmg hS hl e0⟩
end Kx
open PySem PySem.W PySem.Calls PyProof.Rows
theorem PySem.Challenge.cw_bodyforbody_k13_whole_bodies_done_severa_holds : PySem.Challenge.rw_bodyforbody_k13_whole_bodies_done_severa.Holds := by
  w_on; o_law
  refine HandSHeadRun.head_any (r := Kx.ROW) (q := Kx.qv) (H := Kx.hookE) (ob := Kx.obE) (M := 6000) (loose := Kx.nms) (d := HandSHeadRun.topDef Kx.ROW.prog 56) (kwd := []) Kx.obE_eq (by kernel_rfl) (fun s => by kernel_rfl) Kx.run_top (by kernel_rfl) (by kernel_rfl) (by kernel_rfl) (by rfl)
    (by first | assumption | decide +kernel) (by decide +kernel) ⟨rfl, rfl, rfl, rfl, rfl, by decide +kernel⟩ ?hw ?hc
  case hw => w_witness2
  case hc => exact Kx.call_ok
