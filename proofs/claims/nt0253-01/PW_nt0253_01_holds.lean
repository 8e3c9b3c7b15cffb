import PyProof.Rows.All
import Wide.All
import OpenK.AllK
import Wide.FinOn
import PySem.Challenge.RW_nt0253_01
set_option Elab.async false
set_option linter.all false
section
open PySem PySem.W PyProof.Rows
namespace Mine
set_option maxRecDepth 100000
set_option maxHeartbeats 8000000
open_top hd for PySem.Challenge.rw_nt0253_01
end Mine
end
local macro_rules | `(tactic| k_room) => `(tactic| ktr_room)
local macro_rules | `(tactic| k_units) => `(tactic| ktr_units)
local macro_rules | `(tactic| ke_room) => `(tactic| ktr_units)
section
open PySem PySem.W PySem.Spec PySem.Calls PyProof.Rows
namespace Mine
set_option maxRecDepth 100000
set_option maxHeartbeats 8000000
noncomputable abbrev LZ : List Str := looseW hd.view_39 [Str.ofString "MOST_BITS"] ++ List.map (fun x => x.name) (recsOf hd.view_39) ++ List.map (fun x => x.fst) (litsOf hd.view_39) ++ List.map (fun x => x.name) (clssOf hd.view_39 (looseW hd.view_39 [Str.ofString "MOST_BITS"]))

/-- a call that may make objects -/
def CO (w : World) (mean : ExcName → Option Value) (mg mb : Str → Option Value) (f : Addr) (vs : List Value) (D U : Nat) (news : List (Addr × Obj)) (Out : List (Addr × Obj) → Value → Prop) : Prop :=
  ∀ (dp un : Nat) (gd : Option (List Code)) (cn : Str) (cs : Scope) (a : Addr) (ccd : Value) (cl : List (Str × Addr)) (outer : List Env) (A₀ : Around) (base h₀ : Heap) (L : Addr) (m : Str → Option Value) (s : Shared) (Q E : Value → Shared → Prop),
    Below A₀ base outer h₀ → Fr h₀ L s.heap m → (hd.heap_39 w.params).In h₀ → News h₀ L s.heap news → Top topProg LZ mean mg mb h₀ → cs.kind = .function → dp + D < recursionLimit → un + U < cLine →
    (∀ r tl h' tk', Fr h₀ L h' m → News h₀ L h' (news ++ tl) → (∀ q ∈ news, ∀ p ∈ tl, q.1 < p.1) → Out tl r → Q r { s with heap := h', toks := tk' }) →
    wpAny (model PySem.Challenge.rw_nt0253_01.row.prog w) (ktrTop dp un gd cn cs L a ccd cl outer) (call (.ref f) vs) Q E s
theorem CO.use {w : World} {mean : ExcName → Option Value} {mg mb : Str → Option Value} {f : Addr} {vs : List Value} {D U : Nat} {news : List (Addr × Obj)} {Out : List (Addr × Obj) → Value → Prop}
    {dp un : Nat} {gd : Option (List Code)} {cn : Str} {cs : Scope} {a : Addr} {ccd : Value} {cl : List (Str × Addr)} {outer : List Env} {A₀ : Around} {base h₀ : Heap} {L : Addr} {m : Str → Option Value} {s : Shared} {Q E : Value → Shared → Prop}
    (C : CO w mean mg mb f vs D U news Out) (B : Below A₀ base outer h₀) (F : Fr h₀ L s.heap m) (X : (hd.heap_39 w.params).In h₀) (N : News h₀ L s.heap news) (T : Top topProg LZ mean mg mb h₀) (hk : cs.kind = .function) (hd9 : dp + D < recursionLimit) (hu9 : un + U < cLine)
    (ret : ∀ r tl h' tk', Fr h₀ L h' m → News h₀ L h' (news ++ tl) → (∀ q ∈ news, ∀ p ∈ tl, q.1 < p.1) → Out tl r → Q r { s with heap := h', toks := tk' }) :
    wpAny (model PySem.Challenge.rw_nt0253_01.row.prog w) (ktrTop dp un gd cn cs L a ccd cl outer) (call (.ref f) vs) Q E s :=
  C _ _ _ _ _ _ _ _ _ _ _ _ _ _ _ _ _ B F X N T hk hd9 hu9 ret

/-- a number of the program's: an int, or a Ratio with its two ints -/
inductive NumIn (news : List (Addr × Obj)) : Value → Int → Int → Prop where
  | int {n : Int} {tk : Tok} : NumIn news (.int n tk) n 1
  | ratio {a d : Addr} {t b : Int} {tt tb u1 u2 : Tok} {k1 k2 n} (ha : (a, instObj 31 d) ∈ news) (hd : (d, dictOf [⟨k1, .str (Str.ofString "top") u1, .int t tt⟩, ⟨k2, .str (Str.ofString "bottom") u2, .int b tb⟩] n) ∈ news) : NumIn news (.ref a) t b
theorem NumIn.mono {news news' : List (Addr × Obj)} {v : Value} {t b : Int} (h : NumIn news v t b) (hs : ∀ p ∈ news, p ∈ news') : NumIn news' v t b := by
  cases h with
  | int => exact .int
  | ratio ha hd => exact .ratio (hs _ ha) (hs _ hd)
theorem co_end {h₀ h' : Heap} {L : Addr} {m : Str → Option Value} {news news' : List (Addr × Obj)} {s : Shared} {Out : List (Addr × Obj) → Value → Prop} {Q : Value → Shared → Prop} {r : Value} {tk' : Nat} (tl : List (Addr × Obj))
    (hret : ∀ r tl h' tk', Fr h₀ L h' m → News h₀ L h' (news ++ tl) → (∀ q ∈ news, ∀ p ∈ tl, q.1 < p.1) → Out tl r → Q r { s with heap := h', toks := tk' }) (F : Fr h₀ L h' m) (N : News h₀ L h' news') (hs : ∀ p ∈ news ++ tl, p ∈ news') (hl : ∀ q ∈ news, ∀ p ∈ tl, q.1 < p.1) (ho : Out tl r) : Q r { s with heap := h', toks := tk' } :=
  hret r tl h' tk' F (fun p hp => N p (hs p hp)) hl ho
theorem ord2 {news : List (Addr × Obj)} {a d : Addr} {o o2 : Obj} (h : AllLt d news) (k : @LT.lt Nat _ d a) : ∀ q ∈ news, ∀ p ∈ [(a, o), (d, o2)], q.1 < p.1 := by
  intro q hq p hp
  have h1 : @LT.lt Nat _ q.1 d := ktn_ltOf h q hq
  rcases List.mem_cons.mp hp with rfl | hp
  · exact Nat.lt_trans h1 k
  · rw [List.mem_singleton.mp hp]; exact h1
theorem sub2 {news : List (Addr × Obj)} {x y : Addr × Obj} : ∀ p ∈ news ++ [x, y], p ∈ x :: y :: news := by
  intro p hp
  rcases List.mem_append.mp hp with h | h
  · exact .tail _ (.tail _ h)
  · rcases List.mem_cons.mp h with rfl | h
    · exact .head _
    · rw [List.mem_singleton.mp h]; exact .tail _ (.head _)
end Mine
end
section
open PySem PySem.W PySem.Spec PySem.Calls PyProof.Rows
namespace Mine
set_option maxRecDepth 100000
set_option maxHeartbeats 8000000
theorem nat62' {n : Int} (h0 : 0 ≤ n) (h : n ≤ 2 ^ 62) : n.natAbs ≤ 2 ^ 62 := by omega
theorem dn0 {d : Int} (hd : 1 ≤ d) : d.toNat ≠ 0 := by omega
theorem absN (e : Int) : (if e < 0 then -e else e) = (e.natAbs : Int) := by split <;> omega
theorem n01 {n : Int} (h : 1 ≤ n) : 0 ≤ n := Int.le_trans (by decide) h
theorem fdiv2 (e : Int) : e.fdiv 2 = e / 2 := Int.fdiv_eq_ediv_of_nonneg e (by decide)
theorem fmod2 (e : Int) : e.fmod 2 = e % 2 := Int.fmod_eq_emod_of_nonneg e (by decide)
theorem fdivN (m n : Nat) : (m : Int).fdiv (n : Int) = ((m / n : Nat) : Int) := (Int.ofNat_fdiv m n).symm
theorem half_odd {e : Int} (h : 0 ≤ e) (ho : e.fmod 2 = 1) : e.toNat = 2 * (e.fdiv 2).toNat + 1 := by
  obtain ⟨n, rfl⟩ := Int.eq_ofNat_of_zero_le h
  rw [fmod2] at ho
  rw [show (n : Int).fdiv 2 = ((n / 2 : Nat) : Int) from fdivN n 2]
  have h2 : n % 2 = 1 := Int.ofNat.inj ho
  have h3 := Nat.div_add_mod n 2
  rw [h2] at h3
  exact h3.symm
theorem half_even {e : Int} (h : 0 ≤ e) (ho : e.fmod 2 ≠ 1) : e.toNat = 2 * (e.fdiv 2).toNat := by
  obtain ⟨n, rfl⟩ := Int.eq_ofNat_of_zero_le h
  rw [fmod2] at ho
  rw [show (n : Int).fdiv 2 = ((n / 2 : Nat) : Int) from fdivN n 2]
  have h2 : n % 2 = 0 := (Nat.mod_two_eq_zero_or_one n).resolve_right fun e => ho (congrArg Int.ofNat e)
  have h3 := Nat.div_add_mod n 2
  rw [h2] at h3
  exact h3.symm
theorem half0 {e : Int} (h : 0 ≤ e) : 0 ≤ e.fdiv 2 := Int.fdiv_nonneg h (by decide)
def PwInv (X b e f : Int) : Prop := 0 ≤ e ∧ f * b ^ e.toNat = X ∧ (0 < e → b.natAbs ^ e.toNat ≤ 2 ^ 62)
theorem small_bits {b : Int} (h : b.natAbs ≤ 2 ^ 62) : Builtin.Int.intBits b ≤ 64 := intBits_le_iff.mpr (Nat.lt_of_le_of_lt h (by decide))
theorem toNat_ne {e : Int} (he : 0 < e) : e.toNat ≠ 0 := dn0 he
theorem pw_mul1 {X b e f : Int} (h : PwInv X b e f) (he : 0 < e) : IntMulOk f b := IntMulOk.of_right (small_bits (Nat.le_trans (Nat.le_self_pow (toNat_ne he) _) (h.2.2 he)))
theorem pw_mul2 {X b e f : Int} (h : PwInv X b e f) (he : 0 < e) : IntMulOk b b := IntMulOk.of_right (small_bits (Nat.le_trans (Nat.le_self_pow (toNat_ne he) _) (h.2.2 he)))
theorem pw_half (b : Int) (k : Nat) : (b * b) ^ k = b ^ (2 * k) := by rw [Int.pow_mul, Int.pow_succ, Int.pow_succ, Int.pow_zero, Int.one_mul]
theorem pw_halfN (b : Nat) (k : Nat) : (b * b) ^ k = b ^ (2 * k) := by rw [Nat.pow_mul, Nat.pow_succ, Nat.pow_succ, Nat.pow_zero, Nat.one_mul]
theorem pw_s1 {X b e f : Int} (h : PwInv X b e f) (he : 0 < e) (ho : e.fmod 2 = 1) : PwInv X (b * b) (e.fdiv 2) (f * b) := by
  have e1 := half_odd h.1 ho
  have d := h.2.2 he
  rw [e1] at d
  refine ⟨half0 h.1, ?_, fun _ => ?_⟩
  · rw [pw_half, ← h.2.1, e1, Int.pow_succ, Int.mul_assoc, Int.mul_comm b]
  · rw [Int.natAbs_mul, pw_halfN]
    rcases Nat.eq_zero_or_pos b.natAbs with hb | hb
    · rw [hb]
      exact Nat.le_trans (Nat.pow_le_pow_left (Nat.zero_le 1) _) (by rw [Nat.one_pow]; decide)
    · exact Nat.le_trans (Nat.pow_le_pow_right hb (Nat.le_succ _)) d
theorem pw_s2 {X b e f : Int} (h : PwInv X b e f) (ho : e.fmod 2 = 1) (h2 : ¬ 0 < e.fdiv 2) : PwInv X b (e.fdiv 2) (f * b) := by
  have e1 := half_odd h.1 ho
  have c := h.2.1
  have z : e.fdiv 2 = 0 := Int.le_antisymm (Int.not_lt.mp h2) (half0 h.1)
  rw [z] at e1 ⊢
  rw [show e.toNat = 0 + 1 from e1, Int.pow_succ, Int.pow_zero, Int.one_mul] at c
  exact ⟨Int.le_refl _, by rw [show (0 : Int).toNat = 0 from rfl, Int.pow_zero, Int.mul_one]; exact c, fun q => absurd q (Int.lt_irrefl _)⟩
theorem pw_s3 {X b e f : Int} (h : PwInv X b e f) (he : 0 < e) (ho : e.fmod 2 ≠ 1) : PwInv X (b * b) (e.fdiv 2) f := by
  have e1 := half_even h.1 ho
  refine ⟨half0 h.1, ?_, fun _ => ?_⟩
  · rw [pw_half, ← h.2.1, ← e1]
  · rw [Int.natAbs_mul, pw_halfN, ← e1]
    exact h.2.2 he
theorem pw_half1 {q : Int} (hq : 0 < q) (ho : q.fmod 2 ≠ 1) : 0 < q.fdiv 2 := by
  have e1 := half_even (Int.le_of_lt hq) ho
  refine Int.not_le.mp fun h => toNat_ne hq ?_
  rw [e1, Int.toNat_of_nonpos h]
theorem pw_meas {e : Int} (he : 0 < e) : (e.fdiv 2).toNat < e.toNat := by
  rw [fdiv2]
  exact (Int.toNat_lt_toNat he).mpr (Int.ediv_lt_self_of_pos_of_ne_one he (by decide))
theorem pw_start {x n : Int} (h0 : 0 ≤ n) (hb : x.natAbs ^ n.toNat ≤ 2 ^ 62) : PwInv (x ^ n.toNat) x n 1 := ⟨h0, Int.one_mul _, fun _ => hb⟩
theorem pw_end {X b e f : Int} (h : PwInv X b e f) (he : ¬ 0 < e) : X = f := by
  have e1 : e = 0 := Int.le_antisymm (Int.not_lt.mp he) h.1
  have := h.2.1
  rw [e1, show (0 : Int).toNat = 0 from rfl, Int.pow_zero, Int.mul_one] at this
  exact this.symm
theorem intBits_lt (x : Int) : x.natAbs < 2 ^ (Builtin.Int.intBits x) := intBits_le_iff.mp (Nat.le_refl _)
theorem bits_lt {x : Int} (h : 0 ≤ x) : x < 2 ^ (Builtin.Int.intBits x) := by
  have := Int.ofNat_lt.mpr (intBits_lt x)
  rwa [Int.natAbs_of_nonneg h, Int.natCast_pow] at this
theorem bits_le {x : Int} {k : Nat} (h0 : 0 ≤ x) (h : x < 2 ^ k) : Builtin.Int.intBits x ≤ k := by
  refine intBits_le_iff.mpr (Int.ofNat_lt.mp ?_)
  rwa [Int.natAbs_of_nonneg h0, Int.natCast_pow]
theorem pow_le_exp {a : Int} (ha : 1 ≤ a) {m n : Nat} (h : m ≤ n) : a ^ m ≤ a ^ n := by
  obtain ⟨k, rfl⟩ := Nat.exists_eq_add_of_le h
  rw [Int.pow_add]
  have h1 : 0 < a ^ m := Int.pow_pos ha
  have h2 : 0 < a ^ k := Int.pow_pos ha
  have h3 : a ^ m * 1 ≤ a ^ m * a ^ k := Int.mul_le_mul_of_nonneg_left h2 (Int.le_of_lt h1)
  rwa [Int.mul_one] at h3
theorem pow_le_pow_base {a b : Int} (h0 : 0 ≤ a) (h : a ≤ b) : ∀ k : Nat, a ^ k ≤ b ^ k
  | 0 => Int.le_of_eq (by rw [Int.pow_zero, Int.pow_zero])
  | k + 1 => by
    rw [Int.pow_succ, Int.pow_succ]
    exact Int.mul_le_mul (pow_le_pow_base h0 h k) h h0 (Int.pow_nonneg (Int.le_trans h0 h))
theorem self_le_pow {f : Int} (h : 0 ≤ f) {k : Nat} (hk : k ≠ 0) : f ≤ f ^ k := by
  obtain ⟨m, rfl⟩ := Nat.exists_eq_succ_of_ne_zero hk
  rw [Int.pow_succ]
  rcases Int.lt_or_le 0 f with q | q
  · have h3 : 1 * f ≤ f ^ m * f := Int.mul_le_mul_of_nonneg_right (Int.pow_pos q) h
    rwa [Int.one_mul] at h3
  · cases Int.le_antisymm q h
    rw [Int.mul_zero]; exact Int.le_refl _
theorem natAbs_pow_le {a : Int} (h : 0 ≤ a) {k : Nat} {B : Nat} (hb : a ^ k ≤ (B : Int)) : a.natAbs ^ k ≤ B := by
  refine Int.ofNat_le.mp ?_
  rwa [Int.natCast_pow, Int.natAbs_of_nonneg h]
theorem noPy {y : Int} (h : y.natAbs ≤ 2 ^ 62) {x : Int} : Builtin.divisionGoesByPylong x y = false := by
  refine PyProof.noPylong_of_log2 ?_
  by_cases h0 : y.natAbs = 0
  · rw [h0]; decide +kernel
  · exact Nat.lt_trans ((Nat.log2_lt h0 (k := 63)).mpr (Nat.lt_of_le_of_lt h (by decide))) (by decide)
/-- the root by Newton's steps -/
def RxInv (x g n : Int) : Prop := 0 < g ∧ (∀ r, 0 ≤ r → r * r ≤ x → r ≤ g) ∧ n = (g + x.fdiv g).fdiv 2 ∧ 1 ≤ x ∧ g ≤ 2 ^ 32
theorem rx_near {x g : Int} (hg : 0 < g) {r : Int} (hr : r * r ≤ x) : r ≤ (g + x.fdiv g).fdiv 2 := by
  rw [fdiv2, Int.fdiv_eq_ediv_of_nonneg x (Int.le_of_lt hg)]
  have sq : 0 ≤ (r - g) * (r - g) := (Int.le_total 0 (r - g)).elim (fun h => Int.mul_nonneg h h) fun h => Int.mul_nonneg_of_nonpos_of_nonpos h h
  have e : (r - g) * (r - g) = r * r - (2 * r - g) * g := by grind
  have h3 := (Int.le_ediv_iff_mul_le hg).mpr (Int.le_trans (Int.sub_nonneg.mp (e ▸ sq)) hr)
  refine (Int.le_ediv_iff_mul_le (by decide)).mpr ?_
  rw [Int.mul_comm]
  exact Int.le_add_of_sub_left_le h3
theorem rx_exp (B : Nat) : (((B : Int) + 1).fdiv 2).toNat = (B + 1) / 2 := congrArg Int.toNat (fdivN (B + 1) 2)
theorem rx_start {x : Int} (h1 : 0 ≤ x) (hx : x ≠ 0) (h62 : x < 2 ^ 62) {g : Int} (e : g = 1 * 2 ^ (((Builtin.Int.intBits x : Int) + 1).fdiv 2).toNat) : RxInv x g ((g + x.fdiv g).fdiv 2) := by
  have hb := bits_lt h1
  have hB := bits_le h1 h62
  rw [rx_exp, Int.one_mul] at e
  generalize Builtin.Int.intBits x = B at *
  have hg : 0 < g := e ▸ Int.pow_pos (by decide)
  have hk : B ≤ (B + 1) / 2 + (B + 1) / 2 := by omega
  have hgg : x < g * g := by
    rw [e, ← Int.pow_add]
    exact Int.lt_of_lt_of_le hb (pow_le_exp (by decide) hk)
  exact ⟨hg, fun r h0 hr => Int.not_lt.mp fun h => Int.lt_irrefl _ (Int.lt_of_lt_of_le hgg (Int.le_trans (Int.mul_self_le_mul_self (Int.le_of_lt hg) (Int.le_of_lt h)) hr)), rfl, Int.lt_iff_le_and_ne.mpr ⟨h1, hx.symm⟩,
    e ▸ pow_le_exp (by decide) (Nat.le_trans (Nat.div_le_div_right (Nat.succ_le_succ hB)) (by decide))⟩
theorem rx_one {x g n : Int} (h : RxInv x g n) : 1 ≤ n := h.2.2.1 ▸ rx_near h.1 (by rw [Int.one_mul]; exact h.2.2.2.1)
theorem rx_step {x g n : Int} (h : RxInv x g n) (hl : n < g) : RxInv x n ((n + x.fdiv n).fdiv 2) :=
  ⟨rx_one h, fun _ _ hr => h.2.2.1 ▸ rx_near h.1 hr, rfl, h.2.2.2.1, Int.le_trans (Int.le_of_lt hl) h.2.2.2.2⟩
theorem rx_nz {x g n : Int} (h : RxInv x g n) : n ≠ 0 := Int.ne_of_gt (rx_one h)
theorem rx_nz0 {x : Int} : (1 : Int) * 2 ^ (((Builtin.Int.intBits x : Int) + 1).fdiv 2).toNat ≠ 0 := by
  rw [Int.one_mul]; exact Int.ne_of_gt (Int.pow_pos (by decide))
theorem rx_py {x g n : Int} (h : RxInv x g n) (hl : n < g) {y : Int} : Builtin.divisionGoesByPylong y n = false :=
  noPy (nat62' (n01 (rx_one h)) (Int.le_trans (Int.le_of_lt hl) (Int.le_trans h.2.2.2.2 (by decide))))
theorem rx_py0 {x : Int} (h1 : 0 ≤ x) (h62 : x < 2 ^ 62) {y : Int} : Builtin.divisionGoesByPylong y ((1 : Int) * 2 ^ (((Builtin.Int.intBits x : Int) + 1).fdiv 2).toNat) = false := by
  refine noPy ?_
  rw [rx_exp, Int.one_mul, Int.natAbs_pow]
  exact Nat.pow_le_pow_right (by decide) (Nat.le_trans (Nat.div_le_div_right (Nat.succ_le_succ (bits_le h1 h62))) (by decide))
theorem rx_n0 (x : Int) : 0 ≤ ((Builtin.Int.intBits x : Int) + 1).fdiv 2 := Int.fdiv_nonneg (Int.add_nonneg (Int.natCast_nonneg _) (by decide)) (by decide)
theorem rx_n1 {x : Int} (h0 : 0 ≤ x) (hx : x < 2 ^ 62) : ((Builtin.Int.intBits x : Int) + 1).fdiv 2 ≤ 1000000 := by
  rw [fdiv2]
  exact Int.le_trans (Int.ediv_le_self _ (Int.add_nonneg (Int.natCast_nonneg _) (by decide))) (Int.le_trans (Int.add_le_add_right (Int.ofNat_le.mpr (bits_le h0 hx)) 1) (by decide))
theorem rx_meas {x g n : Int} (h : RxInv x g n) (hl : n < g) : n.toNat < g.toNat := (Int.toNat_lt_toNat h.1).mpr hl
theorem rx_sq {x g n : Int} (h : RxInv x g n) (hl : ¬ n < g) : g * g ≤ x := by
  have c := Int.not_lt.mp hl
  rw [h.2.2.1, fdiv2, Int.fdiv_eq_ediv_of_nonneg x (Int.le_of_lt h.1)] at c
  have c2 := (Int.le_ediv_iff_mul_le (by decide)).mp c
  rw [Int.mul_comm, Int.two_mul] at c2
  exact (Int.le_ediv_iff_mul_le h.1).mp (Int.le_of_add_le_add_left c2)
theorem rx_mul {x g n : Int} (h : RxInv x g n) : IntMulOk g g := IntMulOk.of_right (small_bits (nat62' (Int.le_of_lt h.1) (Int.le_trans h.2.2.2.2 (by decide))))
/-- k is the whole root of x of degree d -/
def IsRoot (x d k : Int) : Prop := 0 ≤ k ∧ k ^ d.toNat ≤ x ∧ x < (k + 1) ^ d.toNat
def IsSq (x g : Int) : Prop := 0 ≤ g ∧ g * g ≤ x ∧ ∀ r, 0 ≤ r → r * r ≤ x → r ≤ g
theorem rx_fin {x g n : Int} (h : RxInv x g n) (hl : ¬ n < g) : IsSq x g := ⟨Int.le_of_lt h.1, rx_sq h hl, h.2.1⟩
theorem rx_fin0 : IsSq 0 0 := ⟨Int.le_refl _, Int.le_refl _, fun _ _ hr => Int.not_lt.mp fun h => absurd hr (Int.not_le.mpr (Int.mul_pos h h))⟩
theorem root_le {x d k k' : Int} (h : IsRoot x d k) (h' : IsRoot x d k') : k ≤ k' := Int.not_lt.mp fun q =>
  Int.lt_irrefl _ (Int.lt_of_lt_of_le h'.2.2 (Int.le_trans (pow_le_pow_base (Int.add_nonneg h'.1 (by decide)) q _) h.2.1))
theorem sq2 (a : Int) : a ^ (2 : Int).toNat = a * a := by
  show a ^ 2 = _
  rw [Int.pow_succ, Int.pow_succ, Int.pow_zero, Int.one_mul]
theorem IsSq.root {x g k : Int} (h : IsSq x g) (hk : IsRoot x 2 k) : g = k := by
  have hg : IsRoot x 2 g := ⟨h.1, by rw [sq2]; exact h.2.1, by
    rw [sq2]
    exact Int.not_le.mp fun q => absurd (h.2.2 (g + 1) (Int.add_nonneg h.1 (by decide)) q) (Int.not_le.mpr (Int.lt_succ g))⟩
  exact Int.le_antisymm (root_le hg hk) (root_le hk hg)
/-- the root by halving -/
def RdInv (x d lo hi : Int) : Prop := 1 ≤ lo ∧ lo < hi ∧ lo ^ d.toNat ≤ x ∧ x < hi ^ d.toNat ∧ hi ^ d.toNat ≤ 2 ^ 62
theorem rd_n0 {x d : Int} (hd : 1 ≤ d) : 0 ≤ (Builtin.Int.intBits x : Int).fdiv d + 1 := Int.add_nonneg (Int.fdiv_nonneg (Int.natCast_nonneg _) (n01 hd)) (by decide)
theorem rd_n1 {x d : Int} (h0 : 0 ≤ x) (hx : x < 2 ^ 32) (hd : 1 ≤ d) : (Builtin.Int.intBits x : Int).fdiv d + 1 ≤ 1000000 := by
  rw [Int.fdiv_eq_ediv_of_nonneg _ (n01 hd)]
  exact Int.le_trans (Int.add_le_add_right (Int.le_trans (Int.ediv_le_self _ (Int.natCast_nonneg _)) (Int.ofNat_le.mpr (bits_le h0 hx))) 1) (by decide)
theorem rd_start {x d : Int} (h2 : ¬ x < 2) (hx : x < 2 ^ 32) (hd : 1 ≤ d) (hd9 : d ≤ 9) : RdInv x d 1 (1 * 2 ^ ((Builtin.Int.intBits x : Int).fdiv d + 1).toNat) := by
  have x2 := Int.not_lt.mp h2
  have x0 : 0 ≤ x := Int.le_trans (by decide) x2
  have hb := bits_lt x0
  have hB := bits_le x0 hx
  generalize Builtin.Int.intBits x = B at *
  obtain ⟨D, rfl⟩ := Int.eq_ofNat_of_zero_le (n01 hd)
  rw [fdivN, Int.one_mul]
  have d1 : 0 < D := Int.ofNat_lt.mp hd
  have d9 : D ≤ 9 := Int.ofNat_le.mp hd9
  show (1 : Int) ≤ 1 ∧ (1 : Int) < 2 ^ (B / D + 1) ∧ (1 : Int) ^ D ≤ x ∧ x < (2 ^ (B / D + 1)) ^ D ∧ ((2 : Int) ^ (B / D + 1)) ^ D ≤ 2 ^ 62
  rw [← Int.pow_mul, Int.one_pow]
  refine ⟨Int.le_refl _, Int.lt_of_lt_of_le (by decide) (pow_le_exp (m := 1) (by decide) (Nat.succ_le_succ (Nat.zero_le _))), Int.le_trans (by decide) x2, Int.lt_of_lt_of_le hb (pow_le_exp (by decide) ?_), pow_le_exp (by decide) ?_⟩
  · rw [Nat.mul_comm]
    exact Nat.le_of_lt (Nat.lt_mul_div_succ B d1)
  · rw [Nat.add_mul, Nat.one_mul]
    exact Nat.le_trans (Nat.add_le_add (Nat.le_trans (Nat.div_mul_le_self B D) hB) d9) (by decide)
theorem rd_lt {lo hi : Int} (hg : 1 < hi - lo) : lo < (lo + hi).fdiv 2 ∧ (lo + hi).fdiv 2 < hi := by
  rw [fdiv2]; omega
theorem rd_pw {x d lo hi : Int} (h : RdInv x d lo hi) (hg : 1 < hi - lo) : ((lo + hi).fdiv 2).natAbs ^ d.toNat ≤ 2 ^ 62 := by
  have k := rd_lt hg
  have m0 := n01 (Int.le_trans h.1 (Int.le_of_lt k.1))
  exact natAbs_pow_le m0 (Int.le_trans (pow_le_pow_base m0 (Int.le_of_lt k.2) _) h.2.2.2.2)
theorem rd_lo {x d lo hi : Int} (h : RdInv x d lo hi) (hg : 1 < hi - lo) (hm : ((lo + hi).fdiv 2) ^ d.toNat ≤ x) : RdInv x d ((lo + hi).fdiv 2) hi :=
  ⟨Int.le_trans h.1 (Int.le_of_lt (rd_lt hg).1), (rd_lt hg).2, hm, h.2.2.2⟩
theorem rd_hi {x d lo hi : Int} (h : RdInv x d lo hi) (hg : 1 < hi - lo) (hm : ¬ ((lo + hi).fdiv 2) ^ d.toNat ≤ x) : RdInv x d lo ((lo + hi).fdiv 2) :=
  ⟨h.1, (rd_lt hg).1, h.2.2.1, Int.not_le.mp hm, Int.le_trans (pow_le_pow_base (n01 (Int.le_trans h.1 (Int.le_of_lt (rd_lt hg).1))) (Int.le_of_lt (rd_lt hg).2) _) h.2.2.2.2⟩
theorem rd_measL {lo hi : Int} (hg : 1 < hi - lo) : (hi - (lo + hi).fdiv 2).toNat < (hi - lo).toNat := (Int.toNat_lt_toNat (Int.lt_trans (by decide) hg)).mpr (Int.sub_lt_sub_left (rd_lt hg).1 hi)
theorem rd_measH {lo hi : Int} (hg : 1 < hi - lo) : ((lo + hi).fdiv 2 - lo).toNat < (hi - lo).toNat := (Int.toNat_lt_toNat (Int.lt_trans (by decide) hg)).mpr (Int.sub_lt_sub_right (rd_lt hg).2 lo)
theorem rd_fin {x d lo hi : Int} (h : RdInv x d lo hi) (hg : ¬ 1 < hi - lo) : IsRoot x d lo := by
  have e : hi = lo + 1 := Int.le_antisymm (Int.le_add_of_sub_left_le (Int.not_lt.mp hg)) h.2.1
  exact ⟨n01 h.1, h.2.2.1, e ▸ h.2.2.2.1⟩
theorem rd_one {x d : Int} (h2 : ¬ x < 2) (hd : (Builtin.Int.intBits x : Int) ≤ d) : IsRoot x d 1 := by
  have x2 := Int.not_lt.mp h2
  exact ⟨by decide, by rw [Int.one_pow]; exact Int.le_trans (by decide) x2, Int.lt_of_lt_of_le (bits_lt (Int.le_trans (by decide) x2)) (pow_le_exp (a := 1 + 1) (by decide) (Int.toNat_le_toNat hd))⟩
theorem rd_small {x d : Int} (h0 : 0 ≤ x) (h2 : x < 2) (hd : 1 ≤ d) : IsRoot x d x := by
  rcases Int.lt_or_le x 1 with q | q
  · cases Int.le_antisymm (Int.le_of_lt_add_one q) h0
    exact ⟨h0, by rw [Int.zero_pow (dn0 hd)]; decide, Int.pow_pos (by decide)⟩
  · cases Int.le_antisymm (Int.le_of_lt_add_one h2) q
    exact ⟨h0, by rw [Int.one_pow]; decide, Int.lt_of_lt_of_le (by decide) (self_le_pow (f := 1 + 1) (by decide) (dn0 hd))⟩
theorem rd_deg1 {x d : Int} (h0 : 0 ≤ x) (hd : d = 1) : IsRoot x d x := by
  subst hd
  have e : ∀ a : Int, a ^ (1 : Int).toNat = a := fun a => by show a ^ 1 = a; rw [Int.pow_succ, Int.pow_zero, Int.one_mul]
  exact ⟨h0, Int.le_of_eq (e x), by rw [e]; exact Int.lt_succ x⟩
theorem rd_nz {d : Int} (hd : 1 ≤ d) : d ≠ 0 := Int.ne_of_gt hd
theorem rd_ab {d : Int} (hd : 1 ≤ d) (hd9 : d ≤ 9) : d.natAbs ≤ 2 ^ 62 := nat62' (n01 hd) (Int.le_trans hd9 (by decide))
theorem IsRoot.le {x d k : Int} (h : IsRoot x d k) (hd : 1 ≤ d) : k ≤ x := Int.le_trans (self_le_pow h.1 (dn0 hd)) h.2.1
theorem root_b {x d k : Int} (h : IsRoot x d k) (hx : x < 2 ^ 32) : k.natAbs ^ d.toNat ≤ 2 ^ 62 := natAbs_pow_le h.1 (Int.le_trans h.2.1 (Int.le_trans (Int.le_of_lt hx) (by decide)))
/-- the law's own root -/
def WrInv (x d f : Int) : Prop := 0 ≤ f ∧ (f = 0 ∨ (f - 1) ^ d.toNat < x)
theorem wr_start {x d : Int} : WrInv x d 0 := ⟨Int.le_refl _, .inl rfl⟩
theorem wr_step {x d f : Int} (h : WrInv x d f) (hl : f ^ d.toNat < x) : WrInv x d (f + 1) := ⟨Int.add_nonneg h.1 (by decide), .inr (by rw [Int.add_sub_cancel]; exact hl)⟩
theorem wr_le {x d f : Int} (h : WrInv x d f) (h0 : 0 ≤ x) (hd : 1 ≤ d) : f ≤ x := by
  rcases h.2 with b | b
  · rw [b]; exact h0
  · rcases Int.lt_or_le 0 f with q | q
    · exact Int.le_of_sub_one_lt (Int.lt_of_le_of_lt (self_le_pow (Int.sub_nonneg.mpr q) (dn0 hd)) b)
    · exact Int.le_trans q h0
theorem wr_abs {x d f : Int} (h : WrInv x d f) (h0 : 0 ≤ x) (hx : x < 2 ^ 32) (hd : 1 ≤ d) : f.natAbs ≤ 2 ^ 62 := nat62' h.1 (Int.le_trans (wr_le h h0 hd) (Int.le_trans (Int.le_of_lt hx) (by decide)))
theorem wr_meas {x d f : Int} (h : WrInv x d f) (hl : f ^ d.toNat < x) (hd : 1 ≤ d) : (x + 1 - (f + 1)).toNat < (x + 1 - f).toNat :=
  (Int.toNat_lt_toNat (Int.sub_pos_of_lt (Int.lt_trans (Int.lt_of_le_of_lt (self_le_pow h.1 (dn0 hd)) hl) (Int.lt_succ x)))).mpr (Int.sub_lt_sub_left (Int.lt_succ f) _)
def WrV (x d : Int) (r : Value) : Prop := (∃ k t, r = .int k t ∧ 0 ≤ k ∧ k ^ d.toNat = x) ∨ (r = .none ∧ ∀ k, 0 ≤ k → k ^ d.toNat ≠ x)
theorem wr_fin1 {x d f : Int} {t : Tok} (h : WrInv x d f) (he : f ^ d.toNat = x) : WrV x d (.int f t) := .inl ⟨f, t, rfl, h.1, he⟩
theorem wr_fin2 {x d f : Int} (h : WrInv x d f) (hl : ¬ f ^ d.toNat < x) (he : f ^ d.toNat ≠ x) : WrV x d .none := by
  refine .inr ⟨rfl, fun k hk e => ?_⟩
  rcases Int.lt_or_le k f with q | q
  · rcases h.2 with b | b
    · exact absurd hk (Int.not_le.mpr (b ▸ q))
    · exact Int.lt_irrefl _ (Int.lt_of_le_of_lt (e ▸ pow_le_pow_base hk (Int.le_sub_one_of_lt q) _) b)
  · exact he (Int.le_antisymm (e ▸ pow_le_pow_base h.1 q _) (Int.not_lt.mp hl))
theorem IsRoot.none {x d k : Int} (h : IsRoot x d k) (he : k ^ d.toNat ≠ x) : ∀ j, 0 ≤ j → j ^ d.toNat ≠ x := fun j hj e => he (by
  rcases Int.lt_or_le k j with q | q
  · exact absurd (Int.lt_of_lt_of_le h.2.2 (e ▸ pow_le_pow_base (Int.add_nonneg h.1 (by decide)) q _)) (Int.lt_irrefl _)
  · exact Int.le_antisymm h.2.1 (e ▸ pow_le_pow_base hj q _))
/-- the two ints of a power -/
def pT (t b e : Int) : Int := if e < 0 then (if t < 0 then -b else b) ^ (0 - e).toNat else t ^ e.toNat
def pB (t b e : Int) : Int := if e < 0 then (if t < 0 then -t else t) ^ (0 - e).toNat else b ^ e.toNat
theorem eo (k : Nat) : ∃ j, k = 2 * j ∨ k = 2 * j + 1 := by
  have h := Nat.div_add_mod k 2
  rcases Nat.mod_two_eq_zero_or_one k with e | e <;> rw [e] at h
  · exact ⟨k / 2, .inl h.symm⟩
  · exact ⟨k / 2, .inr h.symm⟩
theorem neg_pow_even (b : Int) (k : Nat) : (-b) ^ (2 * k) = b ^ (2 * k) := by rw [← pw_half, ← pw_half, Int.neg_mul_neg]
theorem neg_pow_odd (b : Int) (k : Nat) : (-b) ^ (2 * k + 1) = -(b ^ (2 * k + 1)) := by
  rw [Int.pow_succ, neg_pow_even, Int.pow_succ, Int.mul_neg]
theorem due_pos {t b e : Int} (he : 0 ≤ e) : pT t b e = t ^ e.toNat ∧ pB t b e = b ^ e.toNat := ⟨if_neg (Int.not_lt.mpr he), if_neg (Int.not_lt.mpr he)⟩
theorem due_neg1 {t b e : Int} (he : e < 0) (ht : 0 < t ^ (-e).toNat) : pT t b e = b ^ (-e).toNat ∧ pB t b e = t ^ (-e).toNat := by
  unfold pT pB
  rw [if_pos he, if_pos he, Int.zero_sub]
  generalize (-e).toNat = k at *
  by_cases h : t < 0
  · rw [if_pos h, if_pos h]
    rcases eo k with ⟨j, rfl | rfl⟩
    · exact ⟨neg_pow_even _ _, neg_pow_even _ _⟩
    · have p : 0 < (-t) ^ (2 * j + 1) := Int.pow_pos (Int.neg_pos_of_neg h)
      rw [neg_pow_odd] at p
      exact absurd ht (Int.not_lt.mpr (Int.le_of_lt (Int.neg_of_neg_pos p)))
  · rw [if_neg h, if_neg h]; exact ⟨rfl, rfl⟩
theorem due_neg2 {t b e : Int} (he : e < 0) (h0 : t ≠ 0) (ht : ¬ 0 < t ^ (-e).toNat) : pT t b e = 0 - b ^ (-e).toNat ∧ pB t b e = 0 - t ^ (-e).toNat := by
  unfold pT pB
  rw [if_pos he, if_pos he, Int.zero_sub, Int.zero_sub, Int.zero_sub]
  generalize (-e).toNat = k at *
  by_cases h : t < 0
  · rw [if_pos h, if_pos h]
    rcases eo k with ⟨j, rfl | rfl⟩
    · have p : 0 < (-t) ^ (2 * j) := Int.pow_pos (Int.neg_pos_of_neg h)
      rw [neg_pow_even] at p
      exact absurd p ht
    · exact ⟨neg_pow_odd _ _, neg_pow_odd _ _⟩
  · exact absurd (Int.pow_pos (Int.lt_iff_le_and_ne.mpr ⟨Int.not_lt.mp h, h0.symm⟩)) ht
def XrOut (t b d : Int) (news : List (Addr × Obj)) (r : Value) : Prop := (∃ k j, 0 ≤ k ∧ 0 ≤ j ∧ k ^ d.toNat = t ∧ j ^ d.toNat = b ∧ NumIn news r k j) ∨ (r = .none ∧ ((∀ k, 0 ≤ k → k ^ d.toNat ≠ t) ∨ (∀ j, 0 ≤ j → j ^ d.toNat ≠ b)))
theorem xr_none {t b d k j : Int} {news : List (Addr × Obj)} (h1 : IsRoot t d k) (h2 : IsRoot b d j) (hn : k ^ d.toNat ≠ t ∨ j ^ d.toNat ≠ b) : XrOut t b d news .none :=
  .inr ⟨rfl, hn.imp (fun h => h1.none h) (fun h => h2.none h)⟩
theorem xr_some {t b d k j : Int} {news : List (Addr × Obj)} {r : Value} (h1 : IsRoot t d k) (h2 : IsRoot b d j) (e1 : k ^ d.toNat = t) (e2 : j ^ d.toNat = b) (h : NumIn news r k j) : XrOut t b d news r :=
  .inl ⟨k, j, h1.1, h2.1, e1, e2, h⟩
theorem pow_inj {d k k1 t : Int} (hd : 1 ≤ d) (h : 0 ≤ k) (h1 : 0 ≤ k1) (e : k ^ d.toNat = t) (e1 : k1 ^ d.toNat = t) : k = k1 := by
  obtain ⟨a, rfl⟩ := Int.eq_ofNat_of_zero_le h
  obtain ⟨b, rfl⟩ := Int.eq_ofNat_of_zero_le h1
  have q := e.trans e1.symm
  rw [← Int.natCast_pow, ← Int.natCast_pow] at q
  exact congrArg Int.ofNat ((Nat.pow_left_inj (dn0 hd)).mp (Int.ofNat.inj q))
end Mine
end
section
open PySem PySem.W PySem.Spec PySem.Calls PyProof.Rows
namespace Mine
set_option maxRecDepth 100000
set_option maxHeartbeats 8000000
theorem made_ok {w : World} {mean : ExcName → Option Value} {mg mb : Str → Option Value} {news : List (Addr × Obj)} (t b : Int) (tt tb : Tok) : CO w mean mg mb 63 [.int t tt, .int b tb] 4 40 news (fun tl r => NumIn (news ++ tl) r t b) := by
  unfold CO
  w_top off
  k_fill
  intro dp un gd cn cs a ccd cl outer A₀ base h₀ L m s Q E B F X N T hk hd9 hu9 hret
  k_with_none
  refine wpAny_call ?_
  k_dflt cell_enter
  k_steps
  · (rename b = 1 => hb); subst hb
    exact co_end [] hret (by k_asm) (ktn_tl0 (by k_asm)) (fun _ h => h) ktn_ord0 .int
  · refine co_end [_, _] hret (by k_asm) (by k_asm) sub2 (ord2 ?_ ?_) (.ratio (List.mem_append_right _ (.head _)) (List.mem_append_right _ (.tail _ (.head _)))) <;> first | assumption | exact allLt_of (by assumption)

end Mine
end
section
open PySem PySem.W PySem.Spec PySem.Calls PyProof.Rows
namespace Mine
set_option maxRecDepth 100000
set_option maxHeartbeats 8000000
set_option genInjectivity false
set_option genSizeOf false
/-- the world and the means of leaving -/
structure BE where
  w : World
  mean : ExcName → Option Value
  mg : Str → Option Value
  mb : Str → Option Value
/-- a def's name, its scope, the room for its calls -/
structure CI where
  cn : Str
  cs : Scope
  D : Nat
  U : Nat
  top : Bool
structure SF where
  E : BE
  C : CI
  cl : List (Str × Addr)
abbrev Led := List (Addr × Obj)
abbrev Loc := Str → Option Value
abbrev noE : Value → Shared → Prop := fun _ _ => False
/-- what a frame is made of -/
structure FX where
  dp : Nat
  un : Nat
  gd : Option (List Code)
  a : Addr
  ccd : Value
  outer : List Env
  A₀ : Around
  base : Heap
  h₀ : Heap
  L : Addr
  gs : Array GenState
  dr : Drawn
  os : OsState
structure OkX (S : SF) (z : FX) : Prop where
  B : Below z.A₀ z.base z.outer z.h₀
  X : (hd.heap_39 S.E.w.params).In z.h₀
  T : Top topProg LZ S.E.mean S.E.mg S.E.mb z.h₀
  k : S.C.cs.kind = .function
  d : z.dp + S.C.D < recursionLimit
  u : z.un + S.C.U < cLine
  t : S.C.top = true → z.outer = [] ∧ z.base = z.h₀ ∧ z.ccd = .ref 307
abbrev FX.A (z : FX) (S : SF) : Around := ktrTop z.dp z.un z.gd S.C.cn S.C.cs z.L z.a z.ccd S.cl z.outer
abbrev FX.env (z : FX) (S : SF) : Env := envX S.C.cn S.C.cs z.L z.a z.ccd S.cl
abbrev FX.st (z : FX) (h : Heap) (tk : Nat) : Shared := ⟨h, z.gs, z.dr, tk, z.os⟩
abbrev PM (w : World) : Model := model PySem.Challenge.rw_nt0253_01.row.prog w
/-- in such a frame, with these names and this ledger, g ends, and what comes out is in O; the names stand -/
def Ev {α : Type} (S : SF) (ρ : Loc) (n : Led) (g : Env → Sem α) (O : Led → α → Prop) : Prop :=
  ∀ (z : FX) (h : Heap) (tk : Nat) (Q : α → Shared → Prop), OkX S z → Fr z.h₀ z.L h ρ → News z.h₀ z.L h n →
    (∀ n' v h' tk', O n' v → Fr z.h₀ z.L h' ρ → News z.h₀ z.L h' n' → Q v (z.st h' tk')) → wpAny (PM S.E.w) (z.A S) (g (z.env S)) Q noE (z.st h tk)
/-- statements: the names may turn -/
def St (S : SF) (ρ : Loc) (n : Led) (b : List Stmt) (R : Loc → Led → Flow → Prop) : Prop :=
  ∀ (z : FX) (h : Heap) (tk : Nat) (Q : Flow → Shared → Prop), OkX S z → Fr z.h₀ z.L h ρ → News z.h₀ z.L h n →
    (∀ ρ' n' v h' tk', R ρ' n' v → Fr z.h₀ z.L h' ρ' → News z.h₀ z.L h' n' → Q v (z.st h' tk')) → wpAny (PM S.E.w) (z.A S) (execs b (z.env S)) Q noE (z.st h tk)
abbrev EvR (S : SF) (ρ : Loc) (n : Led) (e : Expr) (O : Led → Value → Prop) : Prop := Ev S ρ n (eval e) O
abbrev CR (S : SF) (ρ : Loc) (n : Led) (f : Value) (vs : List Value) (O : Led → Value → Prop) : Prop := Ev S ρ n (fun _ => call f vs) O
abbrev OpJ (S : SF) (ρ : Loc) (n : Led) (op : Operator) (u v : Value) (O : Led → Value → Prop) : Prop := Ev S ρ n (fun _ => binaryOp op u v) O
def BoolK (KT KF : Led → Prop) (n : Led) (r : Value) : Prop := (r = .bool true ∧ KT n) ∨ (r = .bool false ∧ KF n)
abbrev CmpJ (S : SF) (ρ : Loc) (n : Led) (op : CmpOp) (u v : Value) (KT KF : Led → Prop) : Prop := Ev S ρ n (fun _ => compareOp op u v) (BoolK KT KF)
abbrev Ts (S : SF) (ρ : Loc) (n : Led) (e : Expr) (KT KF : Led → Prop) : Prop := Ev S ρ n (fun env => isTrue e env (eval e env)) (fun n' b => cond b (KT n') (KF n'))
abbrev upd (ρ : Loc) (x : Str) (v : Value) : Loc := fun y => if y = x then some v else ρ y
def RetO (O : Led → Value → Prop) (_ : Loc) (n' : Led) (f : Flow) : Prop := match f with
  | .ret v => O n' v
  | _ => O n' .none
def Then (S : SF) (rest : List Stmt) (R : Loc → Led → Flow → Prop) (ρ : Loc) (n : Led) (f : Flow) : Prop := match f with
  | .next => St S ρ n rest R
  | f => R ρ n f
/-- what a global name is -/
structure GL (E : BE) (fn : Str) (f : Value) : Prop where
  a : nsIn (hd.heap_39 E.w.params) mainGlobals fn = some (some f)
  b : keepIn (hd.heap_39 E.w.params) f = true
structure BI (E : BE) (fn : Str) (id : String) : Prop where
  a : nsIn (hd.heap_39 E.w.params) mainGlobals fn = some none
  b : bootBuiltins fn = some (.builtin id)
  c : fn ≠ "__name__"
@[elab_as_elim] theorem BoolK.elim {KT KF : Led → Prop} {n : Led} {r : Value} (o : BoolK KT KF n r) {P : Value → Prop} (h1 : KT n → P (.bool true)) (h2 : KF n → P (.bool false)) : P r :=
  Or.elim o (fun e => e.1 ▸ h1 e.2) (fun e => e.1 ▸ h2 e.2)
theorem boolK {KT KF : Led → Prop} {n : Led} {c : Bool} (h1 : c = true → KT n) (h2 : c = false → KF n) : BoolK KT KF n (.bool c) := match c with
  | true => .inl ⟨rfl, h1 rfl⟩
  | false => .inr ⟨rfl, h2 rfl⟩
theorem decK {KT KF : Led → Prop} {n : Led} {p : Prop} [Decidable p] (h1 : p → KT n) (h2 : ¬ p → KF n) : BoolK KT KF n (.bool (decide p)) := boolK (fun h => h1 (of_decide_eq_true h)) (fun h => h2 (of_decide_eq_false h))
section
variable {S : SF} {ρ : Loc} {n : Led} {x y fn : Str} {u v f : Value} {e l r t e1 e2 : Expr} {pos p2 p3 : Pos} {i j : Int} {O : Led → Value → Prop} {R : Loc → Led → Flow → Prop} {rest body els : List Stmt} {KT KF : Led → Prop} {a b : Tok} {id : String}
theorem Ev.sub {α : Type} {g : Env → Sem α} {O : Led → α → Prop} {n' : Led} (hs : ∀ p ∈ n', p ∈ n) (h : Ev S ρ n' g O) : Ev S ρ n g O := fun z _ _ _ G F N q => h z _ _ _ G F (fun p hp => N p (hs p hp)) q
theorem St.sub {n' : Led} (hs : ∀ p ∈ n', p ∈ n) (h : St S ρ n' body R) : St S ρ n body R := fun z _ _ _ G F N q => h z _ _ _ G F (fun p hp => N p (hs p hp)) q
theorem Ev.mono {α : Type} {g : Env → Sem α} {O O' : Led → α → Prop} (h : Ev S ρ n g O) (k : ∀ n' v, O n' v → O' n' v) : Ev S ρ n g O' := fun z _ _ _ G F N q => h z _ _ _ G F N fun _ _ _ _ o => q _ _ _ _ (k _ _ o)
theorem Ev.use {α : Type} {g : Env → Sem α} {O : Led → α → Prop} (C : Ev S ρ n g O) {z : FX} {h : Heap} {tk : Nat} (G : OkX S z) (F : Fr z.h₀ z.L h ρ) (N : News z.h₀ z.L h n) {Q : α → Shared → Prop} {E : Value → Shared → Prop}
    (q : ∀ n' v h' tk', O n' v → Fr z.h₀ z.L h' ρ → News z.h₀ z.L h' n' → Q v (z.st h' tk')) : wpAny (PM S.E.w) (z.A S) (g (z.env S)) Q E (z.st h tk) := wpAny_mono (C z h tk Q G F N q) (fun _ _ x => x) fun _ _ (x : False) => x.elim
theorem ev_name (hv : ρ x = some v) (hx : S.C.cs.names.lookup x = some .local) (hd : (x == ("__debug__" : Str)) = false) (h : O n v) : EvR S ρ n (.Name x pos) O :=
  fun _ _ _ _ G F N q => nameX_L F hv (q _ _ _ _ h F N) G.k hx hd
theorem ev_int {k : Nat} (h : ∀ t, O n (.int i t)) : EvR S ρ n (.Constant (.int i) k pos) O := fun _ _ _ _ _ F N q => wpAny_Constant_int (q _ _ _ _ (h _) F N)
theorem ev_none {k : Nat} (h : O n .none) : EvR S ρ n (.Constant .none k pos) O := fun _ _ _ _ _ F N q => wpAny_Constant_none (q _ _ _ _ h F N)
theorem ev_op {op : Operator} (h : EvR S ρ n l fun n1 u => EvR S ρ n1 r fun n2 v => OpJ S ρ n2 op u v O) : EvR S ρ n (.BinOp l op r pos) O :=
  fun z _ _ _ G F N q => wpAny_BinOp (h z _ _ _ G F N fun _ _ _ _ o F N => o z _ _ _ G F N fun _ _ _ _ o F N => o z _ _ _ G F N q)
theorem op_add (h : ∀ t, O n (.int (i + j) t)) : OpJ S ρ n .Add (.int i a) (.int j b) O := fun _ _ _ _ _ F N q => PyProof.Rows.add_int (q _ _ _ _ (h _) F N)
theorem op_sub (h : ∀ t, O n (.int (i - j) t)) : OpJ S ρ n .Sub (.int i a) (.int j b) O := fun _ _ _ _ _ F N q => PyProof.Rows.sub_int (q _ _ _ _ (h _) F N)
theorem op_mul (hm : IntMulOk i j) (h : ∀ t, O n (.int (i * j) t)) : OpJ S ρ n .Mult (.int i a) (.int j b) O := fun _ _ _ _ _ F N q => PyProof.Rows.mul_int (q _ _ _ _ (h _) F N) hm
theorem op_div (h0 : j ≠ 0) (hp : Builtin.divisionGoesByPylong i j = false) (h : ∀ t, O n (.int (i.fdiv j) t)) : OpJ S ρ n .FloorDiv (.int i a) (.int j b) O := fun _ _ _ _ _ F N q => PyProof.Rows.floordiv_int h0 (q _ _ _ _ (h _) F N) (.inl hp)
theorem op_mod (h0 : j ≠ 0) (h : ∀ t, O n (.int (i.fmod j) t)) : OpJ S ρ n .Mod (.int i a) (.int j b) O := fun _ _ _ _ _ F N q => PyProof.Rows.mod_int' h0 (q _ _ _ _ (h _) F N)
theorem op_shl (h0 : 0 ≤ j) (h1 : j ≤ 1000000) (h2 : i.natAbs < 2 ^ 64) (h : ∀ t, O n (.int (i * 2 ^ j.toNat) t)) : OpJ S ρ n .LShift (.int i a) (.int j b) O := fun _ _ _ _ _ F N q => lshift_int_small h0 h1 h2 (q _ _ _ _ (h _) F N)
theorem op_bsub {c d : Bool} (h : ∀ t, O n (.int (b2i c - b2i d) t)) : OpJ S ρ n .Sub (.bool c) (.bool d) O := fun _ _ _ _ _ F N q => sub_bool (q _ _ _ _ (h _) F N)
theorem cmp_lt (h1 : i < j → KT n) (h2 : ¬ i < j → KF n) : CmpJ S ρ n .Lt (.int i a) (.int j b) KT KF := fun _ _ _ _ _ F N q => PyProof.Rows.lt_int (q _ _ _ _ (decK h1 h2) F N)
theorem cmp_gt (h1 : j < i → KT n) (h2 : ¬ j < i → KF n) : CmpJ S ρ n .Gt (.int i a) (.int j b) KT KF := fun _ _ _ _ _ F N q => PyProof.Rows.gt_int (q _ _ _ _ (decK h1 h2) F N)
theorem cmp_le (h1 : i ≤ j → KT n) (h2 : ¬ i ≤ j → KF n) : CmpJ S ρ n .LtE (.int i a) (.int j b) KT KF := fun _ _ _ _ _ F N q => PyProof.Rows.le_int (q _ _ _ _ (decK h1 h2) F N)
theorem cmp_ge (h1 : j ≤ i → KT n) (h2 : ¬ j ≤ i → KF n) : CmpJ S ρ n .GtE (.int i a) (.int j b) KT KF := fun _ _ _ _ _ F N q => PyProof.Rows.ge_int (q _ _ _ _ (decK h1 h2) F N)
theorem cmp_eq (h1 : i = j → KT n) (h2 : i ≠ j → KF n) : CmpJ S ρ n .Eq (.int i a) (.int j b) KT KF := fun _ _ _ _ _ F N q => PyProof.Rows.eq_int (q _ _ _ _ (boolK (fun h => h1 (eq_of_beq h)) (fun h => h2 (ne_of_beq_false h))) F N)
theorem cmp_ne (h1 : i ≠ j → KT n) (h2 : i = j → KF n) : CmpJ S ρ n .NotEq (.int i a) (.int j b) KT KF := fun _ _ _ _ _ F N q => PyProof.Rows.ne_int (q _ _ _ _ (boolK (fun h => h1 (bne_iff_ne.mp h)) (fun h => h2 (by simpa using h))) F N)
theorem ts_cmp {op : CmpOp} (h : EvR S ρ n l fun n1 u => EvR S ρ n1 r fun n2 v => CmpJ S ρ n2 op u v KT KF) (hm : behindInMarks op r = false) : Ts S ρ n (.Compare l [op] [r] pos) KT KF :=
  fun z _ _ _ G F N q => wpAny_isTrue_Compare1 (h z _ _ _ G F N fun _ _ _ _ o F N => o z _ _ _ G F N fun _ _ _ _ o F N => o z _ _ _ G F N fun _ _ _ _ o F N =>
    o.elim (fun k => wpAny_truthy_bool (q _ true _ _ k F N)) fun k => wpAny_truthy_bool (q _ false _ _ k F N)) hm
theorem ev_cmp {op : CmpOp} (h : EvR S ρ n l fun n1 u => EvR S ρ n1 r fun n2 v => CmpJ S ρ n2 op u v (fun n' => O n' (.bool true)) (fun n' => O n' (.bool false))) (hm : behindInMarks op r = false) : EvR S ρ n (.Compare l [op] [r] pos) O :=
  fun z _ _ _ G F N q => wpAny_Compare1 (h z _ _ _ G F N fun _ _ _ _ o F N => o z _ _ _ G F N fun _ _ _ _ o F N => o z _ _ _ G F N fun _ _ _ _ o F N =>
    o.elim (fun k => q _ (.bool true) _ _ k F N) fun k => q _ (.bool false) _ _ k F N) hm
theorem ev_cmpv {op : CmpOp} (h : EvR S ρ n l fun n1 u => EvR S ρ n1 r fun n2 v => Ev S ρ n2 (fun _ => compareOp op u v) O) (hm : behindInMarks op r = false) : EvR S ρ n (.Compare l [op] [r] pos) O :=
  fun z _ _ _ G F N q => wpAny_Compare1 (h z _ _ _ G F N fun _ _ _ _ o F N => o z _ _ _ G F N fun _ _ _ _ o F N => o z _ _ _ G F N q) hm
theorem cmpv_lt (h : O n (.bool (decide (i < j)))) : Ev S ρ n (fun _ => compareOp .Lt (.int i a) (.int j b)) O := fun _ _ _ _ _ F N q => PyProof.Rows.lt_int (q _ _ _ _ h F N)
theorem cmpv_gt (h : O n (.bool (decide (j < i)))) : Ev S ρ n (fun _ => compareOp .Gt (.int i a) (.int j b)) O := fun _ _ _ _ _ F N q => PyProof.Rows.gt_int (q _ _ _ _ h F N)
@[elab_as_elim] theorem condP {P : Bool → Prop} {c : Bool} {A B : Prop} (o : cond c A B) (h1 : A → P true) (h2 : B → P false) : P c := match c, o with
  | true, o => h1 o
  | false, o => h2 o
theorem ts_not (h : Ts S ρ n t KF KT) : Ts S ρ n (.UnaryOp .Not t pos) KT KF :=
  fun z _ _ _ G F N q => wpAny_isTrue_Not (h z _ _ _ G F N fun _ _ _ _ o F N => condP o (fun k => q _ false _ _ k F N) fun k => q _ true _ _ k F N)
theorem ts_or (h : Ts S ρ n l KT fun n' => Ts S ρ n' r KT KF) : Ts S ρ n (.BoolOp .Or [l, r] pos) KT KF :=
  fun z _ _ _ G F N q => isTrue_or (h z _ _ _ G F N fun _ _ _ _ o F N => condP o (fun k => q _ true _ _ k F N) fun k => isTrue_or (k z _ _ _ G F N fun _ _ _ _ o F N => condP o (fun k => q _ true _ _ k F N) fun k => isTrue_or_nil (q _ false _ _ k F N)))
theorem ts_or3 {m : Expr} (h : Ts S ρ n l KT fun n' => Ts S ρ n' m KT fun n' => Ts S ρ n' r KT KF) : Ts S ρ n (.BoolOp .Or [l, m, r] pos) KT KF :=
  fun z _ _ _ G F N q => isTrue_or (h z _ _ _ G F N fun _ _ _ _ o F N => condP o (fun k => q _ true _ _ k F N) fun k => isTrue_or (k z _ _ _ G F N fun _ _ _ _ o F N => condP o (fun k => q _ true _ _ k F N) fun k => isTrue_or (k z _ _ _ G F N fun _ _ _ _ o F N => condP o (fun k => q _ true _ _ k F N) fun k => isTrue_or_nil (q _ false _ _ k F N))))
theorem ts_and (h : Ts S ρ n l (fun n' => Ts S ρ n' r KT KF) KF) : Ts S ρ n (.BoolOp .And [l, r] pos) KT KF :=
  fun z _ _ _ G F N q => isTrue_and (h z _ _ _ G F N fun _ _ _ _ o F N => condP o (fun k => isTrue_and (k z _ _ _ G F N fun _ _ _ _ o F N => condP o (fun k => isTrue_and_nil (q _ true _ _ k F N)) fun k => q _ false _ _ k F N)) fun k => q _ false _ _ k F N)
theorem ts_ev (h : EvR S ρ n e (BoolK KT KF)) (he : ∀ env whole, isTrue e env whole = (do let v ← whole; standAt e.pos; holding [v] (truthy v))) : Ts S ρ n e KT KF :=
  fun z _ _ _ G F N q => isTrue_plain (h z _ _ _ G F N fun _ _ _ _ o F N => o.elim (fun k => wpAny_truthy_bool (q _ true _ _ k F N)) fun k => wpAny_truthy_bool (q _ false _ _ k F N)) (he _ _)
theorem ev_or (h : EvR S ρ n l (BoolK (fun n' => O n' (.bool true)) (fun n' => EvR S ρ n' r O))) : EvR S ρ n (.BoolOp .Or [l, r] pos) O :=
  fun z _ _ _ G F N q => BoolOp_or (h z _ _ _ G F N fun _ _ _ _ o F N => o.elim (fun k => wpAny_truthy_bool (q _ (.bool true) _ _ k F N)) fun k => wpAny_truthy_bool (BoolOp_one (k z _ _ _ G F N q)))
theorem ev_ifexp (h : Ts S ρ n t (fun n' => EvR S ρ n' l O) (fun n' => EvR S ρ n' r O)) : EvR S ρ n (.IfExp t l r pos) O :=
  fun z _ _ _ G F N q => IfExp_ (h z _ _ _ G F N fun _ _ _ _ o F N => condP o (fun k => k z _ _ _ G F N q) fun k => k z _ _ _ G F N q)
theorem st_ret (h : EvR S ρ n e fun n' v => R ρ n' (.ret v)) : St S ρ n (.Return (some e) pos :: rest) R :=
  fun z _ _ _ G F N q => wpAny_execs_cons (wpAny_Return_some (h z _ _ _ G F N fun _ _ _ _ o F N => q _ _ _ _ _ o F N))
theorem st_nil (h : R ρ n .next) : St S ρ n [] R := fun _ _ _ _ _ F N q => wpAny_execs_nil (q _ _ _ _ _ h F N)
theorem st_set (h : EvR S ρ n e fun n' v => St S (upd ρ x v) n' rest R) (hx : S.C.cs.names.lookup x = some .local) (hs : ∀ env, swapsWith e (some (.Name x p2)) pos.line env = pure false) : St S ρ n (.Assign [.Name x p2] e pos :: rest) R :=
  fun z _ _ _ G F N q => wpAny_execs_cons (wpAny_Assign_Name (h z _ _ _ G F N fun _ _ _ _ o F N => storeX_L F N (fun _ F N => o z _ _ _ G F N q) G.k hx) (hs _))
theorem thenQ {z : FX} {Q : Flow → Shared → Prop} (G : OkX S z) (q : ∀ ρ' n' v h' tk', R ρ' n' v → Fr z.h₀ z.L h' ρ' → News z.h₀ z.L h' n' → Q v (z.st h' tk')) :
    ∀ (ρ' : Loc) (n' : Led) (f : Flow) (h' : Heap) (tk' : Nat), Then S rest R ρ' n' f → Fr z.h₀ z.L h' ρ' → News z.h₀ z.L h' n' → (match (generalizing := false) f with | .next => wpAny (PM S.E.w) (z.A S) (execs rest (z.env S)) Q noE (z.st h' tk') | f => Q f (z.st h' tk')) := fun ρ' n' f h' tk' o F N => match f, o with
    | .next, o => o z _ _ _ G F N q
    | .ret _, o => q _ _ _ _ _ o F N
    | .brk, o => q _ _ _ _ _ o F N
    | .cont, o => q _ _ _ _ _ o F N
theorem st_if (h : Ts S ρ n t (fun n' => St S ρ n' body (Then S rest R)) (fun n' => St S ρ n' els (Then S rest R))) : St S ρ n (.If t body els pos :: rest) R :=
  fun z _ _ _ G F N q => wpAny_execs_cons (wpAny_If (h z _ _ _ G F N fun _ _ _ _ o F N => condP o (fun k => k z _ _ _ G F N (thenQ G q)) fun k => k z _ _ _ G F N (thenQ G q)))
def WhR (J : Nat → Loc → Led → Prop) (k : Nat) (ρ : Loc) (n : Led) (f : Flow) : Prop := match f with
  | .next => ∃ k', k' < k ∧ J k' ρ n
  | _ => False
theorem st_while {J : Nat → Loc → Led → Prop} {k₀ : Nat} (hJ : J k₀ ρ n) (turn : ∀ k ρ n, J k ρ n → Ts S ρ n t (fun n' => St S ρ n' body (WhR J k)) (fun n' => St S ρ n' rest R)) : St S ρ n (.While t body [] pos :: rest) R :=
  fun z _ _ _ G F N q => wpAny_execs_cons (While_inv2 J F N hJ (fun _ _ _ _ _ F N hJ => turn _ _ _ hJ z _ _ _ G F N fun _ _ _ _ o F N => condP o
    (fun k => k z _ _ _ G F N fun _ _ f _ _ o F N => match f, o with
    | .next, o => o.elim fun _ o => ⟨_, _, _, _, _, rfl, F, N, o.1, o.2⟩
    | .ret _, o => o.elim
    | .brk, o => o.elim
    | .cont, o => o.elim) fun k => k z _ _ _ G F N q) fun _ _ h => h.elim)
def Wh2 (x y : Str) (I : Loc → Int → Int → Prop) (μ : Int → Int → Nat) (n : Led) (k : Nat) (ρ : Loc) (n' : Led) : Prop := (∀ p ∈ n, p ∈ n') ∧ ∃ p q a b, ρ x = some (.int p a) ∧ ρ y = some (.int q b) ∧ I ρ p q ∧ μ p q = k
/-- a while over two ints of the frame -/
theorem st_while2 (I : Loc → Int → Int → Prop) (μ : Int → Int → Nat) (h1 : ρ x = some (.int i a)) (h2 : ρ y = some (.int j b)) (h3 : I ρ i j)
    (turn : ∀ ρ p q a b, ρ x = some (.int p a) → ρ y = some (.int q b) → I ρ p q → Ts S ρ n t (fun n' => St S ρ n' body (WhR (Wh2 x y I μ n) (μ p q))) (fun n' => St S ρ n' rest R)) : St S ρ n (.While t body [] pos :: rest) R :=
  st_while (J := Wh2 x y I μ n) ⟨fun _ h => h, _, _, _, _, h1, h2, h3, rfl⟩ fun _ _ _ ⟨hs, _, _, _, _, h1, h2, h3, e⟩ => e ▸ Ev.sub hs (turn _ _ _ _ _ h1 h2 h3)
theorem wh2 {I : Loc → Int → Int → Prop} {μ : Int → Int → Nat} {k : Nat} (h1 : ρ x = some (.int i a)) (h2 : ρ y = some (.int j b)) (h3 : I ρ i j) (hlt : μ i j < k) : St S ρ n [] (WhR (Wh2 x y I μ n) k) :=
  st_nil ⟨_, hlt, fun _ h => h, _, _, _, _, h1, h2, h3, rfl⟩
/-- calls of the program's defs, of built-in functions -/
theorem ev_call1 (g : GL S.E fn f) (hx : S.C.cs.names.lookup fn = some .globalImplicit) (hd : (fn == ("__debug__" : Str)) = false) (he : ∀ env, starEach [e] env = [(false, eval e env)]) (h : EvR S ρ n e fun n1 v => CR S ρ n1 f [v] O) : EvR S ρ n (.Call (.Name fn p2) [e] [] pos) O :=
  fun z _ _ _ G F N q => Call_ (nameX_K F G.X (topRead_of G.T) g.a (callWith_K G.X g.b (args_cons (h z _ _ _ G F N fun _ _ _ _ o F N => args_nil ⟨G.X.keeps F.keep, o z _ _ _ G F N q⟩) (he _)) (he _) rfl) G.k hx hd)
theorem ev_call2 (g : GL S.E fn f) (hx : S.C.cs.names.lookup fn = some .globalImplicit) (hd : (fn == ("__debug__" : Str)) = false) (he : ∀ env, starEach [e, e2] env = (false, eval e env) :: starEach [e2] env) (he2 : ∀ env, starEach [e2] env = [(false, eval e2 env)])
    (h : EvR S ρ n e fun n1 v => EvR S ρ n1 e2 fun n2 u => CR S ρ n2 f [v, u] O) : EvR S ρ n (.Call (.Name fn p2) [e, e2] [] pos) O :=
  fun z _ _ _ G F N q => Call_ (nameX_K F G.X (topRead_of G.T) g.a (callWith_K G.X g.b (args_cons (h z _ _ _ G F N fun _ _ _ _ o F N => args_cons (o z _ _ _ G F N fun _ _ _ _ o F N => args_nil ⟨G.X.keeps F.keep, o z _ _ _ G F N q⟩) (he2 _)) (he _)) (he _) (by rw [he2]; rfl)) G.k hx hd)
theorem ev_bi1 (g : BI S.E fn id) (hx : S.C.cs.names.lookup fn = some .globalImplicit) (hd : (fn == ("__debug__" : Str)) = false) (he : ∀ env, starEach [e] env = [(false, eval e env)]) (h : EvR S ρ n e fun n1 v => CR S ρ n1 (.builtin id) [v] O) : EvR S ρ n (.Call (.Name fn p2) [e] [] pos) O :=
  fun z _ _ _ G F N q => Call_ (nameX_B F G.X (topRead_of G.T) g.a g.b g.c (PyProof.Rows.callWith_builtin1 (args_cons (h z _ _ _ G F N fun _ _ _ _ o F N => args_nil (o z _ _ _ G F N q)) (he _)) (he _) rfl) G.k hx hd)
theorem ev_bi2 (g : BI S.E fn id) (hx : S.C.cs.names.lookup fn = some .globalImplicit) (hd : (fn == ("__debug__" : Str)) = false) (he : ∀ env, starEach [e, e2] env = (false, eval e env) :: starEach [e2] env) (he2 : ∀ env, starEach [e2] env = [(false, eval e2 env)])
    (h : EvR S ρ n e fun n1 v => EvR S ρ n1 e2 fun n2 u => CR S ρ n2 (.builtin id) [v, u] O) : EvR S ρ n (.Call (.Name fn p2) [e, e2] [] pos) O :=
  fun z _ _ _ G F N q => Call_ (nameX_B F G.X (topRead_of G.T) g.a g.b g.c (PyProof.Rows.callWith_builtin1 (args_cons (h z _ _ _ G F N fun _ _ _ _ o F N => args_cons (o z _ _ _ G F N fun _ _ _ _ o F N => args_nil (o z _ _ _ G F N q)) (he2 _)) (he _)) (he _) (by rw [he2]; rfl)) G.k hx hd)
theorem cr_abs (h : ∀ t, O n (.int (if i < 0 then -i else i) t)) : CR S ρ n (.builtin "abs") [.int i a] O := fun _ _ _ _ _ F N q => call_abs_int fun _ _ => q _ _ _ _ (h _) F N
abbrev tup2 (u v : Value) : Obj := { cls := .type "tuple", data := .seq #[u, v] }
theorem ev_pair {k : Nat} (he : ∀ env, starEach [e, e2] env = (false, eval e env) :: starEach [e2] env) (he2 : ∀ env, starEach [e2] env = [(false, eval e2 env)]) (h : EvR S ρ n e fun n1 v => EvR S ρ n1 e2 fun n2 u => ∀ D, O ((D, tup2 v u) :: n2) (.ref D)) : EvR S ρ n (.Tuple [e, e2] k pos) O :=
  fun z _ _ _ G F N q => Tuple_ (args_cons (h z _ _ _ G F N fun _ _ _ _ o F N => args_cons (o z _ _ _ G F N fun _ _ _ _ o F N => args_nil (kup_newTuple F N (fun D _ F N _ => q _ _ _ _ (o D) F N) (Nat.le_of_ble_eq_true rfl))) (he2 _)) (he _))
inductive Pair (n : Led) (K : Value → Value → Prop) : Value → Prop where
  | mk {D : Addr} {v u : Value} (m : (D, tup2 v u) ∈ n) (k : K v u) : Pair n K (.ref D)
theorem st_set2 {p4 : Pos} {k : Nat} {xs : List Expr} (h : EvR S ρ n e fun n' r => Pair n' (fun v u => St S (upd (upd ρ y u) x v) n' rest R) r) (hx : S.C.cs.names.lookup x = some .local) (hy : S.C.cs.names.lookup y = some .local)
    (hs : ∀ env, swapsWithSole [.Tuple xs k p4] e pos.line env = pure false) (hw : ∀ z : FX, swappedStores [.Tuple xs k p4] e (z.env S) = pure (some [x, y])) : St S ρ n (.Assign [.Tuple xs k p4] e pos :: rest) R :=
  fun z _ _ _ G F N q => wpAny_execs_cons (Assign_Tuple_swapped (h z _ _ _ G F N fun _ _ _ _ o F N => o.casesOn fun hm o => unpackItemsN_ F N (N.isTup hm) rfl rfl fun _ F N =>
    assignInOrder_cons (bindName_ (storeX_L F N (fun _ F N => assignInOrder_cons (bindName_ (storeX_L F N (fun _ F N => assignInOrder_nil (o z _ _ _ G F N q)) G.k hx))) G.k hy))) (hs _) (hw _))
theorem st_pair {D : Addr} (h : St S (upd (upd ρ y u) x v) n rest R) : Pair ((D, tup2 v u) :: n) (fun v' u' => St S (upd (upd ρ y u') x v') ((D, tup2 v u) :: n) rest R) (.ref D) := ⟨.head _, h.sub fun _ h => .tail _ h⟩
end
theorem retO {O : Led → Value → Prop} {ρ : Loc} {n : Led} {f : Flow} (o : RetO O ρ n f) : O n (match (generalizing := false) f with | .ret v => v | _ => .none) := match f, o with | .ret _, o => o | .next, o => o | .brk, o => o | .cont, o => o
/-- a def by its body -/
theorem cr_def {S : SF} {ρ : Loc} {n : Led} {O : Led → Value → Prop} {f : Addr} {vs : List Value} {D U : Nat} {name qual : Str} {params : Arguments} {body : List Stmt} {scope : Scope} {dV kV doc pm cdv ct oc : Value} {an od : Option Addr} {osl : Array (Option Value)} {binds : List (Str × Value)}
    (hD : D + 1 ≤ S.C.D) (hU : U + 3 ≤ S.C.U) (ho : (hd.heap_39 S.E.w.params).lookup f = some ⟨oc, od, .func (fnOf name qual params body scope dV kV doc pm an cdv ct), osl⟩) (hcd : codeIn (hd.heap_39 S.E.w.params) cdv qual = true)
    (hbind : bindArgs (fnOf name qual params body scope dV kV doc pm an cdv ct) ⟨vs, []⟩ = pure binds) (hloc : ∀ y ∈ binds, scope.names.lookup y.1 = some .local)
    (hco : scope.isCoroutine = false) (hgen : scope.isGenerator = false) (hk : scope.kind = .function) (hcell : ∀ x ∈ scope.names, x.2 ≠ .cell)
    (hb : St ⟨S.E, ⟨qual, scope, D, U, false⟩, []⟩ (fun y => binds.reverse.lookup y) n body (RetO O)) : CR S ρ n (.ref f) vs O := fun z h tk Q G F N q =>
  wpAny_call (code_def G.B F G.X N G.T rfl rfl G.k ho hcd (Nat.lt_of_le_of_lt (Nat.le_add_right _ _) G.d) (BindsTo.of_eq hbind) hloc (fun g L' h₁ FG F' N' B' X' T' =>
    wpAny_mono (hb ⟨z.dp + 1, z.un + 3, _, _, _, _, _, _, _, _, z.gs, z.dr, z.os⟩ _ _ _ ⟨B', X', T', hk, Nat.lt_of_le_of_lt (by rw [Nat.add_assoc, Nat.add_comm 1]; exact Nat.add_le_add_left hD _) G.d, Nat.lt_of_le_of_lt (by rw [Nat.add_assoc, Nat.add_comm 3]; exact Nat.add_le_add_left hU _) G.u, fun h => nomatch h⟩ F' N'
      fun _ _ fl _ _ o F N => leaveK_ F N fun F N => q _ _ _ _ (retO o) F N) (fun _ _ x => x) (fun _ _ (x : False) => x.elim)) hco hgen hk hcell)
section
variable {w : World} {mean : ExcName → Option Value} {mg mb : Str → Option Value} {cn : Str} {cs : Scope} {cl : List (Str × Addr)} {S : SF} {ρ : Loc} {f : Addr} {vs : List Value} {n : Led} {O : Led → Value → Prop} {D U : Nat}
theorem CR.use {f : Value} (C : CR ⟨⟨w, mean, mg, mb⟩, ⟨cn, cs, D, U, false⟩, cl⟩ ρ n f vs O) {dp un : Nat} {gd : Option (List Code)} {a : Addr} {ccd : Value} {outer : List Env} {A₀ : Around} {base h₀ : Heap} {L : Addr} {s : Shared} {Q E : Value → Shared → Prop}
    (B : Below A₀ base outer h₀) (F : Fr h₀ L s.heap ρ) (X : (hd.heap_39 w.params).In h₀) (N : News h₀ L s.heap n) (T : Top topProg LZ mean mg mb h₀) (k : cs.kind = .function) (d : dp + D < recursionLimit) (u : un + U < cLine)
    (q : ∀ r n' h' tk', O n' r → Fr h₀ L h' ρ → News h₀ L h' n' → Q r { s with heap := h', toks := tk' }) :
    wpAny (PM w) (ktrTop dp un gd cn cs L a ccd cl outer) (call f vs) Q E s :=
  wpAny_mono (C ⟨dp, un, gd, a, ccd, outer, A₀, base, h₀, L, s.gens, s.drawn, s.os⟩ s.heap s.toks Q ⟨B, X, T, k, d, u, fun h => nomatch h⟩ F N fun _ _ _ _ o F N => q _ _ _ _ o F N) (fun _ _ x => x) fun _ _ (x : False) => x.elim
theorem co_cr {Out : Led → Value → Prop} (C : CO S.E.w S.E.mean S.E.mg S.E.mb f vs D U n Out) (hD : D ≤ S.C.D) (hU : U ≤ S.C.U) (k : ∀ tl r, Out tl r → O (n ++ tl) r) : CR S ρ n (.ref f) vs O :=
  fun _ _ _ _ G F N q => CO.use C G.B F G.X N G.T G.k (Nat.lt_of_le_of_lt (Nat.add_le_add_left hD _) G.d) (Nat.lt_of_le_of_lt (Nat.add_le_add_left hU _) G.u) fun _ _ _ _ F N _ o => q _ _ _ _ (k _ _ o) F N
end
end Mine
end
section
open PySem PySem.W PySem.Spec PySem.Calls PyProof.Rows
namespace Mine
set_option maxRecDepth 100000
set_option maxHeartbeats 8000000
section
variable {S : SF} {ρ : Loc} {n : Led} {x y fn : Str} {u v f : Value} {e l r t e1 e2 : Expr} {pos p2 p3 p4 : Pos} {i j : Int} {O : Led → Value → Prop} {R : Loc → Led → Flow → Prop} {rest body els : List Stmt} {KT KF : Led → Prop} {a b : Tok} {id : String}
theorem Ts.use (C : Ts S ρ n e KT KF) {z : FX} {h : Heap} {tk : Nat} (G : OkX S z) (F : Fr z.h₀ z.L h ρ) (N : News z.h₀ z.L h n) {Q : Bool → Shared → Prop} {E : Value → Shared → Prop}
    (q : ∀ n' v h' tk', cond v (KT n') (KF n') → Fr z.h₀ z.L h' ρ → News z.h₀ z.L h' n' → Q v (z.st h' tk')) : wpAny (PM S.E.w) (z.A S) (isTrue e (z.env S) (eval e (z.env S))) Q E (z.st h tk) := Ev.use C G F N q
theorem ev_glob (g : nsIn (hd.heap_39 S.E.w.params) mainGlobals fn = some (some f)) (hx : S.C.cs.names.lookup fn = some .globalImplicit) (hd : (fn == ("__debug__" : Str)) = false) (h : O n f) : EvR S ρ n (.Name fn pos) O :=
  fun _ _ _ _ G F N q => nameX_K F G.X (topRead_of G.T) g (q _ _ _ _ h F N) G.k hx hd
def BitsK (O : Led → Value → Prop) (n : Led) (v : Value) : Prop := ∃ i a, v = .int i a ∧ ∀ t, O n (.int (Builtin.Int.intBits i) t)
theorem bitsK (h : ∀ t, O n (.int (Builtin.Int.intBits i) t)) : BitsK O n (.int i a) := ⟨i, a, rfl, h⟩
theorem ev_bits {pl : FX → Sem Bool}
    (he : ∀ z : FX, eval (.Call (.Attribute e (Str.ofString "bit_length") p2) [] [] pos) (z.env S) = (do let ov ← eval e (z.env S); standAt p2.atName; let x ← holding [ov] (getMethod ov (Str.ofString "bit_length") (pl z)); match x with | (f, first) => callWith pos f first (backTo pos (starEach [] (z.env S))) []))
    (h : EvR S ρ n e (BitsK O)) : EvR S ρ n (.Call (.Attribute e (Str.ofString "bit_length") p2) [] [] pos) O :=
  fun z _ _ _ G F N q => MethodCall_ (h z _ _ _ G F N fun _ _ _ _ o F N => have ⟨_, _, e, o⟩ := o; e ▸ getMethod_int_bit_length (callWith_method0 (call_int_bit_length (q _ _ _ _ (o _) F N)))) (he z)
theorem is_num {c d : Int} (hv : NumIn n v c d) (h : KF n) : CmpJ S ρ n .Is v .none KT KF := fun _ _ _ _ _ F N q => match v, hv with
  | _, .int => is_int_none (q _ (.bool false) _ _ (.inr ⟨rfl, h⟩) F N)
  | _, .ratio _ _ => is_ref_none (q _ (.bool false) _ _ (.inr ⟨rfl, h⟩) F N)
theorem is_none (h : KT n) : CmpJ S ρ n .Is .none .none KT KF := fun _ _ _ _ _ F N q => is_none_none (q _ (.bool true) _ _ (.inl ⟨rfl, h⟩) F N)
theorem eq_none (h : KT n) : CmpJ S ρ n .Eq .none .none KT KF := fun _ _ _ _ _ F N q => EqNone.eq_none_none (q _ (.bool true) _ _ (.inl ⟨rfl, h⟩) F N)
theorem cr_max (h : ∀ t, O n (.int (if j > i then j else i) t)) : CR S ρ n (.builtin "max") [.int i a, .int j b] O := fun _ _ _ _ _ F N q => max_two_N rfl F N fun _ _ F N => q _ _ _ _ (h _) F N
theorem units_z {z : FX} (G : OkX S z) (h : 64 ≤ S.C.U) : (z.A S).units + 64 < cLine := Nat.lt_of_le_of_lt (Nat.add_le_add_left h z.un) G.u
theorem eqv_self2 : PyData.eqv (.tuple [.int i, .int j]) (.tuple [.int i, .int j]) = true := by simp [PyData.eqv, PyData.eqvAll]
theorem reads2 {h₀ h : Heap} {L D : Addr} (N : News h₀ L h n) (m : (D, tup2 (.int i a) (.int j b)) ∈ n) : ∃ as, Reads h (.ref D) (.tuple [.int i, .int j]) as := ⟨_, reads_tuple_at (N.get m) rfl rfl (.cons (.int _ _) (.cons (.int _ _) .nil))⟩
theorem eq_tup2 {D D' : Addr} {c d : Tok} (hU : 64 ≤ S.C.U) (m1 : (D, tup2 (.int i a) (.int j b)) ∈ n) (m2 : (D', tup2 (.int i c) (.int j d)) ∈ n) (h : KT n) : CmpJ S ρ n .Eq (.ref D) (.ref D') KT KF := fun z _ _ _ G F N q =>
  (reads2 N m1).elim fun _ r1 => (reads2 N m2).elim fun _ r2 => eq_dataH r1 r2 rfl rfl (units_z G hU) (eqv_self2.symm ▸ q _ (.bool true) _ _ (.inl ⟨rfl, h⟩) F N)
theorem ne_tup2 {D D' : Addr} {c d : Tok} (hU : 64 ≤ S.C.U) (m1 : (D, tup2 (.int i a) (.int j b)) ∈ n) (m2 : (D', tup2 (.int i c) (.int j d)) ∈ n) (h : KF n) : CmpJ S ρ n .NotEq (.ref D) (.ref D') KT KF := fun z _ _ _ G F N q =>
  (reads2 N m1).elim fun _ r1 => (reads2 N m2).elim fun _ r2 => ne_dataH r1 r2 rfl rfl (units_z G hU) (eqv_self2.symm ▸ q _ (.bool false) _ _ (.inr ⟨rfl, h⟩) F N)
theorem st_set2n {p5 p6 : Pos} {k : Nat} (h : EvR S ρ n e fun n' r => Pair n' (fun v u => St S (upd (upd ρ x v) y u) n' rest R) r) (hx : S.C.cs.names.lookup x = some .local) (hy : S.C.cs.names.lookup y = some .local)
    (hs : ∀ env, swapsWithSole [.Tuple [.Name x p5, .Name y p6] k p4] e pos.line env = pure false) (hw : ∀ z : FX, swappedStores [.Tuple [.Name x p5, .Name y p6] k p4] e (z.env S) = pure none) : St S ρ n (.Assign [.Tuple [.Name x p5, .Name y p6] k p4] e pos :: rest) R :=
  fun z _ _ _ G F N q => wpAny_execs_cons (Assign_Tuple (h z _ _ _ G F N fun _ _ _ _ o F N => o.casesOn fun hm o => unpackN_ F N (N.isTup hm) rfl rfl rfl fun _ F N =>
    wpAny_assignInOrder_more (PyProof.Rows.assign_Name (storeX_L F N (fun _ F N => wpAny_assignInOrder_more (PyProof.Rows.assign_Name (storeX_L F N (fun _ F N => assignInOrder_nil (o z _ _ _ G F N q)) G.k hy))) G.k hx))) (hs _) (hw z))
theorem st_pairn {D : Addr} (h : St S (upd (upd ρ x v) y u) n rest R) : Pair ((D, tup2 v u) :: n) (fun v' u' => St S (upd (upd ρ x v') y u') ((D, tup2 v u) :: n) rest R) (.ref D) := ⟨.head _, h.sub fun _ h => .tail _ h⟩
/-- a turn of a for: what is the loop's own stands -/
def ForR (J : Nat → Loc → Led → Prop) (i : Nat) (own : Led) (R : Loc → Led → Flow → Prop) (ρ : Loc) (n : Led) (f : Flow) : Prop := match f with
  | .ret v => R ρ n (.ret v)
  | .next => ∃ n2, J (i + 1) ρ n2 ∧ (∀ p ∈ n2, p ∈ n) ∧ (∀ p ∈ own, p ∈ n) ∧ TbOff own n2
  | _ => False
/-- one statement -/
def Ex (S : SF) (ρ : Loc) (n : Led) (b : Stmt) (R : Loc → Led → Flow → Prop) : Prop :=
  ∀ (z : FX) (h : Heap) (tk : Nat) (Q : Flow → Shared → Prop), OkX S z → Fr z.h₀ z.L h ρ → News z.h₀ z.L h n →
    (∀ ρ' n' v h' tk', R ρ' n' v → Fr z.h₀ z.L h' ρ' → News z.h₀ z.L h' n' → Q v (z.st h' tk')) → wpAny (PM S.E.w) (z.A S) (exec b (z.env S)) Q noE (z.st h tk)
theorem st_cons {b : Stmt} (h : Ex S ρ n b (Then S rest R)) : St S ρ n (b :: rest) R := fun z _ _ _ G F N q => wpAny_execs_cons (h z _ _ _ G F N (thenQ G q))
theorem ex_for {k : Int} (J : Nat → Loc → Led → Prop) (h0 : 0 ≤ k) (hk : k < 2 ^ 62) (hx : S.C.cs.names.lookup x = some .local) (hp : S.C.cs.kind = .function) (hr : S.C.cs.names.lookup (Str.ofString "range") = some .globalImplicit) (hb : nsIn (hd.heap_39 S.E.w.params) mainGlobals (Str.ofString "range") = some none)
    (hse : ∀ env, starEach [e] env = [(false, eval e env)]) (he : ∀ O, (∀ a, O n (.int k a)) → EvR S ρ n e O) (hj : J 0 ρ n)
    (turn : ∀ (i : Nat) ρ' n' own j c, J i ρ' n' → TbOff own n' → St S (upd ρ' x (.int j c)) (n' ++ own) body (ForR J i own R))
    (done : ∀ ρ' n', J k.toNat ρ' n' → R ρ' n' .next) :
    Ex S ρ n (.For (.Name x p2) (.Call (.Name (Str.ofString "range") p3) [e] [] pos) body [] p4) R := fun z h tk Q G F N q =>
  For_invVF F hx (by show (S.C.cs.kind == .class || S.C.cs.kind == .module && _) = false; rw [hp]; rfl) (Call_ (nameX_B F G.X (topRead_of G.T) hb boot_range (by decide) (Pv.callWith_type1 (args_cons (he (fun n' v => n' = n ∧ ∃ a, v = .int k a) (fun a => ⟨rfl, a, rfl⟩) z _ _ _ G F N fun n' v h' tk' o F' N' => o.2.elim fun _ e => e ▸ args_nil (range1_rows F' N' fun _ _ _ _ _ hr F N _ =>
    tbr_invG J rfl hr (small_one (by decide) (by decide) (Int.le_trans (by decide) h0) hk) (by rw [rangeSize_nat, Int.sub_zero]) F N (o.1 ▸ hj) (fun i _ c ρ' n' h tk own _ ho hJ F N => turn i ρ' n' own _ c hJ ho z _ _ _ G F N fun _ _ f _ _ r F2 N2 => match f, r with
      | .ret _, r => q _ _ _ _ _ r F2 N2
      | .brk, r => r.elim
      | .cont, r => r.elim
      | .next, ⟨_, j3, s3, s4, o3⟩ => ⟨_, _, _, _, _, rfl, F2, N2, s3, s4, o3, j3⟩) fun _ _ _ _ hJ F N => q _ _ _ _ _ (done _ _ hJ) F N)) (hse _)) (hse _) rfl) G.k hr (by decide))) (fun _ => rfl) fun _ _ x => x.elim
end
end Mine
end
section
open PySem PySem.W PySem.Spec PySem.Calls PyProof.Rows
namespace Mine
set_option maxRecDepth 100000
set_option maxHeartbeats 8000000
theorem gl_Ratio {E : BE} : GL E "Ratio" (.ref 31) := ⟨rfl, rfl⟩
theorem gl_top {E : BE} : GL E "top_of" (.ref 42) := ⟨rfl, rfl⟩
theorem gl_bottom {E : BE} : GL E "bottom_of" (.ref 49) := ⟨rfl, rfl⟩
theorem gl_gcd {E : BE} : GL E "gcd_of" (.ref 56) := ⟨rfl, rfl⟩
theorem gl_made {E : BE} : GL E "made" (.ref 63) := ⟨rfl, rfl⟩
theorem gl_ratio {E : BE} : GL E "ratio_of" (.ref 70) := ⟨rfl, rfl⟩
theorem gl_signx {E : BE} : GL E "sign_of_exact" (.ref 77) := ⟨rfl, rfl⟩
theorem gl_recip {E : BE} : GL E "reciprocal_exact" (.ref 84) := ⟨rfl, rfl⟩
theorem gl_pw {E : BE} : GL E "power_whole" (.ref 91) := ⟨rfl, rfl⟩
theorem gl_powx {E : BE} : GL E "power_exact" (.ref 98) := ⟨rfl, rfl⟩
theorem gl_pbits {E : BE} : GL E "power_bits" (.ref 105) := ⟨rfl, rfl⟩
theorem gl_rootx {E : BE} : GL E "root_exact" (.ref 112) := ⟨rfl, rfl⟩
theorem gl_rootd {E : BE} : GL E "root_of_degree" (.ref 119) := ⟨rfl, rfl⟩
theorem gl_xroot {E : BE} : GL E "exact_root_of" (.ref 126) := ⟨rfl, rfl⟩
theorem gl_sgn {E : BE} : GL E "sign" (.ref 233) := ⟨rfl, rfl⟩
theorem gl_pwe {E : BE} : GL E "power_of_exact" (.ref 240) := ⟨rfl, rfl⟩
theorem gl_draw {E : BE} : GL E "_law_draw" (.ref 252) := ⟨rfl, rfl⟩
theorem gl_lpw {E : BE} : GL E "_law_power" (.ref 259) := ⟨rfl, rfl⟩
theorem gl_pair {E : BE} : GL E "_law_pair" (.ref 266) := ⟨rfl, rfl⟩
theorem gl_due {E : BE} : GL E "_law_due" (.ref 273) := ⟨rfl, rfl⟩
theorem gl_told {E : BE} : GL E "_law_told" (.ref 280) := ⟨rfl, rfl⟩
theorem gl_isroot {E : BE} : GL E "_law_is_root" (.ref 287) := ⟨rfl, rfl⟩
theorem gl_wroot {E : BE} : GL E "_law_whole_root" (.ref 294) := ⟨rfl, rfl⟩
theorem gl_isxroot {E : BE} : GL E "_law_is_exact_root" (.ref 301) := ⟨rfl, rfl⟩
theorem bi_abs {E : BE} : BI E "abs" "abs" := ⟨rfl, rfl, by decide⟩
theorem bi_max {E : BE} : BI E "max" "max" := ⟨rfl, rfl, by decide⟩
theorem bi_isin {E : BE} : BI E "isinstance" "isinstance" := ⟨rfl, rfl, by decide⟩
section
variable {S : SF} {ρ : Loc} {n : Led} {x : Str} {v : Value} {O : Led → Value → Prop} {KT KF : Led → Prop} {i t b : Int} {a tx ty tt tb te : Tok} {pos p2 : Pos}
theorem cr_isI (h : KF n) : CR S ρ n (.builtin "isinstance") [.int i a, .ref 31] (BoolK KT KF) :=
  fun _ _ _ _ G F N q => isn_call (T := "int") (P := fun _ => True) (G.X.keeps F.keep) (fun _ => .of_pure rfl) rfl (fun h => nomatch h) trivial int_cls (q _ (.bool false) _ _ (.inr ⟨rfl, h⟩) F N)
theorem cr_isR {r d : Addr} {es : List DictEntry} {k : Nat} (ha : (r, instObj 31 d) ∈ n) (hm : (d, dictOf es k) ∈ n) (h : KT n) : CR S ρ n (.builtin "isinstance") [.ref r, .ref 31] (BoolK KT KF) :=
  fun _ _ _ _ G F N q => isi_call (G.X.keeps F.keep) (fun _ => InstAt.type (InstAt.of_news N ha hm)) rfl (fun h => nomatch h) (q _ (.bool true) _ _ (.inl ⟨rfl, h⟩) F N)
theorem ev_attr {attr : Str} {r d : Addr} {es : List DictEntry} {k : Nat} {cv : Option Value} (hv : ρ x = some (.ref r)) (hx : S.C.cs.names.lookup x = some .local) (hdb : (x == ("__debug__" : Str)) = false)
    (ha : (r, instObj 31 d) ∈ n) (hm : (d, dictOf es k) ∈ n) (h1 : plainGet (hd.heap_39 S.E.w.params) 31 attr = true) (h2 : hasDictIn (hd.heap_39 S.E.w.params) 31 = true) (h3 : findIn (hd.heap_39 S.E.w.params) (.ref 31) attr = some cv) (h4 : noGet (hd.heap_39 S.E.w.params) cv = true)
    (h5 : getL attr es = some (some v)) (h6 : handedIn v = true) (h : O n v) : EvR S ρ n (.Attribute (.Name x p2) attr pos) O :=
  fun _ _ _ _ G F N q => Attribute_Name_ (nameX_L F hv (get_own F G.X (InstAt.of_news N ha hm) h1 h2 h3 h4 h5 h6 (q _ _ _ _ h F N)) G.k hx hdb)
end
section
variable {S : SF} {ρ : Loc} {n : Led} {v : Value} {O : Led → Value → Prop} {x y t b d e : Int} {tx ty tt tb te : Tok}
theorem c_top (hD : 4 ≤ S.C.D) (hU : 40 ≤ S.C.U) (hv : NumIn n v t b) (k : ∀ a, O n (.int t a)) : CR S ρ n (.ref 42) [v] O := by
  refine cr_def (D := 3) (U := 37) (binds := [(Str.ofString "number", v)]) hD hU rfl rfl rfl (locs rfl) rfl rfl rfl (by decide) ?_
  exact st_ret (ev_ifexp (ts_ev (ev_bi2 bi_isin rfl rfl (fun _ => rfl) (fun _ => rfl) (ev_name rfl rfl rfl (ev_glob gl_Ratio.a rfl rfl (match v, hv with
    | _, .int => cr_isI (ev_name rfl rfl rfl (k _))
    | _, .ratio ha hm => cr_isR ha hm (ev_attr rfl rfl rfl ha hm rfl rfl rfl rfl rfl rfl (k _)))))) (fun _ _ => rfl)))
end

end Mine
end
section
open PySem PySem.W PySem.Spec PySem.Calls PyProof.Rows
namespace Mine
set_option maxRecDepth 100000
set_option maxHeartbeats 8000000
def GcdInv (g : Nat) (p q : Int) : Prop := 0 ≤ p ∧ 0 ≤ q ∧ p.gcd q = g
theorem gcd_start (x y : Int) : GcdInv (x.gcd y) (if x < 0 then -x else x) (if y < 0 then -y else y) := by
  rw [absN, absN]
  exact ⟨Int.natCast_nonneg _, Int.natCast_nonneg _, rfl⟩
theorem gcd_emod {p q : Int} (hp : 0 ≤ p) (hq : 0 ≤ q) : q.gcd (p % q) = p.gcd q := by
  obtain ⟨m, rfl⟩ := Int.eq_ofNat_of_zero_le hp
  obtain ⟨n, rfl⟩ := Int.eq_ofNat_of_zero_le hq
  show Nat.gcd n (m % n) = Nat.gcd m n
  rw [Nat.gcd_comm m n, Nat.gcd_comm n (m % n)]
  exact (Nat.gcd_rec n m).symm
theorem gcd_step {p q : Int} {g : Nat} (h : GcdInv g p q) (hq : q ≠ 0) : GcdInv g q (p.fmod q) := by
  rw [Int.fmod_eq_emod_of_nonneg p h.2.1]
  exact ⟨h.2.1, Int.emod_nonneg _ hq, (gcd_emod h.1 h.2.1).trans h.2.2⟩
theorem gcd_meas {p q : Int} {g : Nat} (h : GcdInv g p q) (hq : q ≠ 0) : (p.fmod q).toNat < q.toNat := by
  have q0 := Int.lt_iff_le_and_ne.mpr ⟨h.2.1, hq.symm⟩
  rw [Int.fmod_eq_emod_of_nonneg p h.2.1]
  exact (Int.toNat_lt_toNat q0).mpr (Int.emod_lt_of_pos p q0)
theorem gcd_fin {p q : Int} {g : Nat} (h : GcdInv g p q) (hq : q = 0) : (g : Int) = p := by
  rw [← h.2.2, hq, Int.gcd_zero_right]
  exact Int.natAbs_of_nonneg h.1
theorem gcd_nz {t b : Int} (hb : 0 < b) : ((t.gcd b : Nat) : Int) ≠ 0 := fun h => Nat.ne_of_gt (Int.gcd_pos_of_ne_zero_right t (Int.ne_of_gt hb)) (Int.ofNat.inj h)
theorem gcd_py {t b : Int} (hb : 0 < b) (h2 : b < 2 ^ 32) {y : Int} : Builtin.divisionGoesByPylong y ((t.gcd b : Nat) : Int) = false :=
  noPy (Nat.le_trans (Int.gcd_le_natAbs_right t (Int.ne_of_gt hb)) (nat62' (Int.le_of_lt hb) (Int.le_trans (Int.le_of_lt h2) (by decide))))
theorem pb_le {m e : Int} (hm : m.natAbs ≤ 1000) (he : e.natAbs ≤ 20) : (Builtin.Int.intBits m : Int) * (if e < 0 then -e else e) ≤ 1048576 := by
  rw [absN]
  exact Int.ofNat_le.mpr (Nat.le_trans (Nat.mul_le_mul (intBits_le_iff.mpr (Nat.lt_of_le_of_lt hm (by decide)) : _ ≤ 10) he) (by decide))
theorem sgn_zero (t : Int) : (b2i (decide (0 < t)) - b2i (decide (t < 0)) : Int) = 0 ↔ t = 0 := by
  rcases Int.lt_trichotomy t 0 with h | h | h
  · rw [decide_eq_false (Int.not_lt.mpr (Int.le_of_lt h)), decide_eq_true h]
    exact ⟨fun e => absurd e (by decide), fun e => absurd (e ▸ h) (Int.lt_irrefl 0)⟩
  · subst h
    exact ⟨fun _ => rfl, fun _ => rfl⟩
  · rw [decide_eq_false (Int.not_lt.mpr (Int.le_of_lt h)), decide_eq_true h]
    exact ⟨fun e => absurd e (by decide), fun e => absurd (e ▸ h) (Int.lt_irrefl 0)⟩
section
variable {S : SF} {ρ : Loc} {n : Led} {v who : Value} {O : Led → Value → Prop} {x y t b d e : Int} {tx ty tt tb td te : Tok}
theorem c_bottom (hD : 4 ≤ S.C.D) (hU : 40 ≤ S.C.U) (hv : NumIn n v t b) (k : ∀ a, O n (.int b a)) : CR S ρ n (.ref 49) [v] O := by
  refine cr_def (D := 3) (U := 37) (binds := [(Str.ofString "number", v)]) hD hU rfl rfl rfl (locs rfl) rfl rfl rfl (by decide) ?_
  exact st_ret (ev_ifexp (ts_ev (ev_bi2 bi_isin rfl rfl (fun _ => rfl) (fun _ => rfl) (ev_name rfl rfl rfl (ev_glob gl_Ratio.a rfl rfl (match v, hv with
    | _, .int => cr_isI (ev_int k)
    | _, .ratio ha hm => cr_isR ha hm (ev_attr rfl rfl rfl ha hm rfl rfl rfl rfl rfl rfl (k _)))))) (fun _ _ => rfl)))
theorem c_gcd (hD : 4 ≤ S.C.D) (hU : 40 ≤ S.C.U) (k : ∀ a, O n (.int (Int.gcd x y) a)) : CR S ρ n (.ref 56) [.int x tx, .int y ty] O := by
  refine cr_def (D := 3) (U := 37) (binds := [(Str.ofString "one", .int x tx), (Str.ofString "other", .int y ty)]) hD hU rfl rfl rfl (locs rfl) rfl rfl rfl (by decide) ?_
  refine st_set2 (x := Str.ofString "one") (y := Str.ofString "other") (ev_pair (fun _ => rfl) (fun _ => rfl) (ev_bi1 bi_abs rfl rfl (fun _ => rfl) (ev_name rfl rfl rfl (cr_abs fun _ => ev_bi1 bi_abs rfl rfl (fun _ => rfl) (ev_name rfl rfl rfl (cr_abs fun _ _ => st_pair ?_)))))) rfl rfl (fun _ => rfl) (fun _ => rfl)
  refine st_while2 (x := Str.ofString "one") (y := Str.ofString "other") (fun _ p q => GcdInv (x.gcd y) p q) (fun _ q => q.toNat) rfl rfl (gcd_start x y) fun _ _ _ _ _ h1 h2 hi => ?_
  refine ts_cmp (ev_name h2 rfl rfl (ev_int fun _ => cmp_ne (fun hq => ?_) fun hq => ?_)) rfl
  · exact st_set2 (x := Str.ofString "one") (y := Str.ofString "other") (ev_pair (fun _ => rfl) (fun _ => rfl) (ev_name h2 rfl rfl (ev_op (ev_name h1 rfl rfl (ev_name h2 rfl rfl (op_mod hq fun _ _ => st_pair (wh2 rfl rfl (gcd_step hi hq) (gcd_meas hi hq)))))))) rfl rfl (fun _ => rfl) (fun _ => rfl)
  · exact st_ret (ev_name h1 rfl rfl (gcd_fin hi hq ▸ k _))
theorem c_made (hD : 4 ≤ S.C.D) (hU : 40 ≤ S.C.U) (k : ∀ n' r, (∀ p ∈ n, p ∈ n') → NumIn n' r t b → O n' r) : CR S ρ n (.ref 63) [.int t tt, .int b tb] O :=
  co_cr (made_ok t b tt tb) hD hU fun _ _ h => k _ _ (fun _ h => List.mem_append_left _ h) h
theorem c_ratio (hD : 8 ≤ S.C.D) (hU : 80 ≤ S.C.U) (hb : 0 < b) (h32 : b < 2 ^ 32) (k : ∀ n' r, (∀ p ∈ n, p ∈ n') → NumIn n' r (t.fdiv (t.gcd b)) (b.fdiv (t.gcd b)) → O n' r) : CR S ρ n (.ref 70) [.int t tt, .int b tb] O := by
  refine cr_def (D := 7) (U := 77) (binds := [(Str.ofString "top", .int t tt), (Str.ofString "bottom", .int b tb)]) hD hU rfl rfl rfl (locs rfl) rfl rfl rfl (by decide) ?_
  refine st_if (ts_cmp (ev_name rfl rfl rfl (ev_int fun _ => cmp_lt (fun h => absurd h (Int.not_lt.mpr (Int.le_of_lt hb))) fun _ => st_nil ?_)) rfl)
  exact st_set (x := Str.ofString "common") (ev_call2 gl_gcd rfl rfl (fun _ => rfl) (fun _ => rfl) (ev_name rfl rfl rfl (ev_name rfl rfl rfl (c_gcd (Nat.le_of_ble_eq_true rfl) (Nat.le_of_ble_eq_true rfl) fun _ => st_ret (ev_call2 gl_made rfl rfl (fun _ => rfl) (fun _ => rfl) (ev_op (ev_name rfl rfl rfl (ev_name rfl rfl rfl (op_div (gcd_nz hb) (gcd_py hb h32) fun _ => ev_op (ev_name rfl rfl rfl (ev_name rfl rfl rfl (op_div (gcd_nz hb) (gcd_py hb h32) fun _ => c_made (Nat.le_of_ble_eq_true rfl) (Nat.le_of_ble_eq_true rfl) k)))))))))))) rfl (fun _ => rfl)
theorem c_signx (hD : 8 ≤ S.C.D) (hU : 80 ≤ S.C.U) (hv : NumIn n v t b) (k : ∀ x a, (x = 0 ↔ t = 0) → O n (.int x a)) : CR S ρ n (.ref 77) [v] O := by
  refine cr_def (D := 7) (U := 77) (binds := [(Str.ofString "number", v)]) hD hU rfl rfl rfl (locs rfl) rfl rfl rfl (by decide) ?_
  exact st_set (x := Str.ofString "top") (ev_call1 gl_top rfl rfl (fun _ => rfl) (ev_name rfl rfl rfl (c_top (Nat.le_of_ble_eq_true rfl) (Nat.le_of_ble_eq_true rfl) hv fun _ => st_ret (ev_op (ev_cmpv (ev_name rfl rfl rfl (ev_int fun _ => cmpv_gt (ev_cmpv (ev_name rfl rfl rfl (ev_int fun _ => cmpv_lt (op_bsub fun _ => k _ _ (sgn_zero t)))) rfl))) rfl))))) rfl (fun _ => rfl)
theorem c_recip (hD : 8 ≤ S.C.D) (hU : 80 ≤ S.C.U) (hv : NumIn n v t b) (k : ∀ n' r, (∀ p ∈ n, p ∈ n') → NumIn n' r (if t < 0 then -b else b) (if t < 0 then -t else t) → O n' r) : CR S ρ n (.ref 84) [v] O := by
  refine cr_def (D := 7) (U := 77) (binds := [(Str.ofString "number", v)]) hD hU rfl rfl rfl (locs rfl) rfl rfl rfl (by decide) ?_
  refine st_set2 (x := Str.ofString "top") (y := Str.ofString "bottom") (ev_pair (fun _ => rfl) (fun _ => rfl) (ev_call1 gl_top rfl rfl (fun _ => rfl) (ev_name rfl rfl rfl (c_top (Nat.le_of_ble_eq_true rfl) (Nat.le_of_ble_eq_true rfl) hv fun _ => ev_call1 gl_bottom rfl rfl (fun _ => rfl) (ev_name rfl rfl rfl (c_bottom (Nat.le_of_ble_eq_true rfl) (Nat.le_of_ble_eq_true rfl) hv fun _ _ => st_pair ?_)))))) rfl rfl (fun _ => rfl) (fun _ => rfl)
  refine st_ret (ev_ifexp (ts_cmp (ev_name rfl rfl rfl (ev_int fun _ => cmp_lt (fun h => ?_) fun h => ?_)) rfl))
  · rw [if_pos h, if_pos h] at k
    exact ev_call2 gl_made rfl rfl (fun _ => rfl) (fun _ => rfl) (ev_op (ev_int fun _ => ev_name rfl rfl rfl (op_sub fun _ => ev_op (ev_int fun _ => ev_name rfl rfl rfl (op_sub fun _ => c_made (Nat.le_of_ble_eq_true rfl) (Nat.le_of_ble_eq_true rfl) (Int.zero_sub t ▸ Int.zero_sub b ▸ k))))))
  · rw [if_neg h, if_neg h] at k
    exact ev_call2 gl_made rfl rfl (fun _ => rfl) (fun _ => rfl) (ev_name rfl rfl rfl (ev_name rfl rfl rfl (c_made (Nat.le_of_ble_eq_true rfl) (Nat.le_of_ble_eq_true rfl) k)))
theorem c_pw (hD : 4 ≤ S.C.D) (hU : 40 ≤ S.C.U) (h0 : 0 ≤ y) (hb : x.natAbs ^ y.toNat ≤ 2 ^ 62) (k : ∀ a, O n (.int (x ^ y.toNat) a)) : CR S ρ n (.ref 91) [.int x tx, .int y ty] O := by
  refine cr_def (D := 3) (U := 37) (binds := [(Str.ofString "base", .int x tx), (Str.ofString "exponent", .int y ty)]) hD hU rfl rfl rfl (locs rfl) rfl rfl rfl (by decide) ?_
  refine st_set (x := Str.ofString "found") (ev_int fun _ => ?_) rfl (fun _ => rfl)
  refine st_while2 (x := Str.ofString "base") (y := Str.ofString "exponent") (fun ρ p q => ∃ f a, ρ (Str.ofString "found") = some (.int f a) ∧ PwInv (x ^ y.toNat) p q f) (fun _ q => q.toNat) rfl rfl ⟨_, _, rfl, pw_start h0 hb⟩ fun _ p q _ _ h1 h2 ⟨f, _, h3, hi⟩ => ?_
  refine ts_cmp (ev_name h2 rfl rfl (ev_int fun _ => cmp_gt (fun hq => ?_) fun hq => ?_)) rfl
  · refine st_if (ts_cmp (ev_op (ev_name h2 rfl rfl (ev_int fun _ => op_mod (by decide) fun _ => ev_int fun _ => cmp_eq (fun ho => ?_) fun ho => ?_))) rfl)
    · refine st_set (x := Str.ofString "found") (ev_op (ev_name h3 rfl rfl (ev_name h1 rfl rfl (op_mul (pw_mul1 hi hq) fun _ => st_nil ?_)))) rfl (fun _ => rfl)
      refine st_set (x := Str.ofString "exponent") (ev_op (ev_name h2 rfl rfl (ev_int fun _ => op_div (by decide) (noPy (by decide)) fun _ => ?_))) rfl (fun _ => rfl)
      refine st_if (ts_cmp (ev_name rfl rfl rfl (ev_int fun _ => cmp_gt (fun hz => ?_) fun hz => ?_)) rfl)
      · exact st_set (x := Str.ofString "base") (ev_op (ev_name h1 rfl rfl (ev_name h1 rfl rfl (op_mul (pw_mul2 hi hq) fun _ => st_nil (wh2 rfl rfl ⟨_, _, rfl, pw_s1 hi hq ho⟩ (pw_meas hq)))))) rfl (fun _ => rfl)
      · exact st_nil (wh2 h1 rfl ⟨_, _, rfl, pw_s2 hi ho hz⟩ (pw_meas hq))
    · refine st_nil (st_set (x := Str.ofString "exponent") (ev_op (ev_name h2 rfl rfl (ev_int fun _ => op_div (by decide) (noPy (by decide)) fun _ => ?_))) rfl (fun _ => rfl))
      refine st_if (ts_cmp (ev_name rfl rfl rfl (ev_int fun _ => cmp_gt (fun hz => ?_) fun hz => ?_)) rfl)
      · exact st_set (x := Str.ofString "base") (ev_op (ev_name h1 rfl rfl (ev_name h1 rfl rfl (op_mul (pw_mul2 hi hq) fun _ => st_nil (wh2 rfl rfl ⟨_, _, h3, pw_s3 hi hq ho⟩ (pw_meas hq)))))) rfl (fun _ => rfl)
      · exact absurd (pw_half1 hq ho) hz
  · exact st_ret (ev_name h3 rfl rfl (pw_end hi hq ▸ k _))
end

end Mine
end
section
open PySem PySem.W PySem.Spec PySem.Calls PyProof.Rows
namespace Mine
set_option maxRecDepth 100000
set_option maxHeartbeats 8000000
theorem gl_Real {E : BE} : GL E "Real" (.ref 201) := ⟨rfl, rfl⟩
theorem gl_inex {E : BE} : GL E "is_inexact" (.ref 226) := ⟨rfl, rfl⟩
theorem gl_most {E : BE} : nsIn (hd.heap_39 E.w.params) mainGlobals "MOST_BITS" = some (some (.int 1048576 482)) := rfl
theorem pw_b9 {x : Int} {k : Nat} (hx : x.natAbs ≤ 9) (hk : k ≤ 9) : x.natAbs ^ k ≤ 2 ^ 62 :=
  Nat.le_trans (Nat.pow_le_pow_left hx _) (Nat.le_trans (Nat.pow_le_pow_right (by decide) hk) (by decide))
theorem tn9 {e : Int} (he : e.natAbs ≤ 9) : (0 - e).toNat ≤ 9 ∧ e.toNat ≤ 9 := by omega
theorem if_le9 {t b : Int} (ht : t.natAbs ≤ 9) (hb : b.natAbs ≤ 9) : (if t < 0 then -b else b).natAbs ≤ 9 ∧ (if t < 0 then -t else t).natAbs ≤ 9 := by
  split
  · rw [Int.natAbs_neg, Int.natAbs_neg]; exact ⟨hb, ht⟩
  · exact ⟨hb, ht⟩
theorem abs_nat (x : Int) : (if x < 0 then -x else x).natAbs = x.natAbs := by rw [absN]; rfl
theorem pb_max {t b : Int} (ht : t.natAbs ≤ 1000) (hb : b.natAbs ≤ 1000) : (if b > (if t < 0 then -t else t) then b else if t < 0 then -t else t).natAbs ≤ 1000 := by
  by_cases h : b > (if t < 0 then -t else t)
  · rw [if_pos h]; exact hb
  · rw [if_neg h, abs_nat]; exact ht
theorem pb_e {e : Int} (he : e.natAbs ≤ 20) : (if e < 0 then -e else e).natAbs ≤ 2 ^ 62 := by rw [abs_nat]; exact Nat.le_trans he (by decide)
section
variable {S : SF} {ρ : Loc} {n : Led} {v who : Value} {O : Led → Value → Prop} {x y t b d e : Int} {tx ty tt tb td te : Tok} {KT KF : Led → Prop}
theorem cr_isX (hv : NumIn n v t b) (h : O n (.bool false)) : CR S ρ n (.builtin "isinstance") [v, .ref 201] O := fun _ _ _ _ G F N q => match v, hv with
  | _, .int => isn_call (T := "int") (P := fun _ => True) (G.X.keeps F.keep) (fun _ => .of_pure rfl) rfl (fun h => nomatch h) trivial int_cls (q _ _ _ _ h F N)
  | _, .ratio ha hm => kin_callC (G.X.keeps F.keep) (InstAt.of_news N ha hm) rfl rfl rfl rfl rfl rfl rfl (q _ _ _ _ h F N)
theorem c_inex (hD : 4 ≤ S.C.D) (hU : 40 ≤ S.C.U) (hv : NumIn n v t b) (h : O n (.bool false)) : CR S ρ n (.ref 226) [v] O := by
  refine cr_def (D := 3) (U := 37) (binds := [(Str.ofString "value", v)]) hD hU rfl rfl rfl (locs rfl) rfl rfl rfl (by decide) ?_
  exact st_ret (ev_bi2 bi_isin rfl rfl (fun _ => rfl) (fun _ => rfl) (ev_name rfl rfl rfl (ev_glob gl_Real.a rfl rfl (cr_isX hv h))))
theorem c_sgn (hD : 12 ≤ S.C.D) (hU : 120 ≤ S.C.U) (hv : NumIn n v t b) (k : ∀ x a, (x = 0 ↔ t = 0) → O n (.int x a)) : CR S ρ n (.ref 233) [v] O := by
  refine cr_def (D := 11) (U := 117) (binds := [(Str.ofString "number", v)]) hD hU rfl rfl rfl (locs rfl) rfl rfl rfl (by decide) ?_
  exact st_ret (ev_ifexp (ts_ev (ev_call1 gl_inex rfl rfl (fun _ => rfl) (ev_name rfl rfl rfl (c_inex (Nat.le_of_ble_eq_true rfl) (Nat.le_of_ble_eq_true rfl) hv (.inr ⟨rfl, ev_call1 gl_signx rfl rfl (fun _ => rfl) (ev_name rfl rfl rfl (c_signx (Nat.le_of_ble_eq_true rfl) (Nat.le_of_ble_eq_true rfl) hv k))⟩)))) (fun _ _ => rfl)))
theorem c_powx (hD : 16 ≤ S.C.D) (hU : 160 ≤ S.C.U) (hv : NumIn n v t b) (ht : t.natAbs ≤ 9) (hb : b.natAbs ≤ 9) (he : e.natAbs ≤ 9) (k : ∀ n' r, (∀ p ∈ n, p ∈ n') → NumIn n' r (pT t b e) (pB t b e) → O n' r) : CR S ρ n (.ref 98) [v, .int e te] O := by
  refine cr_def (D := 15) (U := 157) (binds := [(Str.ofString "base", v), (Str.ofString "exponent", .int e te)]) hD hU rfl rfl rfl (locs rfl) rfl rfl rfl (by decide) ?_
  unfold pT pB at k
  refine st_if (ts_cmp (ev_name rfl rfl rfl (ev_int fun _ => cmp_lt (fun h => ?_) fun h => ?_)) rfl)
  · rw [if_pos h, if_pos h] at k
    refine st_set2 (x := Str.ofString "base") (y := Str.ofString "exponent") (ev_pair (fun _ => rfl) (fun _ => rfl) (ev_call1 gl_recip rfl rfl (fun _ => rfl) (ev_name rfl rfl rfl (c_recip (Nat.le_of_ble_eq_true rfl) (Nat.le_of_ble_eq_true rfl) hv fun n1 r hs hr => ev_op (ev_int fun _ => ev_name rfl rfl rfl (op_sub fun _ _ => st_pair (st_nil (st_ret ?_)))))))) rfl rfl (fun _ => rfl) (fun _ => rfl)
    have h9 := (tn9 he).1
    have h0 := Int.sub_nonneg.mpr (Int.le_of_lt h)
    exact ev_call2 gl_made rfl rfl (fun _ => rfl) (fun _ => rfl) (ev_call2 gl_pw rfl rfl (fun _ => rfl) (fun _ => rfl) (ev_call1 gl_top rfl rfl (fun _ => rfl) (ev_name rfl rfl rfl (c_top (Nat.le_of_ble_eq_true rfl) (Nat.le_of_ble_eq_true rfl) hr fun _ => ev_name rfl rfl rfl (c_pw (Nat.le_of_ble_eq_true rfl) (Nat.le_of_ble_eq_true rfl) h0 (pw_b9 (if_le9 ht hb).1 h9) fun _ => ev_call2 gl_pw rfl rfl (fun _ => rfl) (fun _ => rfl) (ev_call1 gl_bottom rfl rfl (fun _ => rfl) (ev_name rfl rfl rfl (c_bottom (Nat.le_of_ble_eq_true rfl) (Nat.le_of_ble_eq_true rfl) hr fun _ => ev_name rfl rfl rfl (c_pw (Nat.le_of_ble_eq_true rfl) (Nat.le_of_ble_eq_true rfl) h0 (pw_b9 (if_le9 ht hb).2 h9) fun _ => c_made (Nat.le_of_ble_eq_true rfl) (Nat.le_of_ble_eq_true rfl) fun n2 r2 hs2 => k n2 r2 fun p hp => hs2 p (hs p hp))))))))))
  · rw [if_neg h, if_neg h] at k
    have h9 := (tn9 he).2
    exact st_nil (st_ret (ev_call2 gl_made rfl rfl (fun _ => rfl) (fun _ => rfl) (ev_call2 gl_pw rfl rfl (fun _ => rfl) (fun _ => rfl) (ev_call1 gl_top rfl rfl (fun _ => rfl) (ev_name rfl rfl rfl (c_top (Nat.le_of_ble_eq_true rfl) (Nat.le_of_ble_eq_true rfl) hv fun _ => ev_name rfl rfl rfl (c_pw (Nat.le_of_ble_eq_true rfl) (Nat.le_of_ble_eq_true rfl) (Int.not_lt.mp h) (pw_b9 ht h9) fun _ => ev_call2 gl_pw rfl rfl (fun _ => rfl) (fun _ => rfl) (ev_call1 gl_bottom rfl rfl (fun _ => rfl) (ev_name rfl rfl rfl (c_bottom (Nat.le_of_ble_eq_true rfl) (Nat.le_of_ble_eq_true rfl) hv fun _ => ev_name rfl rfl rfl (c_pw (Nat.le_of_ble_eq_true rfl) (Nat.le_of_ble_eq_true rfl) (Int.not_lt.mp h) (pw_b9 hb h9) fun _ => c_made (Nat.le_of_ble_eq_true rfl) (Nat.le_of_ble_eq_true rfl) k)))))))))))
theorem c_pbits (hD : 8 ≤ S.C.D) (hU : 80 ≤ S.C.U) (hv : NumIn n v t b) (ht : t.natAbs ≤ 1000) (hb : b.natAbs ≤ 1000) (he : e.natAbs ≤ 20) (k : ∀ x a, x ≤ 1048576 → O n (.int x a)) : CR S ρ n (.ref 105) [v, .int e te] O := by
  refine cr_def (D := 7) (U := 77) (binds := [(Str.ofString "base", v), (Str.ofString "exponent", .int e te)]) hD hU rfl rfl rfl (locs rfl) rfl rfl rfl (by decide) ?_
  refine st_set (x := Str.ofString "parts") (ev_bi2 bi_max rfl rfl (fun _ => rfl) (fun _ => rfl) (ev_bi1 bi_abs rfl rfl (fun _ => rfl) (ev_call1 gl_top rfl rfl (fun _ => rfl) (ev_name rfl rfl rfl (c_top (Nat.le_of_ble_eq_true rfl) (Nat.le_of_ble_eq_true rfl) hv fun _ => cr_abs fun _ => ev_call1 gl_bottom rfl rfl (fun _ => rfl) (ev_name rfl rfl rfl (c_bottom (Nat.le_of_ble_eq_true rfl) (Nat.le_of_ble_eq_true rfl) hv fun _ => cr_max fun _ => ?_))))))) rfl (fun _ => rfl)
  refine st_ret (ev_ifexp (ts_cmp (ev_name rfl rfl rfl (ev_int fun _ => cmp_eq (fun _ => ev_int fun _ => k _ _ (by decide)) fun _ => ?_)) rfl))
  have hm := pb_max ht hb
  exact ev_op (ev_bits (fun _ => rfl) (ev_name rfl rfl rfl (bitsK fun _ => ev_bi1 bi_abs rfl rfl (fun _ => rfl) (ev_name rfl rfl rfl (cr_abs fun _ => op_mul (.of_right (small_bits (pb_e he))) fun _ => k _ _ (pb_le hm he))))))
theorem c_rootx (hD : 4 ≤ S.C.D) (hU : 40 ≤ S.C.U) (h0 : 0 ≤ x) (hx : x < 2 ^ 62) (k : ∀ g D a c, IsSq x g → O ((D, tup2 (.int g a) (.int (x - g * g) c)) :: n) (.ref D)) : CR S ρ n (.ref 112) [.int x tx] O := by
  refine cr_def (D := 3) (U := 37) (binds := [(Str.ofString "number", .int x tx)]) hD hU rfl rfl rfl (locs rfl) rfl rfl rfl (by decide) ?_
  refine st_if (ts_cmp (ev_name rfl rfl rfl (ev_int fun _ => cmp_eq (fun h => ?_) fun h => st_nil ?_)) rfl)
  · subst h
    exact st_ret (ev_pair (fun _ => rfl) (fun _ => rfl) (ev_int fun _ => ev_int fun _ D => (k 0 D _ _ rx_fin0 : O ((D, tup2 (.int 0 _) (.int (0 - 0 * 0) _)) :: n) (.ref D))))
  refine st_set (x := Str.ofString "guess") (ev_op (ev_int fun _ => ev_op (ev_op (ev_bits (fun _ => rfl) (ev_name rfl rfl rfl (bitsK fun _ => ev_int fun _ => op_add fun _ => ev_int fun _ => op_div (by decide) (noPy (by decide)) fun _ => op_shl (rx_n0 x) (rx_n1 h0 hx) (by decide) fun _ => ?_)))))) rfl (fun _ => rfl)
  refine st_set (x := Str.ofString "nearer") (ev_op (ev_op (ev_name rfl rfl rfl (ev_op (ev_name rfl rfl rfl (ev_name rfl rfl rfl (op_div rx_nz0 (rx_py0 h0 hx) fun _ => op_add fun _ => ev_int fun _ => op_div (by decide) (noPy (by decide)) fun _ => ?_))))))) rfl (fun _ => rfl)
  refine st_while2 (x := Str.ofString "guess") (y := Str.ofString "nearer") (fun ρ g m => ρ (Str.ofString "number") = some (.int x tx) ∧ RxInv x g m) (fun g _ => g.toNat) rfl rfl ⟨rfl, rx_start h0 h hx rfl⟩ fun _ g m _ _ h1 h2 ⟨h3, hi⟩ => ?_
  refine ts_cmp (ev_name h2 rfl rfl (ev_name h1 rfl rfl (cmp_lt (fun hq => ?_) fun hq => ?_))) rfl
  · refine st_set (x := Str.ofString "guess") (ev_name h2 rfl rfl ?_) rfl (fun _ => rfl)
    exact st_set (x := Str.ofString "nearer") (ev_op (ev_op (ev_name rfl rfl rfl (ev_op (ev_name h3 rfl rfl (ev_name rfl rfl rfl (op_div (rx_nz hi) (rx_py hi hq) fun _ => op_add fun _ => ev_int fun _ => op_div (by decide) (noPy (by decide)) fun _ => wh2 rfl rfl ⟨h3, rx_step hi hq⟩ (rx_meas hi hq)))))))) rfl (fun _ => rfl)
  · exact st_ret (ev_pair (fun _ => rfl) (fun _ => rfl) (ev_name h1 rfl rfl (ev_op (ev_name h3 rfl rfl (ev_op (ev_name h1 rfl rfl (ev_name h1 rfl rfl (op_mul (rx_mul hi) fun _ => op_sub fun _ D => k _ D _ _ (rx_fin hi hq)))))))))
theorem c_rootd (hD : 8 ≤ S.C.D) (hU : 80 ≤ S.C.U) (h0 : 0 ≤ x) (hx : x < 2 ^ 32) (hd : 1 ≤ d) (hd9 : d ≤ 9) (k : ∀ r a, IsRoot x d r → O n (.int r a)) : CR S ρ n (.ref 119) [.int x tx, .int d td] O := by
  refine cr_def (D := 7) (U := 77) (binds := [(Str.ofString "number", .int x tx), (Str.ofString "degree", .int d td)]) hD hU rfl rfl rfl (locs rfl) rfl rfl rfl (by decide) ?_
  refine st_if (ts_or (ts_cmp (ev_name rfl rfl rfl (ev_int fun _ => cmp_lt (fun h => st_ret (ev_name rfl rfl rfl (k _ _ (rd_small h0 h hd)))) fun h2 => ts_cmp (ev_name rfl rfl rfl (ev_int fun _ => cmp_eq (fun h => st_ret (ev_name rfl rfl rfl (k _ _ (rd_deg1 h0 h)))) fun _ => st_nil ?_)) rfl)) rfl))
  refine st_if (ts_cmp (ev_name rfl rfl rfl (ev_bits (fun _ => rfl) (ev_name rfl rfl rfl (bitsK fun _ => cmp_ge (fun h => st_ret (ev_int fun _ => k _ _ (rd_one h2 h))) fun _ => st_nil ?_)))) rfl)
  refine st_set2 (x := Str.ofString "low") (y := Str.ofString "high") (ev_pair (fun _ => rfl) (fun _ => rfl) (ev_int fun _ => ev_op (ev_int fun _ => ev_op (ev_op (ev_bits (fun _ => rfl) (ev_name rfl rfl rfl (bitsK fun _ => ev_name rfl rfl rfl (op_div (rd_nz hd) (noPy (rd_ab hd hd9)) fun _ => ev_int fun _ => op_add fun _ => op_shl (rd_n0 hd) (rd_n1 h0 hx hd) (by decide) fun _ _ => st_pair ?_)))))))) rfl rfl (fun _ => rfl) (fun _ => rfl)
  refine st_while2 (x := Str.ofString "low") (y := Str.ofString "high") (fun ρ lo hi => ρ (Str.ofString "number") = some (.int x tx) ∧ ρ (Str.ofString "degree") = some (.int d td) ∧ RdInv x d lo hi) (fun lo hi => (hi - lo).toNat) rfl rfl ⟨rfl, rfl, rd_start h2 hx hd hd9⟩ fun _ lo hi _ _ h1 h3 ⟨h4, h5, hi⟩ => ?_
  refine ts_cmp (ev_op (ev_name h3 rfl rfl (ev_name h1 rfl rfl (op_sub fun _ => ev_int fun _ => cmp_gt (fun hq => ?_) fun hq => st_ret (ev_name h1 rfl rfl (k _ _ (rd_fin hi hq))))))) rfl
  refine st_set (x := Str.ofString "middle") (ev_op (ev_op (ev_name h1 rfl rfl (ev_name h3 rfl rfl (op_add fun _ => ev_int fun _ => op_div (by decide) (noPy (by decide)) fun _ => ?_))))) rfl (fun _ => rfl)
  refine st_if (ts_cmp (ev_call2 gl_pw rfl rfl (fun _ => rfl) (fun _ => rfl) (ev_name rfl rfl rfl (ev_name h5 rfl rfl (c_pw (Nat.le_of_ble_eq_true rfl) (Nat.le_of_ble_eq_true rfl) (Int.le_trans (by decide) hd) (rd_pw hi hq) fun _ => ev_name h4 rfl rfl (cmp_le (fun hm => ?_) fun hm => ?_))))) rfl)
  · exact st_set (x := Str.ofString "low") (ev_name rfl rfl rfl (st_nil (wh2 rfl h3 ⟨h4, h5, rd_lo hi hq hm⟩ (rd_measL hq)))) rfl (fun _ => rfl)
  · exact st_set (x := Str.ofString "high") (ev_name rfl rfl rfl (st_nil (wh2 h1 rfl ⟨h4, h5, rd_hi hi hq hm⟩ (rd_measH hq)))) rfl (fun _ => rfl)
theorem c_xroot (hD : 16 ≤ S.C.D) (hU : 160 ≤ S.C.U) (hv : NumIn n v t b) (ht : 0 ≤ t) (htt : t < 2 ^ 32) (hb : 0 ≤ b) (hbb : b < 2 ^ 32) (hd : 1 ≤ d) (hd9 : d ≤ 9) (k : ∀ n' r, (∀ p ∈ n, p ∈ n') → XrOut t b d n' r → O n' r) : CR S ρ n (.ref 126) [v, .int d td] O := by
  refine cr_def (D := 15) (U := 157) (binds := [(Str.ofString "number", v), (Str.ofString "degree", .int d td)]) hD hU rfl rfl rfl (locs rfl) rfl rfl rfl (by decide) ?_
  refine st_set2 (x := Str.ofString "top") (y := Str.ofString "bottom") (ev_pair (fun _ => rfl) (fun _ => rfl) (ev_call2 gl_rootd rfl rfl (fun _ => rfl) (fun _ => rfl) (ev_call1 gl_top rfl rfl (fun _ => rfl) (ev_name rfl rfl rfl (c_top (Nat.le_of_ble_eq_true rfl) (Nat.le_of_ble_eq_true rfl) hv fun _ => ev_name rfl rfl rfl (c_rootd (Nat.le_of_ble_eq_true rfl) (Nat.le_of_ble_eq_true rfl) ht htt hd hd9 fun r1 _ i1 => ev_call2 gl_rootd rfl rfl (fun _ => rfl) (fun _ => rfl) (ev_call1 gl_bottom rfl rfl (fun _ => rfl) (ev_name rfl rfl rfl (c_bottom (Nat.le_of_ble_eq_true rfl) (Nat.le_of_ble_eq_true rfl) hv fun _ => ev_name rfl rfl rfl (c_rootd (Nat.le_of_ble_eq_true rfl) (Nat.le_of_ble_eq_true rfl) hb hbb hd hd9 fun r2 _ i2 _ => st_pair ?_)))))))))) rfl rfl (fun _ => rfl) (fun _ => rfl)
  have p0 : 0 ≤ d := Int.le_trans (by decide) hd
  refine st_if (ts_or (ts_cmp (ev_call2 gl_pw rfl rfl (fun _ => rfl) (fun _ => rfl) (ev_name rfl rfl rfl (ev_name rfl rfl rfl (c_pw (Nat.le_of_ble_eq_true rfl) (Nat.le_of_ble_eq_true rfl) p0 (root_b i1 htt) fun _ => ev_call1 gl_top rfl rfl (fun _ => rfl) (ev_name rfl rfl rfl (c_top (Nat.le_of_ble_eq_true rfl) (Nat.le_of_ble_eq_true rfl) hv fun _ => cmp_ne (fun h => ?_) fun q1 => ?_)))))) rfl))
  · exact st_ret (ev_none (k _ _ (fun _ h => h) (xr_none i1 i2 (.inl h))))
  refine ts_cmp (ev_call2 gl_pw rfl rfl (fun _ => rfl) (fun _ => rfl) (ev_name rfl rfl rfl (ev_name rfl rfl rfl (c_pw (Nat.le_of_ble_eq_true rfl) (Nat.le_of_ble_eq_true rfl) p0 (root_b i2 hbb) fun _ => ev_call1 gl_bottom rfl rfl (fun _ => rfl) (ev_name rfl rfl rfl (c_bottom (Nat.le_of_ble_eq_true rfl) (Nat.le_of_ble_eq_true rfl) hv fun _ => cmp_ne (fun h => ?_) fun q2 => ?_)))))) rfl
  · exact st_ret (ev_none (k _ _ (fun _ h => h) (xr_none i1 i2 (.inr h))))
  · exact st_nil (st_ret (ev_call2 gl_made rfl rfl (fun _ => rfl) (fun _ => rfl) (ev_name rfl rfl rfl (ev_name rfl rfl rfl (c_made (Nat.le_of_ble_eq_true rfl) (Nat.le_of_ble_eq_true rfl) fun n' r hs h => k n' r hs (xr_some i1 i2 q1 q2 h))))))
theorem c_pwe (hD : 24 ≤ S.C.D) (hU : 240 ≤ S.C.U) (hv : NumIn n v t b) (ht : t.natAbs ≤ 9) (hb : b.natAbs ≤ 9) (he : e.natAbs ≤ 9) (hz : e < 0 → t ≠ 0) (k : ∀ n' r, (∀ p ∈ n, p ∈ n') → NumIn n' r (pT t b e) (pB t b e) → O n' r) : CR S ρ n (.ref 240) [v, .int e te, who] O := by
  refine cr_def (D := 23) (U := 237) (binds := [(Str.ofString "base", v), (Str.ofString "exponent", .int e te), (Str.ofString "who", who)]) hD hU rfl rfl rfl (locs rfl) rfl rfl rfl (by decide) ?_
  refine (fun tail => st_if (ts_and (ts_cmp (ev_call1 gl_sgn rfl rfl (fun _ => rfl) (ev_name rfl rfl rfl (c_sgn (Nat.le_of_ble_eq_true rfl) (Nat.le_of_ble_eq_true rfl) hv fun _ _ hs => ev_int fun _ => cmp_eq (fun h => ts_cmp (ev_name rfl rfl rfl (ev_int fun _ => cmp_lt (fun q => absurd (hs.1 h) (hz q)) fun _ => st_nil tail)) rfl) fun _ => st_nil tail))) rfl))) ?_
  exact st_if (ts_cmp (ev_call2 gl_pbits rfl rfl (fun _ => rfl) (fun _ => rfl) (ev_name rfl rfl rfl (ev_name rfl rfl rfl (c_pbits (Nat.le_of_ble_eq_true rfl) (Nat.le_of_ble_eq_true rfl) hv (Nat.le_trans ht (by decide)) (Nat.le_trans hb (by decide)) (Nat.le_trans he (by decide)) fun _ _ hl => ev_glob gl_most rfl rfl (cmp_gt (fun h => absurd h (Int.not_lt.mpr hl)) fun _ => st_nil (st_ret (ev_call2 gl_powx rfl rfl (fun _ => rfl) (fun _ => rfl) (ev_name rfl rfl rfl (ev_name rfl rfl rfl (c_powx (Nat.le_of_ble_eq_true rfl) (Nat.le_of_ble_eq_true rfl) hv ht hb he k)))))))))) rfl)
end

end Mine
end
section
open PySem PySem.W PySem.Spec PySem.Calls PyProof.Rows
namespace Mine
set_option maxRecDepth 100000
set_option maxHeartbeats 8000000
theorem lp_mulx {f x : Int} (hx : x.natAbs ≤ 2 ^ 62) : IntMulOk f x := IntMulOk.of_right (small_bits hx)
theorem abs0 (e : Int) : 0 ≤ (if e < 0 then -e else e) := absN e ▸ Int.natCast_nonneg _
theorem abs62 {e : Int} (he : e.natAbs ≤ 9) : (if e < 0 then -e else e) < 2 ^ 62 := absN e ▸ Int.lt_of_le_of_lt (Int.ofNat_le.mpr he) (by decide)
theorem due_n1 {t b e : Int} (he : e < 0) (ht : 0 < t ^ (if e < 0 then -e else e).toNat) : pT t b e = b ^ (if e < 0 then -e else e).toNat ∧ pB t b e = t ^ (if e < 0 then -e else e).toNat := by
  rw [if_pos he] at ht ⊢
  exact due_neg1 he ht
theorem due_n2 {t b e : Int} (he : e < 0) (h0 : t ≠ 0) (ht : ¬ 0 < t ^ (if e < 0 then -e else e).toNat) : pT t b e = 0 - b ^ (if e < 0 then -e else e).toNat ∧ pB t b e = 0 - t ^ (if e < 0 then -e else e).toNat := by
  rw [if_pos he] at ht ⊢
  exact due_neg2 he h0 ht
theorem due_n3 {t b e : Int} (he : ¬ e < 0) : pT t b e = t ^ (if e < 0 then -e else e).toNat ∧ pB t b e = b ^ (if e < 0 then -e else e).toNat := by
  rw [if_neg he]
  exact due_pos (Int.not_lt.mp he)
theorem k9 {x : Int} (h : x.natAbs ≤ 9) : x.natAbs ≤ 2 ^ 62 := Nat.le_trans h (by decide)
section
variable {S : SF} {ρ : Loc} {n : Led} {v who : Value} {O : Led → Value → Prop} {x y t b d e : Int} {tx ty tt tb td te : Tok} {KT KF : Led → Prop}
def Low (O : Led → Value → Prop) (n : Led) (v : Value) : Prop := ∃ n', (∀ p ∈ n', p ∈ n) ∧ O n' v
theorem Ev.low {g : Env → Sem Value} (h : Ev S ρ n g (Low O)) : Ev S ρ n g O := fun z _ _ _ G F N q => h z _ _ _ G F N fun _ _ _ _ o F N => o.elim fun _ o => q _ _ _ _ o.2 F fun p hp => N p (o.1 p hp)
theorem c_lpw (hD : 4 ≤ S.C.D) (hU : 40 ≤ S.C.U) (h0 : 0 ≤ y) (hy : y < 2 ^ 62) (hx : x.natAbs ≤ 2 ^ 62) (k : ∀ a, O n (.int (x ^ y.toNat) a)) : CR S ρ n (.ref 259) [.int x tx, .int y ty] O := by
  refine cr_def (D := 3) (U := 37) (binds := [(Str.ofString "number", .int x tx), (Str.ofString "times", .int y ty)]) hD hU rfl rfl rfl (locs rfl) rfl rfl rfl (by decide) ?_
  refine st_set (x := Str.ofString "found") (ev_int fun a0 => ?_) rfl (fun _ => rfl)
  refine st_cons (ex_for (fun i ρ n' => n' = n ∧ ρ (Str.ofString "number") = some (.int x tx) ∧ ∃ a, ρ (Str.ofString "found") = some (.int (x ^ i) a)) h0 hy rfl rfl rfl rfl (fun _ => rfl) (fun _ h => ev_name rfl rfl rfl (h _)) ⟨rfl, rfl, a0, congrArg (fun v => some (Value.int v a0)) (Int.pow_zero x).symm⟩ (fun i _ _ own _ _ hj ho => ?_) fun _ _ hj => ?_)
  · obtain ⟨rfl, h1, a, h2⟩ := hj
    exact st_set (x := Str.ofString "found") (ev_op (ev_name h2 rfl rfl (ev_name h1 rfl rfl (op_mul (lp_mulx hx) fun a => st_nil ⟨_, ⟨rfl, h1, a, congrArg (fun v => some (Value.int v a)) (Int.pow_succ x i).symm⟩, fun _ h => List.mem_append_left _ h, fun _ h => List.mem_append_right _ h, ho⟩)))) rfl (fun _ => rfl)
  · obtain ⟨rfl, h1, a, h2⟩ := hj
    exact st_ret (ev_name h2 rfl rfl (k a))
theorem c_pair (hD : 8 ≤ S.C.D) (hU : 80 ≤ S.C.U) (hv : NumIn n v t b) (k : ∀ D a c, O ((D, tup2 (.int t a) (.int b c)) :: n) (.ref D)) : CR S ρ n (.ref 266) [v] O := by
  refine cr_def (D := 7) (U := 77) (binds := [(Str.ofString "number", v)]) hD hU rfl rfl rfl (locs rfl) rfl rfl rfl (by decide) ?_
  exact st_ret (ev_ifexp (ts_cmp (ev_name rfl rfl rfl (ev_none (is_num hv (ev_pair (fun _ => rfl) (fun _ => rfl) (ev_call1 gl_top rfl rfl (fun _ => rfl) (ev_name rfl rfl rfl (c_top (Nat.le_of_ble_eq_true rfl) (Nat.le_of_ble_eq_true rfl) hv fun _ => ev_call1 gl_bottom rfl rfl (fun _ => rfl) (ev_name rfl rfl rfl (c_bottom (Nat.le_of_ble_eq_true rfl) (Nat.le_of_ble_eq_true rfl) hv fun _ D => k D _ _))))))))) rfl))
theorem c_pairN (hD : 8 ≤ S.C.D) (hU : 80 ≤ S.C.U) (k : O n .none) : CR S ρ n (.ref 266) [.none] O := by
  refine cr_def (D := 7) (U := 77) (binds := [(Str.ofString "number", .none)]) hD hU rfl rfl rfl (locs rfl) rfl rfl rfl (by decide) ?_
  exact st_ret (ev_ifexp (ts_cmp (ev_name rfl rfl rfl (ev_none (is_none (ev_none k)))) rfl))
theorem c_due (hD : 8 ≤ S.C.D) (hU : 80 ≤ S.C.U) (hv : NumIn n v t b) (ht : t.natAbs ≤ 9) (hb : b.natAbs ≤ 9) (he : e.natAbs ≤ 9) (hz : e < 0 → t ≠ 0) (k : ∀ D a c, O ((D, tup2 (.int (pT t b e) a) (.int (pB t b e) c)) :: n) (.ref D)) : CR S ρ n (.ref 273) [v, .int e te] O := by
  refine cr_def (D := 7) (U := 77) (binds := [(Str.ofString "base", v), (Str.ofString "exponent", .int e te)]) hD hU rfl rfl rfl (locs rfl) rfl rfl rfl (by decide) ?_
  have kk : ∀ {T B}, pT t b e = T ∧ pB t b e = B → ∀ D a c, O ((D, tup2 (.int T a) (.int B c)) :: n) (.ref D) := by
    rintro _ _ ⟨rfl, rfl⟩
    exact k
  have h62 := abs62 he
  refine st_set2 (x := Str.ofString "top") (y := Str.ofString "bottom") (ev_pair (fun _ => rfl) (fun _ => rfl) (ev_call2 gl_lpw rfl rfl (fun _ => rfl) (fun _ => rfl) (ev_call1 gl_top rfl rfl (fun _ => rfl) (ev_name rfl rfl rfl (c_top (Nat.le_of_ble_eq_true rfl) (Nat.le_of_ble_eq_true rfl) hv fun _ => ev_bi1 bi_abs rfl rfl (fun _ => rfl) (ev_name rfl rfl rfl (cr_abs fun _ => c_lpw (Nat.le_of_ble_eq_true rfl) (Nat.le_of_ble_eq_true rfl) (abs0 e) h62 (k9 ht) fun _ => ev_call2 gl_lpw rfl rfl (fun _ => rfl) (fun _ => rfl) (ev_call1 gl_bottom rfl rfl (fun _ => rfl) (ev_name rfl rfl rfl (c_bottom (Nat.le_of_ble_eq_true rfl) (Nat.le_of_ble_eq_true rfl) hv fun _ => ev_bi1 bi_abs rfl rfl (fun _ => rfl) (ev_name rfl rfl rfl (cr_abs fun _ => c_lpw (Nat.le_of_ble_eq_true rfl) (Nat.le_of_ble_eq_true rfl) (abs0 e) h62 (k9 hb) fun _ _ => st_pair ?_)))))))))))) rfl rfl (fun _ => rfl) (fun _ => rfl)
  refine st_if (ts_cmp (ev_name rfl rfl rfl (ev_int fun _ => cmp_lt (fun hn => ?_) fun hn => st_nil (st_ret (ev_pair (fun _ => rfl) (fun _ => rfl) (ev_name rfl rfl rfl (ev_name rfl rfl rfl fun D => kk (due_n3 hn) D _ _)))))) rfl)
  exact st_set2n (x := Str.ofString "top") (y := Str.ofString "bottom") (ev_ifexp (ts_cmp (ev_name rfl rfl rfl (ev_int fun _ => cmp_gt (fun hp => ev_pair (fun _ => rfl) (fun _ => rfl) (ev_name rfl rfl rfl (ev_name rfl rfl rfl fun _ => st_pairn (st_nil (st_ret (ev_pair (fun _ => rfl) (fun _ => rfl) (ev_name rfl rfl rfl (ev_name rfl rfl rfl fun D => kk (due_n1 hn hp) D _ _)))))))) fun hp => ev_pair (fun _ => rfl) (fun _ => rfl) (ev_op (ev_int fun _ => ev_name rfl rfl rfl (op_sub fun _ => ev_op (ev_int fun _ => ev_name rfl rfl rfl (op_sub fun _ _ => st_pairn (st_nil (st_ret (ev_pair (fun _ => rfl) (fun _ => rfl) (ev_name rfl rfl rfl (ev_name rfl rfl rfl fun D => kk (due_n2 hn (hz hn) hp) D _ _)))))))))))) rfl)) rfl rfl (fun _ => rfl) (fun _ => rfl)
theorem c_isroot (hD : 16 ≤ S.C.D) (hU : 160 ≤ S.C.U) (h0 : 0 ≤ x) (hx : x < 2 ^ 32) (hd : 1 ≤ d) (hd9 : d ≤ 9) (k : O n (.bool true)) : CR S ρ n (.ref 287) [.int x tx, .int d td] O := by
  refine Ev.low ?_
  refine cr_def (D := 15) (U := 157) (binds := [(Str.ofString "number", .int x tx), (Str.ofString "degree", .int d td)]) hD hU rfl rfl rfl (locs rfl) rfl rfl rfl (by decide) ?_
  refine st_set (x := Str.ofString "found") (ev_call2 gl_rootd rfl rfl (fun _ => rfl) (fun _ => rfl) (ev_name rfl rfl rfl (ev_name rfl rfl rfl (c_rootd (Nat.le_of_ble_eq_true rfl) (Nat.le_of_ble_eq_true rfl) h0 hx hd hd9 fun r _ hr => ?_)))) rfl (fun _ => rfl)
  have d0 : 0 ≤ d := Int.le_trans (by decide) hd
  have d62 : d < 2 ^ 62 := Int.lt_of_le_of_lt hd9 (by decide)
  have r62 := nat62' hr.1 (Int.le_trans (hr.le hd) (Int.le_trans (Int.le_of_lt hx) (by decide)))
  have r63 := nat62' (Int.add_nonneg hr.1 (by decide)) (Int.le_trans (Int.add_le_add_right (hr.le hd) 1) (Int.le_trans hx (by decide)))
  refine st_if (ts_or3 (ts_cmp (ev_name rfl rfl rfl (ev_int fun _ => cmp_lt (fun h => absurd h (Int.not_lt.mpr hr.1)) fun _ => ?_)) rfl))
  refine ts_cmp (ev_call2 gl_lpw rfl rfl (fun _ => rfl) (fun _ => rfl) (ev_name rfl rfl rfl (ev_name rfl rfl rfl (c_lpw (Nat.le_of_ble_eq_true rfl) (Nat.le_of_ble_eq_true rfl) d0 d62 r62 fun _ => ev_name rfl rfl rfl (cmp_gt (fun h => absurd h (Int.not_lt.mpr hr.2.1)) fun _ => ?_))))) rfl
  refine ts_cmp (ev_call2 gl_lpw rfl rfl (fun _ => rfl) (fun _ => rfl) (ev_op (ev_name rfl rfl rfl (ev_int fun _ => op_add fun _ => ev_name rfl rfl rfl (c_lpw (Nat.le_of_ble_eq_true rfl) (Nat.le_of_ble_eq_true rfl) d0 d62 r63 fun _ => ev_name rfl rfl rfl (cmp_le (fun h => absurd h (Int.not_le.mpr hr.2.2)) fun _ => st_nil ?_)))))) rfl
  refine st_ret (ev_or (ev_cmp (ev_name rfl rfl rfl (ev_int fun _ => cmp_ne (fun _ => .inl ⟨rfl, n, fun _ h => h, k⟩) fun h2 => .inr ⟨rfl, ?_⟩)) rfl))
  refine ev_cmp (ev_call1 gl_rootx rfl rfl (fun _ => rfl) (ev_name rfl rfl rfl (c_rootx (Nat.le_of_ble_eq_true rfl) (Nat.le_of_ble_eq_true rfl) h0 (Int.lt_trans hx (by decide)) fun g D a c hg => ?_))) rfl
  have e9 : g = r := IsSq.root hg (h2 ▸ hr)
  subst e9
  exact ev_pair (fun _ => rfl) (fun _ => rfl) (ev_name rfl rfl rfl (ev_op (ev_name rfl rfl rfl (ev_op (ev_name rfl rfl rfl (ev_name rfl rfl rfl (op_mul (lp_mulx r62) fun _ => op_sub fun _ D' => eq_tup2 (Nat.le_of_ble_eq_true rfl) (.tail _ (.head _)) (.head _) ⟨n, fun _ h => .tail _ (.tail _ h), k⟩)))))))
theorem is_wr (h : WrV x d v) (hT : (∀ k, 0 ≤ k → k ^ d.toNat ≠ x) → KT n) (hF : ∀ k a, v = .int k a → 0 ≤ k → k ^ d.toNat = x → KF n) : CmpJ S ρ n .Is v .none KT KF := fun _ _ _ _ _ F N q => match v, h with
  | _, .inl ⟨_, _, rfl, h1, h2⟩ => is_int_none (q _ (.bool false) _ _ (.inr ⟨rfl, hF _ _ rfl h1 h2⟩) F N)
  | _, .inr ⟨rfl, h⟩ => is_none_none (q _ (.bool true) _ _ (.inl ⟨rfl, hT h⟩) F N)
theorem c_wroot (hD : 8 ≤ S.C.D) (hU : 80 ≤ S.C.U) (h0 : 0 ≤ x) (hx : x < 2 ^ 32) (hd : 1 ≤ d) (hd9 : d ≤ 9) (k : ∀ r, WrV x d r → O n r) : CR S ρ n (.ref 294) [.int x tx, .int d td] O := by
  refine cr_def (D := 7) (U := 77) (binds := [(Str.ofString "number", .int x tx), (Str.ofString "degree", .int d td)]) hD hU rfl rfl rfl (locs rfl) rfl rfl rfl (by decide) ?_
  have d0 : 0 ≤ d := Int.le_trans (by decide) hd
  have d62 : d < 2 ^ 62 := Int.lt_of_le_of_lt hd9 (by decide)
  refine st_set (x := Str.ofString "found") (ev_int fun _ => ?_) rfl (fun _ => rfl)
  refine st_while2 (x := Str.ofString "found") (y := Str.ofString "number") (fun ρ f m => m = x ∧ ρ (Str.ofString "degree") = some (.int d td) ∧ WrInv x d f) (fun f _ => (x + 1 - f).toNat) rfl rfl ⟨rfl, rfl, wr_start⟩ fun _ f _ _ _ h1 h3 ⟨e9, h4, hi⟩ => ?_
  subst e9
  refine ts_cmp (ev_call2 gl_lpw rfl rfl (fun _ => rfl) (fun _ => rfl) (ev_name h1 rfl rfl (ev_name h4 rfl rfl (c_lpw (Nat.le_of_ble_eq_true rfl) (Nat.le_of_ble_eq_true rfl) d0 d62 (wr_abs hi h0 hx hd) fun _ => ev_name h3 rfl rfl (cmp_lt (fun hq => ?_) fun hq => ?_))))) rfl
  · exact st_set (x := Str.ofString "found") (ev_op (ev_name h1 rfl rfl (ev_int fun _ => op_add fun _ => wh2 rfl h3 ⟨rfl, h4, wr_step hi hq⟩ (wr_meas hi hq hd)))) rfl (fun _ => rfl)
  · exact st_ret (ev_ifexp (ts_cmp (ev_call2 gl_lpw rfl rfl (fun _ => rfl) (fun _ => rfl) (ev_name h1 rfl rfl (ev_name h4 rfl rfl (c_lpw (Nat.le_of_ble_eq_true rfl) (Nat.le_of_ble_eq_true rfl) d0 d62 (wr_abs hi h0 hx hd) fun _ => ev_name h3 rfl rfl (cmp_eq (fun he => ev_name h1 rfl rfl (k _ (wr_fin1 hi he))) fun he => ev_none (k _ (wr_fin2 hi hq he))))))) rfl))
theorem c_isxroot (hD : 24 ≤ S.C.D) (hU : 240 ≤ S.C.U) (hv : NumIn n v t b) (ht : 0 ≤ t) (htt : t < 2 ^ 32) (hb : 0 ≤ b) (hbb : b < 2 ^ 32) (hd : 1 ≤ d) (hd9 : d ≤ 9) (k : O n (.bool true)) : CR S ρ n (.ref 301) [v, .int d td] O := by
  refine Ev.low ?_
  refine cr_def (D := 23) (U := 237) (binds := [(Str.ofString "number", v), (Str.ofString "degree", .int d td)]) hD hU rfl rfl rfl (locs rfl) rfl rfl rfl (by decide) ?_
  refine st_set2 (x := Str.ofString "top") (y := Str.ofString "bottom") (ev_pair (fun _ => rfl) (fun _ => rfl) (ev_call2 gl_wroot rfl rfl (fun _ => rfl) (fun _ => rfl) (ev_call1 gl_top rfl rfl (fun _ => rfl) (ev_name rfl rfl rfl (c_top (Nat.le_of_ble_eq_true rfl) (Nat.le_of_ble_eq_true rfl) hv fun _ => ev_name rfl rfl rfl (c_wroot (Nat.le_of_ble_eq_true rfl) (Nat.le_of_ble_eq_true rfl) ht htt hd hd9 fun r1 w1 => ev_call2 gl_wroot rfl rfl (fun _ => rfl) (fun _ => rfl) (ev_call1 gl_bottom rfl rfl (fun _ => rfl) (ev_name rfl rfl rfl (c_bottom (Nat.le_of_ble_eq_true rfl) (Nat.le_of_ble_eq_true rfl) hv fun _ => ev_name rfl rfl rfl (c_wroot (Nat.le_of_ble_eq_true rfl) (Nat.le_of_ble_eq_true rfl) hb hbb hd hd9 fun r2 w2 _ => st_pair ?_)))))))))) rfl rfl (fun _ => rfl) (fun _ => rfl)
  refine (fun tail : ((∀ k : Int, 0 ≤ k → k ^ d.toNat ≠ t) ∨ ∀ k : Int, 0 ≤ k → k ^ d.toNat ≠ b) → _ => st_set (x := Str.ofString "due") (ev_ifexp (ts_or (ts_cmp (ev_name rfl rfl rfl (ev_none (is_wr w1 (fun h => ev_none (tail (.inl h))) fun k1 a1 e1 p1 q1 => ts_cmp (ev_name rfl rfl rfl (ev_none (is_wr w2 (fun h => ev_none (tail (.inr h))) fun k2 a2 e2 p2 q2 => ?_))) rfl))) rfl))) rfl (fun _ => rfl)) fun hno => ?_
  · subst e1 e2
    refine ev_pair (fun _ => rfl) (fun _ => rfl) (ev_name rfl rfl rfl (ev_name rfl rfl rfl fun D => ?_))
    refine st_ret (ev_cmp (ev_call1 gl_pair rfl rfl (fun _ => rfl) (ev_call2 gl_xroot rfl rfl (fun _ => rfl) (fun _ => rfl) (ev_name rfl rfl rfl (ev_name rfl rfl rfl (c_xroot (Nat.le_of_ble_eq_true rfl) (Nat.le_of_ble_eq_true rfl) (hv.mono fun _ h => .tail _ h) ht htt hb hbb hd hd9 fun n' r hs hx => ?_))))) rfl)
    rcases hx with ⟨k3, j3, y1, y2, y3, y4, y5⟩ | ⟨_, y | y⟩
    · obtain rfl := pow_inj hd y1 p1 y3 q1
      obtain rfl := pow_inj hd y2 p2 y4 q2
      exact c_pair (Nat.le_of_ble_eq_true rfl) (Nat.le_of_ble_eq_true rfl) y5 fun D' _ _ => ev_name rfl rfl rfl (eq_tup2 (Nat.le_of_ble_eq_true rfl) (.head _) (.tail _ (hs _ (.head _))) ⟨n, fun p h => .tail _ (hs p (.tail _ h)), k⟩)
    · exact absurd q1 (y _ p1)
    · exact absurd q2 (y _ p2)
  · refine st_ret (ev_cmp (ev_call1 gl_pair rfl rfl (fun _ => rfl) (ev_call2 gl_xroot rfl rfl (fun _ => rfl) (fun _ => rfl) (ev_name rfl rfl rfl (ev_name rfl rfl rfl (c_xroot (Nat.le_of_ble_eq_true rfl) (Nat.le_of_ble_eq_true rfl) hv ht htt hb hbb hd hd9 fun n' r hs hx => ?_))))) rfl)
    rcases hx with ⟨k3, j3, y1, y2, y3, y4, _⟩ | ⟨rfl, _⟩
    · exact hno.elim (fun h => absurd y3 (h _ y1)) fun h => absurd y4 (h _ y2)
    · exact c_pairN (Nat.le_of_ble_eq_true rfl) (Nat.le_of_ble_eq_true rfl) (ev_name rfl rfl rfl (eq_none ⟨n, hs, k⟩))
end

end Mine
end
section
open PySem PySem.W PySem.Spec PySem.Calls PyProof.Rows
namespace Mine
set_option maxRecDepth 100000
set_option maxHeartbeats 8000000
/-- the deck's ints -/
def DeckOk (ds : List Int) : Prop := (∀ x ∈ ds, 0 ≤ x) ∧ ds.length ≤ 12
theorem DeckOk.tail {x : Int} {ds : List Int} (h : DeckOk (x :: ds)) : DeckOk ds := ⟨fun y hy => h.1 y (.tail _ hy), Nat.le_trans (Nat.le_succ _) h.2⟩
theorem DeckOk.head {x : Int} {ds : List Int} (h : DeckOk (x :: ds)) : 0 ≤ x := h.1 x (.head _)
theorem DeckOk.set {x y : Int} {ds : List Int} (h : DeckOk (x :: ds)) (hy : 0 ≤ y) : DeckOk (y :: ds) := ⟨fun _ hz => (List.mem_cons.mp hz).elim (fun e => e ▸ hy) (h.1 _ <| .tail _ ·), h.2⟩
abbrev off (D : Addr) (n : Led) : Led := n.filter fun p => decide (p.1 ≠ D)
theorem off_mem {D : Addr} {n : Led} {p : Addr × Obj} (h : p ∈ n) (k : p.1 ≠ D) : p ∈ off D n := List.mem_filter.mpr ⟨h, decide_eq_true k⟩
theorem off_ne {D : Addr} {n : Led} : ∀ p ∈ off D n, p.1 ≠ D := fun _ hp => of_decide_eq_true (List.mem_filter.mp hp).2
theorem off_sub {D : Addr} {n : Led} {o : Obj} (h : (D, o) ∈ n) : ∀ p ∈ (D, o) :: off D n, p ∈ n := fun _ hp => (List.mem_cons.mp hp).elim (fun e => e ▸ h) fun hp => (List.mem_filter.mp hp).1
/-- the object at D has been turned -/
def Turned (D : Addr) (o' : Obj) (n n' : Led) : Prop := (D, o') ∈ n' ∧ ∀ p ∈ n, p.1 ≠ D → p ∈ n'
theorem turned {D : Addr} {o' : Obj} {n : Led} : Turned D o' n ((D, o') :: off D n) := ⟨.head _, fun _ hp k => .tail _ (off_mem hp k)⟩
section
variable {S : SF} {ρ : Loc} {n : Led} {x : Str} {v : Value} {O : Led → Value → Prop} {R : Loc → Led → Flow → Prop} {rest : List Stmt} {KT KF : Led → Prop} {D l : Addr} {vs : List Value} {ds : List Int} {m : Nat} {a u : Tok} {i j : Int} {p1 p2 p3 p4 pos : Pos} {e : Expr} {k : Nat}
theorem ev_list0 (h : ∀ l, O ((l, listOf #[] 0) :: n) (.ref l)) : EvR S ρ n (.List [] pos) O := fun _ _ _ _ _ F N q => List_ (args_nil (newList_K F N (fun _ _ F N _ => q _ _ _ _ (h _) F N) (Nat.zero_le _)))
theorem ne_nil (hU : 64 ≤ S.C.U) (hm : (D, listOf vs.toArray m) ∈ n) (hl : (l, listOf #[] 0) ∈ n) (hi : IntsAre vs ds) (hT : ds ≠ [] → KT n) (hF : ds = [] → KF n) : CmpJ S ρ n .NotEq (.ref D) (.ref l) KT KF := fun z _ _ _ G F N q =>
  ke_ne_ints (xs := vs) (ys := []) (News.isList N hm) (News.isList N hl) hi .nil (units_z G hU) (q _ _ _ _ (boolK (fun h => hT (by simpa using h)) (fun h => hF (by simpa using h))) F N)
theorem eq_nil (hU : 64 ≤ S.C.U) (hm : (D, listOf vs.toArray m) ∈ n) (hl : (l, listOf #[] 0) ∈ n) (hi : IntsAre vs ds) (hT : ds = [] → KT n) (hF : ds ≠ [] → KF n) : CmpJ S ρ n .Eq (.ref D) (.ref l) KT KF := fun z _ _ _ G F N q =>
  ke_eq_ints (xs := vs) (ys := []) (News.isList N hm) (News.isList N hl) hi .nil (units_z G hU) (q _ _ _ _ (decK hT hF) F N)
theorem ev_sub0 (hv : ρ x = some (.ref D)) (hx : S.C.cs.names.lookup x = some .local) (hd : (x == ("__debug__" : Str)) = false) (hm : (D, listOf (v :: vs).toArray m) ∈ n) (h : O n v) : EvR S ρ n (.Subscript (.Name x p1) (.Constant (.int 0) k p2) pos) O := fun _ _ _ _ G F N q =>
  Subscript_ (nameX_L F hv (wpAny_Constant_int (have hl := PySem.IsL.isList (n := m) (N _ hm).1; tail_any hl.typeIs slot_list_getitem.lookup (wpAny_getItem_list hl (by decide) (by decide) (by simp) (q _ _ _ _ h F N)) (by with_unfolding_all rfl))) G.k hx hd)
theorem st_pop0 {pl : FX → Sem Bool} (hv : ρ x = some (.ref D)) (hx : S.C.cs.names.lookup x = some .local) (hd : (x == ("__debug__" : Str)) = false) (hm : (D, listOf (v :: vs).toArray m) ∈ n) (hz : vs.length ≤ 12)
    (he : ∀ z : FX, eval (.Call (.Attribute (.Name x p1) (Str.ofString "pop") p2) [.Constant (.int 0) k p3] [] p4) (z.env S) = (do let ov ← eval (.Name x p1) (z.env S); standAt p2.atName; let x ← holding [ov] (getMethod ov (Str.ofString "pop") (pl z)); match x with | (f, first) => callWith p4 f first (backTo p4 (starEach [.Constant (.int 0) k p3] (z.env S))) []))
    (hi9 : ∀ z : FX, interactive (z.env S) = false) (hs : swapsWith (.Call (.Attribute (.Name x p1) (Str.ofString "pop") p2) [.Constant (.int 0) k p3] [] p4) none pos.line = fun _ => pure false)
    (h : ∀ n' m', Turned D (listOf vs.toArray m') n n' → St S ρ n' rest R) : St S ρ n (.Expr (.Call (.Attribute (.Name x p1) (Str.ofString "pop") p2) [.Constant (.int 0) k p3] [] p4) pos :: rest) R := fun z _ _ _ G F N q =>
  wpAny_execs_cons (wpAny_Expr_any (MethodCall_ (nameX_L F hv (kl_method N hm PySem.F.slot_list_pop PySem.F.type_list_pop (callWith_method1 (args_cons (wpAny_Constant_int (args_nil
    (kl_popAt (p := []) (q := vs) (k := 0) F (fun p hp => N p (off_sub hm p hp)) rfl (by simp [seqIndex?]) rfl (Upd.head off_ne) (by show (v :: vs).length ≤ sizeLine; rw [PySem.sizeLine_eq, List.length_cons]; omega) fun _ F N => h _ _ turned z _ _ _ G F N q)))))) G.k hx hd) (he z)) (hi9 z) (congrFun hs _))
theorem st_set0 (hv : ρ x = some (.ref D)) (hx : S.C.cs.names.lookup x = some .local) (hd : (x == ("__debug__" : Str)) = false) (hi : IntsAre vs ds) (hz : ds.length ≤ 12) (hs : ∀ env, swapsWith e (some ((Expr.Name x p1).Subscript (.Constant (.int 0) k p2) p3)) pos.line env = pure false)
    (h : EvR S ρ n e fun n' w => ∃ m j u, w = .int j u ∧ (D, listOf (.int i a :: vs).toArray m) ∈ n' ∧ ∀ n2, Turned D (listOf (.int j u :: vs).toArray m) n' n2 → St S ρ n2 rest R) : St S ρ n (.Assign [(Expr.Name x p1).Subscript (.Constant (.int 0) k p2) p3] e pos :: rest) R := fun z _ _ _ G F N q =>
  wpAny_execs_cons (wpAny_Assign_Subscript (h z _ _ _ G F N fun _ _ _ _ o F N => have ⟨_, _, _, e, hm, o⟩ := o; e ▸ nameX_L F hv (wpAny_Constant_int (ksa_set (k := 0) F (fun p hp => N p (off_sub hm p hp)) (Upd.head off_ne) (IntsAre.cons i a hi) (by decide) (by rw [List.length_cons]; omega) (by decide) fun _ F N _ _ _ => o _ turned z _ _ _ G F N q)) G.k hx hd) (hs _))
end
end Mine
end
section
open PySem PySem.W PySem.Spec PySem.Calls PyProof.Rows
namespace Mine
set_option maxRecDepth 100000
set_option maxHeartbeats 8000000
theorem Turned.then {D : Addr} {o o' : Obj} {n n' n2 : Led} (h : Turned D o n n') (h2 : Turned D o' n' n2) : Turned D o' n n2 := ⟨h2.1, fun p hp k => h2.2 p (h.2 p hp k) k⟩
theorem Turned.more {D : Addr} {o : Obj} {n n' n2 : Led} (h : Turned D o n n') (h2 : ∀ p ∈ n', p ∈ n2) : Turned D o n n2 := ⟨h2 _ h.1, fun p hp k => h2 p (h.2 p hp k)⟩
theorem noPy3 {j x : Int} (h : 0 < j) (h1 : j ≤ 1000) : Builtin.divisionGoesByPylong x j = false := noPy (nat62' (Int.le_of_lt h) (Int.le_trans h1 (by decide)))
section
variable {S : SF} {ρ : Loc} {n : Led} {O : Led → Value → Prop} {j : Int} {tj : Tok}
theorem c_draw (hD : 4 ≤ S.C.D) (hU : 70 ≤ S.C.U) {D : Addr} {vs : List Value} {ds : List Int} {m : Nat} (hm : (D, listOf vs.toArray m) ∈ n) (hi : IntsAre vs ds) (ok : DeckOk ds) (hj : 0 < j) (hj2 : j ≤ 1000)
    (kk : ∀ n' us es m' x a, Turned D (listOf us.toArray m') n n' → IntsAre us es → DeckOk es → 0 ≤ x → x < j → O n' (.int x a)) : CR S ρ n (.ref 252) [.ref D, .int j tj] O := by
  refine cr_def (D := 3) (U := 67) (binds := [(Str.ofString "deck", .ref D), (Str.ofString "many", .int j tj)]) hD hU rfl rfl rfl (locs rfl) rfl rfl rfl (by decide) ?_
  refine st_while (J := fun k ρ n' => ρ (Str.ofString "deck") = some (.ref D) ∧ ρ (Str.ofString "many") = some (.int j tj) ∧ ∃ us es m, Turned D (listOf us.toArray m) n n' ∧ IntsAre us es ∧ DeckOk es ∧ es.length = k) ⟨rfl, rfl, vs, ds, m, ⟨hm, fun _ h _ => h⟩, hi, ok, rfl⟩ fun _ ρ n' hJ => ?_
  obtain ⟨h1, h2, us, es, m, hT, hi, ok, rfl⟩ := hJ
  cases hi with
  | nil =>
    refine ts_and (ts_cmp (ev_name h1 rfl rfl (ev_list0 fun l => ne_nil (Nat.le_of_ble_eq_true rfl) (.tail _ hT.1) (.head _) .nil (fun h => absurd rfl h) fun _ => ?_)) rfl)
    exact st_if (ts_cmp (ev_name h1 rfl rfl (ev_list0 fun l2 => eq_nil (Nat.le_of_ble_eq_true rfl) (.tail _ (.tail _ hT.1)) (.head _) .nil (fun _ => st_ret (ev_int fun _ => kk _ [] [] m 0 _ (hT.more fun _ h => .tail _ (.tail _ h)) .nil ok (by decide) hj)) fun h => absurd rfl h)) rfl)
  | cons x t hi =>

    refine ts_and (ts_cmp (ev_name h1 rfl rfl (ev_list0 fun l => ne_nil (Nat.le_of_ble_eq_true rfl) (.tail _ hT.1) (.head _) (.cons _ _ hi) (fun _ => ?_) fun h => absurd h (List.cons_ne_nil _ _))) rfl)
    refine ts_cmp (ev_sub0 h1 rfl rfl (.tail _ hT.1) (ev_int fun _ => cmp_eq (fun _ => ?_) fun _ => ?_)) rfl
    · exact st_pop0 h1 rfl rfl (.tail _ hT.1) (hi.length ▸ ok.tail.2) (fun _ => rfl) (fun _ => rfl) rfl fun n3 m' h3 => st_nil ⟨_, Nat.lt_succ_self _, h1, h2, _, _, m', (hT.more fun _ h => .tail _ h).then h3, hi, ok.tail, rfl⟩
    · refine st_if (ts_cmp (ev_name h1 rfl rfl (ev_list0 fun l2 => eq_nil (Nat.le_of_ble_eq_true rfl) (.tail _ (.tail _ hT.1)) (.head _) (.cons _ _ hi) (fun h => absurd h (List.cons_ne_nil _ _)) fun _ => st_nil ?_)) rfl)
      refine st_set (x := Str.ofString "found") (ev_op (ev_sub0 h1 rfl rfl (.tail _ (.tail _ hT.1)) (ev_name h2 rfl rfl (op_mod (Int.ne_of_gt hj) fun _ => ?_)))) rfl (fun _ => rfl)
      refine st_set0 h1 rfl rfl hi ok.tail.2 (fun _ => rfl) (ev_op (ev_sub0 h1 rfl rfl (.tail _ (.tail _ hT.1)) (ev_name h2 rfl rfl (op_div (Int.ne_of_gt hj) (noPy3 hj hj2) fun u => ⟨m, _, u, rfl, .tail _ (.tail _ hT.1), fun n2 h2 => ?_⟩))))
      exact st_ret (ev_name rfl rfl rfl (kk _ _ _ m _ _ ((hT.more fun _ h => .tail _ (.tail _ h)).then h2) (.cons _ u hi) (ok.set (Int.fdiv_nonneg ok.head (Int.le_of_lt hj))) (Int.fmod_nonneg_of_pos _ hj) (Int.fmod_lt_of_pos _ hj)))
end

end Mine
end
section
open PySem PySem.W PySem.Spec PySem.Calls PyProof.Rows
namespace Mine
set_option maxRecDepth 100000
set_option maxHeartbeats 8000000
open Builtin Builtin.ObjectAttr
abbrev bmS : List Value := [.ref 143, .type "Exception", .type "BaseException", .type "object"]
abbrev excO (t : Addr) : Obj := { cls := .ref 163, data := .fields #[.ref t, .none, .none, .none, .bool false, .none] }
abbrev tupO (vs : List Value) : Obj := { cls := .type "tuple", data := .seq vs.toArray }
section
variable {prog : Program} {w : World} {A : Around} {h : Heap} {g : Array GenState} {d : Drawn} {t : Nat} {os : OsState}
variable {nm q : Str} {N : Addr} {bs : List Value} {hdct : Bool} {sn : List Str} {sub : List Value} {ab : Bool} {col : Option Bool} {dd : Option Addr} {k0 k1 k2 k3 k5 : Option Value}
theorem dz_has : (Value.ref 163 :: bmS).contains (.type "Exception") = true := rfl
theorem dz_hasS : bmS.contains (.type "Exception") = true := rfl
theorem dz_noA : (Value.ref 163 :: bmS).contains (.type "AttributeError") = false := rfl
theorem dz_noN : (Value.ref 163 :: bmS).contains (.type "NameError") = false := rfl
theorem dz_base : (Value.ref 163 :: bmS).contains (.type "BaseException") = true := rfl
theorem dz_self : (Value.ref 163 :: bmS).contains (.ref 163) = true := rfl
theorem dz_check {M : Model} {E : Value → Shared → Prop} {rest : List Value} {Q : Unit → Shared → Prop} (hC : h.get? 163 = some (excClassObj nm q 163 N bs bmS hdct sn sub ab col dd k0 k1 k2 k3 k5 "Exception.__new__"))
    (hq : Q () ⟨h, g, d, t, os⟩) : wpAny M A (checkBuiltinCall "Exception.__new__" ⟨.ref 163 :: rest, []⟩) Q E ⟨h, g, d, t, os⟩ := wpAny_check_new_subU PySem.F.excBase_Exception dz_hasS OwnTail.base hC hq
theorem dz_new {R : Result → Shared → Prop} {rest : List Value} (hC : h.get? 163 = some (excClassObj nm q 163 N bs bmS hdct sn sub ab col dd k0 k1 k2 k3 k5 "Exception.__new__"))
    (hq : R (.ok (.ret (.ref (h.objs.size + 1)))) ⟨(h.push (tupO rest)).push (excO h.objs.size), g, d, t, os⟩) (hrest : rest.length ≤ sizeLine) :
    codeAny (model prog w) A (.builtin "Exception.__new__" ⟨.ref 163 :: rest, []⟩) R ⟨h, g, d, t, os⟩ := by
  have F := PySem.F.excBase_Exception
  have hends := F.ends
  refine codeAny_builtinAt F.entry ?_
  unfold Builtin.«BaseException.__new__»
  refine PySem.wpAt_bind ?_
  show PySem.wpAt _ _ _ (stack >>= _) _ _ _
  refine PySem.wpAt_bind (PySem.wpAt_stack fun p below => PySem.wpAt_of_wpAny ?_)
  wp_walk
  refine PySem.wpAt_of_wpAny ?_
  rw [F.owner]
  repeat (first | with_reducible refine wpAny_madeHere_exc F.canon hC ?_ | with_reducible refine wpAny_loadPart_at hC ?_ | (with_reducible refine wpAny_isSubtype_exc hC ?_; first | rw [dz_has] | rw [dz_noA] | rw [dz_noN]) | wp_step)
  show R _ _
  rw [Heap.size_push]
  exact hq
theorem dz_type_call {E : Value → Shared → Prop} {rest : List Value} {oI : Obj} {Q : Fin → Shared → Prop} (hC : h.get? 163 = some (excClassObj nm q 163 N bs bmS hdct sn sub ab col dd k0 k1 k2 k3 k5 "Exception.__new__")) (hi : Looks (model prog w) h (typeLookup (.ref 163) "__init__") (some (.ref 160)))
    (hfI : h.get? 160 = some oI) (hfc : oI.cls = .type "function") (hrest : rest.length ≤ sizeLine)
    (hq : wpAny (model prog w) A (call (.ref 160) (.ref (h.objs.size + 1) :: rest)) (fun r s' => r = .none ∧ Q (.done (.ret (.ref (h.objs.size + 1)))) s') E ⟨(h.push (tupO rest)).push (excO h.objs.size), g, d, t, os⟩) :
    wpAny (model prog w) A (Builtin.«type.__call__» ⟨.ref 163 :: rest, []⟩) Q E ⟨h, g, d, t, os⟩ := by
  have F := PySem.F.excBase_Exception
  repeat (first | with_reducible refine wpAny_loadPart_at hC ?_ | with_reducible refine wpAny_madeBy_exc hC ?_ | wp_step)
  refine codeAny_call_builtin_code (Code.quiet_builtin _ F.quiet) (dz_check hC ?_)
  refine dz_new hC ?_ hrest
  show wpAny _ _ _ _ _ _
  have kp : ∀ b o, h.get? b = some o → ((h.push (tupO rest)).push (excO h.objs.size)).get? b = some o := fun b o e => Heap.get?_push_of_some _ (Heap.get?_push_of_some _ e)
  have hC₁ := kp _ _ hC
  have hfI₁ := kp _ _ hfI
  have hi₁ := hi.keeps kp
  have hget : ((h.push (tupO rest)).push (excO h.objs.size)).get? (h.objs.size + 1) = some (excO h.objs.size) := by heap_get
  unfold isInstance
  repeat (first | with_reducible refine wpAny_loadPart_at hget ?_ | (with_reducible refine wpAny_isSubtype_exc hC₁ ?_; rw [dz_self]) | wp_step)
  show wpAny _ _ (typeLookup (.ref 163) _) _ _ _
  refine hi₁.at ?_
  refine wpAny_holding (wpAny_bind ?_)
  unfold bindSpecial
  refine wpAny_bind (wpAny_typeOf (T := "function") ⟨_, hfI₁, hfc⟩ ?_)
  rw [if_pos (by decide)]
  refine wpAny_pure (wpAny_bind (wpAny_mono hq (fun r s' hr => ?_) fun _ _ x => x))
  obtain ⟨rfl, hQ⟩ := hr
  wp_walk
  exact hQ
theorem dz_call {E : Value → Shared → Prop} {rest : List Value} {oI : Obj} {Q : Value → Shared → Prop} (hC : h.get? 163 = some (excClassObj nm q 163 N bs bmS hdct sn sub ab col dd k0 k1 k2 k3 k5 "Exception.__new__")) (hi : Looks (model prog w) h (typeLookup (.ref 163) "__init__") (some (.ref 160)))
    (hfI : h.get? 160 = some oI) (hfc : oI.cls = .type "function") (hrest : rest.length ≤ sizeLine)
    (hq : wpAny (model prog w) (A.under (.builtin "type.__call__" ⟨.ref 163 :: rest, []⟩)) (call (.ref 160) (.ref (h.objs.size + 1) :: rest)) (fun r s' => r = .none ∧ Q (.ref (h.objs.size + 1)) s') E ⟨(h.push (tupO rest)).push (excO h.objs.size), g, d, t, os⟩) :
    wpAny (model prog w) A (call (.ref 163) rest) Q E ⟨h, g, d, t, os⟩ := by
  have f1 := tc_lookup
  have f2 := tc_bind (.ref 163)
  have hT : (⟨h, g, d, t, os⟩ : Shared).TypeIs (.ref 163) "type" := ⟨_, hC, rfl⟩
  refine wpAny_call (codeAny_of_tree ?_)
  show wpAny _ _ (callAny (.ref 163) _) _ _ _
  repeat (any_goals (first | assumption | with_reducible refine wpAny_loadPart_at hC ?_ | wp_step))
  refine ⟨rfl, ?_⟩
  exact codeAny_call_builtin_at (Code.quiet_builtin _ (by decide +kernel)) entry_typeCall (wpAny_check_type_call_sub hC (dz_type_call hC hi hfI hfc hrest hq))
end
section
variable {w : World} {A : Around} {E : Value → Shared → Prop} {s : Shared} {h₀ : Heap} {L : Addr} {m : Str → Option Value} {news : List (Addr × Obj)}
theorem dz_callK {rest : List Value} {Q : Value → Shared → Prop} (F : Fr h₀ L s.heap m) (X₀ : (hd.heap_39 w.params).In h₀) (N : News h₀ L s.heap news) (hrest : rest.length ≤ sizeLine)
    (h : ∀ x t h', Fr h₀ L h' m → News h₀ L h' ((x, excO t) :: (t, tupO rest) :: news) → (∀ p ∈ news, p.1 < t) → t < x →
      wpAny (model PySem.Challenge.rw_nt0253_01.row.prog w) (A.under (.builtin "type.__call__" ⟨.ref 163 :: rest, []⟩)) (call (.ref 160) (.ref x :: rest)) (fun r s' => r = .none ∧ Q (.ref x) s') E { s with heap := h' }) :
    wpAny (model PySem.Challenge.rw_nt0253_01.row.prog w) A (call (.ref 163) rest) Q E s := by
  have X := X₀.keeps F.keep
  obtain ⟨hh, g, d, t, os⟩ := s
  have N' := (N.push F (tupO rest)).push (F.push _) (excO hh.objs.size)
  rw [Heap.size_push] at N'
  have z := h _ hh.objs.size _ ((F.push _).push _) N' (fun p hp => Heap.lt_size (N p hp).1) (Nat.lt_succ_self _)
  exact dz_call (X 163 _ rfl) (looks_findIn X rfl) (X 160 _ rfl) rfl hrest z
end
/-- the exception, with or without its own dict -/
abbrev excD (t : Addr) (dd : Option Addr) : Obj := { cls := .ref 163, dict := dd, data := .fields #[.ref t, .none, .none, .none, .bool false, .none] }
section
variable {w : World} {A : Around} {s : Shared} {h₀ : Heap} {L x : Addr} {m : Str → Option Value} {R : Result → Shared → Prop}
theorem dz_refuse (self : Value) : refuseLoop self "__setattr__" (.ref 163 :: bmS) = pure () := by
  rw [refuseLoop_ref, refuseLoop_ref]
  exact PySem.F.store_Exception.passes self
theorem dz_open {ox : Obj} {od : Option Obj} {name : Str} {tk : Tok} {v : Value} (X : (hd.heap_39 w.params).In s.heap) (I : InstAt s.heap x ox 163 od) (ht : findIn (hd.heap_39 w.params) (.ref 163) name = some none)
    (h : wpAny (model PySem.Challenge.rw_nt0253_01.row.prog w) A.in1 (storeInOwnDict (.ref x) (.ref 163) (.str name tk) name v false)
      (fun fin s' => match fin with | .done f => R (.ok f) s' | .again c' => c'.quiet = true ∧ codeAny (model PySem.Challenge.rw_nt0253_01.row.prog w) A c' R s') (fun e s' => R (.error e) s') s) :
    codeAny (model PySem.Challenge.rw_nt0253_01.row.prog w) A (.call (.builtin "object.__setattr__") ⟨[.ref x, .str name tk, v], []⟩) R s := by
  have SF := PySem.F.store_object
  have sub : Looks (model PySem.Challenge.rw_nt0253_01.row.prog w) s.heap (isInstance (.ref x) (.type "object")) true := I.type.andThen (looks_mroIn X rfl)
  refine codeAny_call_builtin SF.slot.plain SF.entry (@check_slot (model PySem.Challenge.rw_nt0253_01.row.prog w) _ _ s "object.__setattr__" "object" "__setattr__" (.ref x) [.str name tk, v] [] _ SF.kind SF.split sub (SF.args (.ref x) (.str name tk) v) ?_)
  have hm : Looks (model PySem.Challenge.rw_nt0253_01.row.prog w) s.heap (mroOf (.ref 163)) (.ref 163 :: bmS) := (looks_clsIn X rfl).andThen .now
  rw [osa_eq, refuse_eq]
  refine wpAny_bind (wpAny_bind (I.type.here (wpAny_bind (hm.here ?_))))
  rw [dz_refuse]
  refine wpAny_pure (wpAny_bind (I.type.here (wpAny_bind ((looks_findIn X ht).here (wpAny_bind (wpAny_pure ?_))))))
  exact h
end
section
variable {w : World} {A : Around} {E : Value → Shared → Prop} {s : Shared} {h₀ : Heap} {L x : Addr} {m : Str → Option Value} {R : Result → Shared → Prop}
theorem dz_store {od od' : Obj} {dx : Addr} {name : Str} {tk : Tok} {v : Value} {pre post : List (Addr × Obj)} {es : List DictEntry} {n : Nat} {Q : Fin → Shared → Prop} (F : Fr h₀ L s.heap m) (N : News h₀ L s.heap (pre ++ (dx, od) :: post))
    (hl : (lookIn name od).isSome = true) (h1 : ∀ p ∈ pre, p.1 ≠ dx) (h2 : ∀ p ∈ post, p.1 ≠ dx)
    (e : Obj.putName name (PyData.keyHash w.params name) (.str name s.toks) v od = od') (e' : od'.data = .dict es.toArray n) (hz : es.length ≤ 1000)
    (h : ∀ h', Fr h₀ L h' m → News h₀ L h' (pre ++ (dx, od') :: post) → Q (.done (.ret .none)) { s with heap := h', toks := s.toks + 1 }) :
    wpAny (model PySem.Challenge.rw_nt0253_01.row.prog w) A (storeInDict dx (.str name tk) name v) Q E s := by
  obtain ⟨U1, U2⟩ := news_upd (f := Obj.putName name (PyData.keyHash w.params name) (.str name s.toks) v) F N h1 h2 e (by obtain ⟨_, _, dd, _⟩ := od'; cases e'; rfl)
  have D := (N (dx, od) (by simp)).1
  have D' := (U2 (dx, od') (by simp)).1
  unfold storeInDict newKeyGuard
  refine wpAny_bind (wpAny_pure (wpAny_bind ?_))
  unfold nsSet
  refine wpAny_bind (wpAny_bind (wpAny_askSetting (wpAny_pure (wpAny_bind (wpAny_mkText (wpAny_bind (wpAny_loadPart D ?_)))))))
  unfold lookIn at hl
  split at hl
  · rename_i es₀ n₀ q
    rw [q]
    dsimp only
    have c : (!es₀.any (·.key.isStr name) && es₀.any (·.refKey)) = false := by
      rw [← Array.any_toList, ← Array.any_toList]
      split at hl
      · rename_i en he
        rw [List.any_eq_true.mpr ⟨en, List.mem_of_find?_eq_some he, List.find?_some he⟩]; rfl
      · split at hl
        · cases hl
        · rename_i z; rw [Bool.not_eq_true] at z; rw [z, Bool.and_false]
    rw [aRefKeyMayBeTheName_at, c]
    refine wpAny_updatePart D ?_
    refine wpAny_bind (wpAny_lookBehind D' (by rw [e']; exact pastItsLine_dict (by rw [List.size_toArray, sizeLine_eq]; omega)) ?_)
    exact wpAny_pure (h _ U1 U2)
  · cases hl
end
section
variable {w : World} {A : Around} {E : Value → Shared → Prop} {s : Shared} {h₀ : Heap} {L x t : Addr} {m : Str → Option Value}
theorem dz_set {dx : Addr} {name : Str} {v : Value} {news news' : List (Addr × Obj)} {es es' : List DictEntry} {n n' : Nat} {Q : Unit → Shared → Prop} (F : Fr h₀ L s.heap m) (X₀ : (hd.heap_39 w.params).In h₀) (N : News h₀ L s.heap news)
    (hx : (x, excD t (some dx)) ∈ news) (hdx : (dx, dictOf es n) ∈ news) (ht : findIn (hd.heap_39 w.params) (.ref 163) name = some none) (hl : (getL name es).isSome = true)
    (e : (putL name (PyData.keyHash w.params name) (.str name (s.toks + 1)) v es, putN name es n) = (es', n')) (U : Upd dx (dictOf es n) (dictOf es' n') news news') (hz : es'.length ≤ 1000)
    (h : ∀ h', Fr h₀ L h' m → News h₀ L h' news' → Q () { s with heap := h', toks := s.toks + 2 }) :
    wpAny (model PySem.Challenge.rw_nt0253_01.row.prog w) A (setAttr (.ref x) name v) Q E s := by
  have X := X₀.keeps F.keep
  have I : InstAt s.heap x (excD t (some dx)) 163 (some (dictOf es n)) := ⟨(N _ hx).1, rfl, rfl, (N _ hdx).1⟩
  obtain ⟨pre, post, rfl, rfl, a, b⟩ := U.split
  obtain ⟨e1, e2⟩ := Prod.mk.inj e
  refine set_plain X I rfl (dz_open (s := { s with toks := s.toks + 1 }) X I ht ?_)
  have hx' := (N _ hx).1
  refine wpAny_bind (wpAny_pure (wpAny_bind (wpAny_bind (wpAny_loadPart hx' (wpAny_bind ((looks_clsIn (C := 163) X rfl).at ?_))))))
  refine wpAny_pure (a := some dx) ?_
  exact dz_store (s := { s with toks := s.toks + 1 }) F N hl a b (by rw [putName_dict, e1, e2]) rfl hz fun h' F' N' => h h' F' N'
theorem dz_set0 {name : Str} {v : Value} {news : List (Addr × Obj)} {news' : Addr → List (Addr × Obj)} {Q : Unit → Shared → Prop} (F : Fr h₀ L s.heap m) (X₀ : (hd.heap_39 w.params).In h₀) (N : News h₀ L s.heap news) (ht : findIn (hd.heap_39 w.params) (.ref 163) name = some none)
    (U : ∀ dx, Upd x (excD t none) (excD t (some dx)) news (news' dx))
    (h : ∀ dx h', Fr h₀ L h' m → News h₀ L h' ((dx, dictOf [⟨PyData.keyHash w.params name, .str name (s.toks + 1), v⟩] 1) :: news' dx) → (∀ p ∈ news, p.1 < dx) → Q () { s with heap := h', toks := s.toks + 2 }) :
    wpAny (model PySem.Challenge.rw_nt0253_01.row.prog w) A (setAttr (.ref x) name v) Q E s := by
  have X := X₀.keeps F.keep
  obtain ⟨hh, g, d, tk, os⟩ := s
  obtain ⟨pre, post, rfl, hn, a, b⟩ := (U hh.objs.size).split
  have hx := (N (x, excD t none) (by simp)).1
  have I : InstAt hh x (excD t none) 163 none := ⟨hx, rfl, rfl, trivial⟩
  refine set_plain (s := ⟨hh, g, d, tk, os⟩) X I rfl (dz_open (s := ⟨hh, g, d, tk + 1, os⟩) X I ht ?_)
  have lt : ∀ p ∈ pre ++ (x, excD t none) :: post, p.1 < hh.objs.size := fun p hp => Heap.lt_size (N p hp).1
  have ne : ∀ p ∈ pre ++ (x, excD t none) :: post, p.1 ≠ hh.objs.size := fun p hp => Nat.ne_of_lt (lt p hp)
  have N1 := N.push F emptyDict
  have F1 := F.push emptyDict
  have N1' : News h₀ L (hh.push emptyDict) (((hh.objs.size, emptyDict) :: pre) ++ (x, excD t none) :: post) := N1
  obtain ⟨F2, N2⟩ := news_upd (f := fun o => { cls := o.cls, dict := some hh.objs.size, data := o.data, slots := o.slots }) (o' := excD t (some hh.objs.size)) F1 N1' (fun p hp => by
    rcases List.mem_cons.mp hp with rfl | hp
    · exact fun q => ne _ (List.mem_append_right _ (.head _)) q.symm
    · exact a p hp) b rfl rfl
  refine wpAny_bind (wpAny_pure (wpAny_bind (wpAny_bind (wpAny_loadPart hx (wpAny_bind ((looks_clsIn (C := 163) X rfl).at ?_))))))
  refine wpAny_bind (wpAny_alloc' ?_)
  refine wpAny_bind (wpAny_update' (N1 (x, excD t none) (.tail _ (List.mem_append_right _ (.head _)))).1 ?_)
  refine wpAny_pure (a := some hh.objs.size) ?_
  refine dz_store (w := w) (s := ⟨(hh.push emptyDict).update x (fun o => { cls := o.cls, dict := some hh.objs.size, data := o.data, slots := o.slots }), g, d, tk + 1, os⟩) (pre := []) (od := emptyDict) (od' := dictOf [⟨PyData.keyHash w.params name, .str name (tk + 1), v⟩] 1) (es := [⟨PyData.keyHash w.params name, .str name (tk + 1), v⟩]) (n := 1)
    F2 N2 rfl (fun _ hp => nomatch hp) (fun p hp => ?_) (putName_dict _ _ _ _ [] 0) rfl (Nat.le_of_ble_eq_true rfl) fun h' F' N' => h hh.objs.size h' F' (by rw [hn]; exact N') lt
  rcases List.mem_append.mp hp with hp | hp
  · exact ne p (List.mem_append_left _ hp)
  · rcases List.mem_cons.mp hp with rfl | hp
    · exact ne (x, excD t none) (List.mem_append_right _ (.head _))
    · exact ne p (List.mem_append_right _ (.tail _ hp))
end
end Mine
end
section
open PySem PySem.W PySem.Spec PySem.Calls PyProof.Rows
namespace Mine
set_option maxRecDepth 100000
set_option maxHeartbeats 8000000
theorem memX {env : Env} {outer : List Env} {L b : Addr} (hf : env.frame = some L) (hm : b ∈ (env :: outer).filterMap (·.frame)) : b = L ∨ b ∈ outer.filterMap (·.frame) := by
  rw [List.filterMap_cons, hf] at hm
  rcases List.mem_cons.mp hm with h | h
  · exact .inl h
  · exact .inr h
section
variable {M : Model} {A : Around} {E : Value → Shared → Prop} {s : Shared} {base g g₂ : Heap} {outer : List Env} {env : Env} {L x t : Addr} {dd : Option Addr} {m : Str → Option Value} {Q : Unit → Shared → Prop} {news old : List (Addr × Obj)}
/-- the exception leaves the frame that raised it -/
theorem dz_leave (K : Below A base outer g) (F : Fr g L s.heap m) (N : News g L s.heap news) (hx : (x, excD t dd) ∈ news) (ho : ∀ q ∈ old, q ∈ news ∧ q.1 ≠ x) (hf : env.frame = some L) (hk : env.scope.kind = .function)
    (hQ : ∀ h', RaisedSN base g outer x (.ref 163) old h' → g.UpToSlots h' → Q () { s with heap := h' }) :
    wpAny M (A.deeper env) (leaving env (.ref x)) Q E s := by
  have K' := pushX K F hf hk
  have nx := N _ hx
  have gx : g.get? x = none := nx.2.2
  have bx : base.get? x = none := fresh_of_stays K.stays gx
  have hin : ∀ e ∈ (env :: outer), ∀ b, e.frame = some b → b ∈ (env :: outer).filterMap (·.frame) := fun e he b hb => List.mem_filterMap.mpr ⟨e, he, hb⟩
  have st : base.StaysIn (hideAll s.heap (x :: (env :: outer).filterMap (·.frame))) := fun b o q => hideAll_get _ (K'.stays b o q) fun hm => by
    rcases List.mem_cons.mp hm with rfl | hm
    · rw [bx] at q; cases q
    · rw [(K'.frames.mem hm).1] at q; cases q
  have sg : ∀ b o, g.get? b = some o → b ∉ outer.filterMap (·.frame) → (hideAll s.heap (x :: (env :: outer).filterMap (·.frame))).get? b = some o := fun b o q nm => hideAll_get _ (F.keep b o q) fun hm => by
    rcases List.mem_cons.mp hm with rfl | hm
    · rw [gx] at q; cases q
    · rcases memX hf hm with z | z
      · rw [z, kts_self F] at q; cases q
      · exact nm z
  have hl : ∀ q ∈ old, (hideAll s.heap (x :: (env :: outer).filterMap (·.frame))).get? q.1 = some q.2 ∧ g.get? q.1 = none ∧ base.get? q.1 = none := fun q hq => by
    obtain ⟨hq1, hq2⟩ := ho q hq
    refine ⟨hideAll_get _ (N q hq1).1 fun hm => ?_, (N q hq1).2.2, fresh_of_stays K.stays (N q hq1).2.2⟩
    rcases List.mem_cons.mp hm with z | hm
    · exact hq2 z
    · rcases memX hf hm with z | z
      · exact (N q hq1).2.1 z
      · obtain ⟨o, ho', _⟩ := (K.frames.mem z).2
        rw [(N q hq1).2.2] at ho'; cases ho'
  have hen : (hideAll s.heap (x :: (env :: outer).filterMap (·.frame))).get? x = none := hideAll_none _ (.head _)
  refine wpAny_leaving_firstW (a0 := .ref t) K'.stack (funFrames_hide K'.frames fun e he b hb => .tail _ (hin e he b hb)) hf nx.1 (fun b o hb => of_hideAll _ hb) hen rfl rfl rfl fun h' hL => ?_
  obtain ⟨k1, ⟨_, _, k2⟩, k3, k4⟩ := hL
  exact hQ h' ⟨_, _, st, sg, hl, k1, hen, k2, k3⟩ ((Heap.UpToSlots.of_keeps F.keep).trans k4)
/-- the exception leaves a frame above -/
theorem dz_on (K : Below A base outer g) (F : Fr g L g₂ m) (R : RaisedSN base g₂ (env :: outer) x (.ref 163) old s.heap) (hsm : g₂.UpToSlots s.heap) (hf : env.frame = some L)
    (hQ : ∀ h', RaisedSN base g outer x (.ref 163) old h' → g.UpToSlots h' → Q () { s with heap := h' }) :
    wpAny M (A.deeper env) (leaving env (.ref x)) Q E s := by
  obtain ⟨B, a0, hB, hBG, hl, hfl⟩ := R
  exact wpAny_leaves_onW (Around.frames_deeper K.stack) hf hfl fun h' x1 x2 =>
    hQ h' ⟨B, a0, hB, fun b o q nm => hBG b o (F.keep b o q) (fun hm => by
      rcases memX hf hm with z | z
      · rw [z, kts_self F] at q; cases q
      · exact nm z), fun q hq => ⟨(hl q hq).1, kts_none F.keep (hl q hq).2.1, (hl q hq).2.2⟩, x1⟩ ((Heap.UpToSlots.of_keeps F.keep).trans (hsm.trans x2))
end
/-- what the raised value must be -/
def DzPost (w : World) (E : Value → Shared → Prop) (v : Value) (s : Shared) : Prop := ∃ x t dd, v = .ref x ∧ s.heap.get? x = some (excD t dd) ∧ (hd.heap_39 w.params).In s.heap ∧ E (.ref x) s
theorem dz_post {w : World} {E : Value → Shared → Prop} {s : Shared} {h₀ : Heap} {L x t : Addr} {dd : Option Addr} {m : Str → Option Value} {news : List (Addr × Obj)} (F : Fr h₀ L s.heap m) (X₀ : (hd.heap_39 w.params).In h₀) (N : News h₀ L s.heap news) (hx : (x, excD t dd) ∈ news)
    (h : E (.ref x) s) : DzPost w E (.ref x) s := ⟨x, t, dd, rfl, (N _ hx).1, X₀.keeps F.keep, h⟩
theorem dz_raise {w : World} {A : Around} {E : Value → Shared → Prop} {s : Shared} {env : Env} {e : Expr} {pos : Pos} {Q : Flow → Shared → Prop} (hh : A.handled = none) (h : wpAny (model PySem.Challenge.rw_nt0253_01.row.prog w) A (eval e env) (DzPost w E) E s) :
    wpAny (model PySem.Challenge.rw_nt0253_01.row.prog w) A (exec (.Raise (some e) none pos) env) Q E s := by
  show wpAny (model PySem.Challenge.rw_nt0253_01.row.prog w) A (do standAt pos; raiseStmt env (some (do let v ← eval e env; standAt pos; pure v)) none) Q E s
  refine wpAny_bind (wpAny_standAt ?_)
  unfold raiseStmt
  dsimp only
  refine wpAny_bind (wpAny_bind (wpAny_mono h (fun v s₁ h₁ => wpAny_bind (wpAny_standAt (wpAny_pure ?_))) fun _ _ x => x))
  obtain ⟨x, t, dd, rfl, he, X, hE⟩ := h₁
  have hC := X 163 _ rfl
  obtain ⟨hp, g, d, tk, os⟩ := s₁
  repeat (first | with_reducible refine wpAny_loadPart_at he ?_ | with_reducible refine wpAny_loadPart_at hC ?_ | (with_reducible refine wpAny_isSubtype_exc (bm := bmS) hC ?_; rw [dz_base]) | wp_step)
  exact wpAny_raiseNew_none hh hE
/-- a call that hands back a value, or, where Z, raises the own exception -/
def CX (w : World) (mean : ExcName → Option Value) (mg mb : Str → Option Value) (fv : Value) (vs : List Value) (D U : Nat) (news : List (Addr × Obj)) (Out : List (Addr × Obj) → Value → Prop) (Z : Prop) : Prop :=
  ∀ (dp un : Nat) (gd : Option (List Code)) (cn : Str) (cs : Scope) (a : Addr) (ccd : Value) (cl : List (Str × Addr)) (outer : List Env) (A₀ : Around) (base h₀ : Heap) (L : Addr) (m : Str → Option Value) (s : Shared) (Q E : Value → Shared → Prop),
    Below A₀ base outer h₀ → Fr h₀ L s.heap m → (hd.heap_39 w.params).In h₀ → News h₀ L s.heap news → Top topProg LZ mean mg mb h₀ → cs.kind = .function → dp + D < recursionLimit → un + U < cLine →
    (∀ r n' h' tk', Fr h₀ L h' m → News h₀ L h' n' → (∀ p ∈ news, p ∈ n') → Out n' r → Q r { s with heap := h', toks := tk' }) →
    (∀ x g' h' tk', Z → Fr h₀ L g' m → RaisedSN base g' (envX cn cs L a ccd cl :: outer) x (.ref 163) news h' → g'.UpToSlots h' → E (.ref x) { s with heap := h', toks := tk' }) →
    wpAny (model PySem.Challenge.rw_nt0253_01.row.prog w) (ktrTop dp un gd cn cs L a ccd cl outer) (call fv vs) Q E s
theorem CX.use {w : World} {mean : ExcName → Option Value} {mg mb : Str → Option Value} {fv : Value} {vs : List Value} {D U : Nat} {news : List (Addr × Obj)} {Out : List (Addr × Obj) → Value → Prop} {Z : Prop}
    {dp un : Nat} {gd : Option (List Code)} {cn : Str} {cs : Scope} {a : Addr} {ccd : Value} {cl : List (Str × Addr)} {outer : List Env} {A₀ : Around} {base h₀ : Heap} {L : Addr} {m : Str → Option Value} {s : Shared} {Q E : Value → Shared → Prop}
    (C : CX w mean mg mb fv vs D U news Out Z) (B : Below A₀ base outer h₀) (F : Fr h₀ L s.heap m) (X : (hd.heap_39 w.params).In h₀) (N : News h₀ L s.heap news) (T : Top topProg LZ mean mg mb h₀) (hk : cs.kind = .function) (hd9 : dp + D < recursionLimit) (hu9 : un + U < cLine)
    (ret : ∀ r n' h' tk', Fr h₀ L h' m → News h₀ L h' n' → (∀ p ∈ news, p ∈ n') → Out n' r → Q r { s with heap := h', toks := tk' })
    (exc : ∀ x g' h' tk', Z → Fr h₀ L g' m → RaisedSN base g' (envX cn cs L a ccd cl :: outer) x (.ref 163) news h' → g'.UpToSlots h' → E (.ref x) { s with heap := h', toks := tk' }) :
    wpAny (model PySem.Challenge.rw_nt0253_01.row.prog w) (ktrTop dp un gd cn cs L a ccd cl outer) (call fv vs) Q E s :=
  C _ _ _ _ _ _ _ _ _ _ _ _ _ _ _ _ _ B F X N T hk hd9 hu9 ret exc
theorem allNe0 {x : Addr} {news : List (Addr × Obj)} (h : AllLt x news) : ∀ p ∈ news, p.1 ≠ x := fun p hp => Nat.ne_of_lt (ktn_ltOf h p hp)
theorem allNe {t x : Addr} {news : List (Addr × Obj)} (h : AllLt t news) (k : @LT.lt Nat _ t x) : ∀ p ∈ news, p.1 ≠ x := fun p hp => Nat.ne_of_lt (Nat.lt_trans (ktn_ltOf h p hp) k)
end Mine
end
section
open PySem PySem.W PySem.Spec PySem.Calls PyProof.Rows
namespace Mine
set_option maxRecDepth 100000
set_option maxHeartbeats 8000000
section
variable {prog : Program} {w : World} {A₀ A : Around} {s : Shared} {base h₀ : Heap} {L : Addr} {m : Str → Option Value} {env : Env} {news : List (Addr × Obj)} {K : Frag} {p : Program} {loose : List Str} {mean : ExcName → Option Value} {mg mb : Str → Option Value}
  {R : Result → Shared → Prop} {name qual : Str} {params : Arguments} {body : List Stmt} {scope : Scope} {dV kV doc pm cdv ct oc : Value} {an od : Option Addr} {osl : Array (Option Value)} {f : Addr} {args : Args} {binds : List (Str × Value)}
/-- a def with a try in it, called from the outermost frame, whatever that frame's cells -/
theorem enter_S0 (B : Below A₀ base [] h₀) (F : Fr h₀ L s.heap m) (X₀ : K.In h₀) (N : News h₀ L s.heap news) (T : Top p loose mean mg mb h₀) (hA : A.frames = some [env]) (hf : env.frame = some L) (hke : env.scope.kind = .function)
    (ho : K.lookup f = some ⟨oc, od, .func (fnOf name qual params body scope dV kV doc pm an cdv ct), osl⟩) (hcd : codeIn K cdv qual = true) (hroom : A.depth < recursionLimit)
    (hbind : BindsTo s (fnOf name qual params body scope dV kV doc pm an cdv ct) args binds) (hloc : ∀ y ∈ binds, scope.names.lookup y.1 = some .local)
    (h : ∀ g L' h₁, Fr h₀ L g m → Fr g L' h₁ (fun y => binds.reverse.lookup y) → News g L' h₁ news → Below A base [env] g → K.In g → Top p loose mean mg mb g → KtsDicts ([env].filterMap (·.frame)) g →
      wpAny (model prog w) (A.deeper (envOf qual scope L' f cdv)) (execs body (envOf qual scope L' f cdv))
        (fun fl s' => LeaveS0 ([env].filterMap (·.frame)) h₀ L m g R (match fl with | .ret v => v | _ => .none) s')
        (fun e s' => wpAny (model prog w) (A.deeper (envOf qual scope L' f cdv)) (leaving (envOf qual scope L' f cdv) e) (fun _ s'' => R (.error e) s'') (fun e' s'' => R (.error e') s'') s')
        { s with heap := h₁, toks := s.toks + binds.length })
    (hco : scope.isCoroutine = false) (hgen : scope.isGenerator = false) (hk : scope.kind = .function)
    (hcell : ∀ x ∈ scope.names, x.2 ≠ .cell) : codeAny (model prog w) A (.call (.ref f) args) R s := by
  have X := X₀.keeps F.keep
  obtain ⟨FG, BG, st, _⟩ := groundX (R := R) B F N hA hf hke
  refine codeAny_call_def (fd := fnOf name qual params body scope dV kV doc pm an cdv ct) (body := body) (binds := binds) hroom (X _ _ ho) rfl (T.nolimit.keeps F.keep) (codeRec_of X hcd) rfl hbind hcell hloc (fun h₁ hns hk₁ => ?_) hco hgen hk
  obtain ⟨oL, es, ep, hLg, hLd, hLk, hLf⟩ := FG.ns
  have inL : ∀ b, b ∈ [env].filterMap (·.frame) → b = L := fun b hb => by
    rcases memX hf hb with z | z
    · exact z
    · simp at z
  refine wpAny_mono (h _ s.heap.objs.size h₁ FG ⟨hns, fun b o e => hk₁ b o (of_hideAll _ e), Nat.le_of_eq (hideAll_size _ _)⟩
    (fun p hp => ⟨hk₁ _ _ (N p hp).1, Nat.ne_of_lt (Heap.lt_size (N p hp).1), hideAll_none _ (List.mem_map_of_mem hp)⟩) BG (X₀.keeps st) (T.keeps st) (fun b hb => by
      rw [inL b hb]; exact ⟨oL, es, ep, hLg, hLd⟩)) (fun fl s' hl => ?_) fun _ _ y => y
  obtain ⟨g', L', m', news', T', F', N', k⟩ := hl
  have nL₀ : h₀.get? L = none := kts_self F
  obtain ⟨sl, hs⟩ := T'.up hLg
  refine k ⟨⟨_, es, ep, F'.keep _ _ hs, hLd, hLk, hLf⟩, fun b o e => F'.keep b o (T'.other b o (st b o e) (fun q => by
    rw [inL b q, nL₀] at e; cases e)), F.above⟩ fun p hp => ⟨(N' p hp).1, fun q => ?_, ?_⟩
  · have := (N' p hp).2.2; rw [q, hs] at this; cases this
  · cases q : h₀.get? p.1 with
    | none => rfl
    | some o =>
      obtain ⟨sl', hs'⟩ := T'.up (st _ _ q)
      have := (N' p hp).2.2
      rw [hs'] at this; cases this
end
/-- the law's told, from the law's own frame -/
def CT (w : World) (mean : ExcName → Option Value) (mg mb : Str → Option Value) (f : Addr) (news : List (Addr × Obj)) (Out : List (Addr × Obj) → Value → Prop) (Z : Prop) : Prop :=
  ∀ (dp un : Nat) (gd : Option (List Code)) (cn : Str) (cs : Scope) (a : Addr) (ccd : Value) (cl : List (Str × Addr)) (A₀ : Around) (h₀ : Heap) (L : Addr) (m : Str → Option Value) (s : Shared) (Q E : Value → Shared → Prop),
    Below A₀ h₀ [] h₀ → Fr h₀ L s.heap m → (hd.heap_39 w.params).In h₀ → News h₀ L s.heap news → Top topProg LZ mean mg mb h₀ → cs.kind = .function → dp + 40 < recursionLimit → un + 400 < cLine →
    (∀ D r n' n t1 h' tk', Fr h₀ L h' m → News h₀ L h' ((D, listOf #[.str (Str.ofString "told") t1, r] n) :: n') → (∀ p ∈ news, p ∈ n') → Out n' r → Q (.ref D) { s with heap := h', toks := tk' }) →
    (∀ D n t1 h' tk', Z → Fr h₀ L h' m → News h₀ L h' ((D, listOf #[.str (Str.ofString "by zero") t1] n) :: news) → Q (.ref D) { s with heap := h', toks := tk' }) →
    wpAny (model PySem.Challenge.rw_nt0253_01.row.prog w) (ktrTop dp un gd cn cs L a ccd cl []) (call (.ref 280) [.ref f]) Q E s
theorem CT.use {w : World} {mean : ExcName → Option Value} {mg mb : Str → Option Value} {f : Addr} {news : List (Addr × Obj)} {Out : List (Addr × Obj) → Value → Prop} {Z : Prop}
    {dp un : Nat} {gd : Option (List Code)} {cn : Str} {cs : Scope} {a : Addr} {ccd : Value} {cl : List (Str × Addr)} {A₀ : Around} {h₀ : Heap} {L : Addr} {m : Str → Option Value} {s : Shared} {Q E : Value → Shared → Prop}
    (C : CT w mean mg mb f news Out Z) (B : Below A₀ h₀ [] h₀) (F : Fr h₀ L s.heap m) (X : (hd.heap_39 w.params).In h₀) (N : News h₀ L s.heap news) (T : Top topProg LZ mean mg mb h₀) (hk : cs.kind = .function) (hd9 : dp + 40 < recursionLimit) (hu9 : un + 400 < cLine)
    (ret : ∀ D r n' n t1 h' tk', Fr h₀ L h' m → News h₀ L h' ((D, listOf #[.str (Str.ofString "told") t1, r] n) :: n') → (∀ p ∈ news, p ∈ n') → Out n' r → Q (.ref D) { s with heap := h', toks := tk' })
    (zero : ∀ D n t1 h' tk', Z → Fr h₀ L h' m → News h₀ L h' ((D, listOf #[.str (Str.ofString "by zero") t1] n) :: news) → Q (.ref D) { s with heap := h', toks := tk' }) :
    wpAny (model PySem.Challenge.rw_nt0253_01.row.prog w) (ktrTop dp un gd cn cs L a ccd cl []) (call (.ref 280) [.ref f]) Q E s :=
  C _ _ _ _ _ _ _ _ _ _ _ _ _ _ _ B F X N T hk hd9 hu9 ret zero
end Mine
end
section
open PySem PySem.W PySem.Spec PySem.Calls PyProof.Rows
namespace Mine
set_option maxRecDepth 100000
set_option maxHeartbeats 8000000
/-- an address has one object in a ledger -/
def Uniq (n : Led) : Prop := ∀ {a o o'}, (a, o) ∈ n → (a, o') ∈ n → o = o'
/-- no part of a number -/
structure NotNum (o : Obj) : Prop where
  i : ∀ d, instObj 31 d ≠ o
  d : ∀ es k, dictOf es k ≠ o
theorem notNum_list {vs : Array Value} {m : Nat} : NotNum (listOf vs m) := ⟨fun _ h => (nomatch congrArg Obj.data h), fun _ _ h => (nomatch congrArg Obj.data h)⟩
theorem notNum_tab {vs : Array Value} : NotNum (tabObj vs) := ⟨fun _ h => (nomatch congrArg Obj.data h), fun _ _ h => (nomatch congrArg Obj.data h)⟩
theorem notNum_cell {o : Obj} {v : Option Value} (h : o.data = .cell v) : NotNum o := ⟨fun _ e => (nomatch (congrArg Obj.data e).trans h), fun _ _ e => (nomatch (congrArg Obj.data e).trans h)⟩
theorem NumIn.turn {n n' : Led} {v : Value} {t b : Int} {c : Addr} {o o' : Obj} (hv : NumIn n v t b) (U : Uniq n) (hm : (c, o) ∈ n) (hp : NotNum o) (hT : Turned c o' n n') : NumIn n' v t b := by
  cases hv with
  | int => exact .int
  | ratio ha hd =>
    refine .ratio (hT.2 _ ha fun e => ?_) (hT.2 _ hd fun e => ?_)
    · cases (e : _ = c)
      exact hp.i _ (U ha hm)
    · cases (e : _ = c)
      exact hp.d _ _ (U hd hm)
theorem NumIn.turn2 {n n' n2 : Led} {v : Value} {t b : Int} {c c2 : Addr} {o o' o2 o2' : Obj} {x : Addr × Obj} (hv : NumIn n v t b) (U : Uniq n) (m1 : (c, o) ∈ n) (p1 : NotNum o) (m2 : (c2, o2) ∈ n) (p2 : NotNum o2) (hT : Turned c o' (x :: n) n') (hT2 : Turned c2 o2' n' n2) : NumIn n2 v t b := by
  have k : ∀ {p : Addr × Obj}, p ∈ n → p.2 ≠ o → p.2 ≠ o2 → p ∈ n2 := fun {p} hp h1 h2 => hT2.2 p (hT.2 p (.tail _ hp) fun e => h1 (by cases p; cases (e : _ = c); exact U hp m1)) fun e => h2 (by cases p; cases (e : _ = c2); exact U hp m2)
  cases hv with
  | int => exact .int
  | ratio ha hd => exact .ratio (k ha (p1.i _) (p2.i _)) (k hd (p1.d _ _) (p2.d _ _))
section
variable {S : SF} {ρ : Loc} {n : Led} {x y fn : Str} {u v f : Value} {e : Expr} {pos p1 p2 p3 p4 p5 p6 : Pos} {i j : Int} {O : Led → Value → Prop} {R : Loc → Led → Flow → Prop} {rest : List Stmt} {KT KF : Led → Prop} {a b : Tok} {c c2 D D' : Addr} {o : Obj} {k m m' : Nat} {vs : List Value} {s : Str}
theorem Ev.uniq {α : Type} {g : Env → Sem α} {O : Led → α → Prop} (h : Uniq n → Ev S ρ n g O) : Ev S ρ n g O := fun z _ _ _ G F N q => h (fun h1 h2 => Option.some.inj ((N.get h1).symm.trans (N.get h2))) z _ _ _ G F N q
theorem St.uniq {b : List Stmt} (h : Uniq n → St S ρ n b R) : St S ρ n b R := fun z _ _ _ G F N q => h (fun h1 h2 => Option.some.inj ((N.get h1).symm.trans (N.get h2))) z _ _ _ G F N q
theorem ev_cell (hl : S.cl.lookup x = some c) (hx : S.C.cs.names.lookup x = some .cell) (hd : (x == ("__debug__" : Str)) = false) (hm : (c, o) ∈ n) (ho : o.data = .cell (some v)) (h : O n v) : EvR S ρ n (.Name x pos) O :=
  fun _ _ _ _ G F N q => nameX_C N hl hm ho (q _ _ _ _ h F N) G.k hx hd
theorem ev_str (h : ∀ t, O n (.str s t)) : EvR S ρ n (.Constant (.str s) k pos) O := fun _ _ _ _ _ F N q => wpAny_Constant_str (q _ _ _ _ (h _) F N)
theorem ev_bool {c : Bool} (h : O n (.bool c)) : EvR S ρ n (.Constant (.bool c) k pos) O := fun _ _ _ _ _ F N q => Constant_bool (q _ _ _ _ h F N)
theorem ev_list1 (he : ∀ env, starEach [e] env = [(false, eval e env)]) (h : EvR S ρ n e fun n1 v => ∀ l, O ((l, listOf #[v] 0) :: n1) (.ref l)) : EvR S ρ n (.List [e] pos) O :=
  fun z _ _ _ G F N q => List_ (args_cons (h z _ _ _ G F N fun _ _ _ _ o F N => args_nil (newList_K F N (fun _ _ F N _ => q _ _ _ _ (o _) F N) (Nat.le_of_ble_eq_true rfl))) (he _))
theorem ev_item (hv : ρ x = some (.ref D)) (hx : S.C.cs.names.lookup x = some .local) (hd : (x == ("__debug__" : Str)) = false) (hm : (D, listOf vs.toArray m) ∈ n) (h0 : 0 ≤ i) (h1 : i < 2 ^ 63) (hi : vs[i.toNat]? = some v) (h : O n v) : EvR S ρ n (.Subscript (.Name x p1) (.Constant (.int i) k p2) pos) O := fun _ _ _ _ G F N q =>
  Subscript_ (nameX_L F hv (wpAny_Constant_int (item_litK (News.isList N hm) h0 h1 hi (q _ _ _ _ h F N) (by with_unfolding_all rfl))) G.k hx hd)
theorem ne_strs (h : KF n) : CmpJ S ρ n .NotEq (.str s a) (.str s b) KT KF := fun _ _ _ _ _ F N q => ne_str (q _ _ _ _ (boolK (fun e => absurd e (by simp)) fun _ => h) F N)
theorem ne_list1 (hsh : SeqAt.shaped (.list [.str s]) = true) (hU : 64 ≤ S.C.U) (m1 : (D, listOf #[.str s a] m) ∈ n) (m2 : (D', listOf #[.str s b] m') ∈ n) (h : KF n) : CmpJ S ρ n .NotEq (.ref D) (.ref D') KT KF := fun z _ _ _ G F N q =>
  ne_dataH (reads_list_at (N.get m1) rfl rfl (.cons (.str _ _) .nil)) (reads_list_at (N.get m2) rfl rfl (.cons (.str _ _) .nil)) hsh hsh (units_z G hU) (q _ _ _ _ (boolK (fun e => absurd e (by simp [PyData.eqv, PyData.eqvAll])) fun _ => h) F N)
/-- two cells of the ledger, and what holds when they hold v and u -/
inductive CellsK (c c2 : Addr) (v u : Value) (n : Led) (P : Led → Prop) : Prop where
  | mk {o1 o2 : Obj} {d1 d2 : Option Value} (m1 : (c, o1) ∈ n) (h1 : o1.data = .cell d1) (m2 : (c2, o2) ∈ n) (h2 : o2.data = .cell d2) (k : ∀ n2 n3 o1' o2', Turned c o1' n n2 → o1'.data = .cell (some v) → Turned c2 o2' n2 n3 → o2'.data = .cell (some u) → P n3) : CellsK c c2 v u n P
/-- two cells of the frame take the two of a pair -/
theorem st_cells {kk : Nat} (h : EvR S ρ n e fun n' r => Pair n' (fun v u => CellsK c c2 v u n' fun n3 => St S ρ n3 rest R) r)
    (hne : c2 ≠ c) (hl : S.cl.lookup x = some c) (hl2 : S.cl.lookup y = some c2) (hx : S.C.cs.names.lookup x = some .cell) (hy : S.C.cs.names.lookup y = some .cell)
    (hs : ∀ env, swapsWithSole [.Tuple [.Name x p5, .Name y p6] kk p4] e pos.line env = pure false) (hw : ∀ z : FX, swappedStores [.Tuple [.Name x p5, .Name y p6] kk p4] e (z.env S) = pure none) : St S ρ n (.Assign [.Tuple [.Name x p5, .Name y p6] kk p4] e pos :: rest) R :=
  fun z _ _ _ G F N q => wpAny_execs_cons (Assign_Tuple (h z _ _ _ G F N fun _ _ _ _ o F N => o.casesOn fun hm o => unpackN_ F N (N.isTup hm) rfl rfl rfl fun _ F N => o.casesOn fun m1 d1 m2 d2 o =>
    wpAny_assignInOrder_more (PyProof.Rows.assign_Name (storeX_C F (fun p hp => N p (off_sub m1 p hp)) hl (UpdF.head off_ne) d1 (fun _ _ F N d3 => wpAny_assignInOrder_more (PyProof.Rows.assign_Name (storeX_C F (fun p hp => N p (off_sub (.tail _ (off_mem m2 hne)) p hp)) hl2 (UpdF.head off_ne) d2 (fun _ _ F N d4 => assignInOrder_nil (o _ _ _ _ turned d3 turned d4 z _ _ _ G F N q)) G.k hy))) G.k hx))) (hs _) (hw z))
theorem cr_told {f : Addr} {Out : Led → Value → Prop} {Z : Prop} (C : CT S.E.w S.E.mean S.E.mg S.E.mb f n Out Z) (ht : S.C.top = true) (hD : 40 ≤ S.C.D) (hU : 400 ≤ S.C.U) (k1 : ∀ D r n' m t1, (∀ p ∈ n, p ∈ n') → Out n' r → O ((D, listOf #[.str (Str.ofString "told") t1, r] m) :: n') (.ref D))
    (k2 : ∀ D m t1, Z → O ((D, listOf #[.str (Str.ofString "by zero") t1] m) :: n) (.ref D)) : CR S ρ n (.ref 280) [.ref f] O := by
  rintro ⟨dp, un, gd, a, ccd, outer, A₀, base, h₀, L, gs, dr, os⟩ h tk Q G F N q
  have g := G.t ht
  dsimp only at g
  obtain ⟨rfl, rfl, _⟩ := g
  exact CT.use C G.B F G.X N G.T G.k (Nat.lt_of_le_of_lt (Nat.add_le_add_left hD _) G.d) (Nat.lt_of_le_of_lt (Nat.add_le_add_left hU _) G.u) (fun _ _ _ _ _ _ _ F N hs o => q _ _ _ _ (k1 _ _ _ _ _ hs o) F N) (fun _ _ _ _ _ z F N => q _ _ _ _ (k2 _ _ _ z) F N)
end
end Mine
end
section
open PySem PySem.W PySem.Spec PySem.Calls PyProof.Rows
namespace Mine
set_option maxRecDepth 100000
set_option maxHeartbeats 8000000
section
local macro_rules | `(tactic| k_all) => `(tactic| first | exact allNe0 (by first | assumption | exact allLt_of (by assumption)) | exact allNe (by first | assumption | exact allLt_of (by assumption)) (by assumption))
theorem gl_dz {E : BE} : GL E "DivisionByZero" (.ref 163) := ⟨rfl, rfl⟩
theorem pwz_ok {w : World} {mean : ExcName → Option Value} {mg mb : Str → Option Value} {news : List (Addr × Obj)} {v who : Value} {b e : Int} {te : Tok} (hv : NumIn news v 0 b) (he : e < 0) : CX w mean mg mb (.ref 240) [v, .int e te, who] 24 240 news (fun _ _ => False) True := by
  unfold CX
  w_top off
  k_fill
  intro dp un gd cn cs a ccd cl outer A₀ base h₀ L m s Q E B F X N T hk hd9 hu9 hret hexc
  k_with_none
  k_with "call ref" => (k_dflt (refine' dz_callK ?k1 ?k2 ?k3 ?k4 ?_; (case k1 => k_asm); (case k2 => k_asm); (case k3 => k_asm); (case k4 => size_fits)); intro x9 t9 h9 F9 N9 l9 l8; (try k_lt l9); (try k_lt2 l8); (try dsimp only); (try k_sweep); (try k_fold))
  k_with "setAttr ref" => first
    | (k_dflt (refine' dz_set0 ?k1 ?k2 ?k3 ?k4 ?k5 ?_; (case k1 => k_asm); (case k2 => k_asm); (case k3 => k_asm); (case k4 => exact rfl); (case k5 => (intro dx; k_upd)); intro dx h' F' N' l1; (try k_lt l1); (try k_sweep)))
    | (k_dflt (refine' dz_set ?k1 ?k2 ?k3 ?k4 ?k5 ?k6 ?k7 ?k8 ?k9 ?k10 ?_; (case k1 => k_asm); (case k2 => k_asm); (case k3 => k_asm); (case k4 => k_mem); (case k5 => k_mem); (case k6 => exact rfl); (case k7 => exact rfl); (case k8 => exact rfl); (case k9 => k_upd); (case k10 => exact Nat.le_of_ble_eq_true rfl); intro h' F' N'; (try k_sweep)))
  k_with "DzPost" => (k_dflt (refine' dz_post ?k1 ?k2 ?k3 ?k4 ?_; (case k1 => k_asm); (case k2 => k_asm); (case k3 => k_asm); (case k4 => k_mem)))
  refine wpAny_call (code_def (binds := [(Str.ofString "base", v), (Str.ofString "exponent", .int e te), (Str.ofString "who", who)]) B F X N T rfl rfl hk rfl rfl (Nat.lt_of_le_of_lt (Nat.le_add_right _ _) hd9) (BindsTo.of_eq rfl) (locs rfl) (fun g L' h₁ FG F' N' B' X' T' => ?_) rfl rfl rfl (by decide))
  refine wpAny_execs_cons (wpAny_If (Ts.use (S := ⟨⟨w, mean, mg, mb⟩, ⟨Str.ofString "power_of_exact", _, 20, 200, false⟩, []⟩) (ρ := _) (n := news) (KT := fun n' => n' = news) (KF := fun _ => False) ?ts (z := ⟨dp + 1, un + 3, _, _, _, _, _, _, _, _, s.gens, s.drawn, s.os⟩) ⟨B', X', T', rfl, ?d1, ?d2, fun h => nomatch h⟩ F' N' fun n' c h' tk' o F N => ?o))
  case d1 => show dp + 1 + 20 < _; omega
  case d2 => show un + 3 + 200 < _; omega
  case ts => exact ts_and (ts_cmp (ev_call1 gl_sgn rfl rfl (fun _ => rfl) (ev_name rfl rfl rfl (c_sgn (Nat.le_of_ble_eq_true rfl) (Nat.le_of_ble_eq_true rfl) hv fun _ _ hs => ev_int fun _ => cmp_eq (fun _ => ts_cmp (ev_name rfl rfl rfl (ev_int fun _ => cmp_lt (fun _ => rfl) fun h => absurd he h)) rfl) fun h => absurd (hs.2 rfl) h))) rfl)
  cases c with
  | false => exact False.elim o
  | true =>
  replace o : n' = news := o
  subst o
  rw [if_pos rfl]
  refine wpAny_execs_cons (dz_raise rfl ?_)
  k_steps
  refine' dz_leave (old := n') ?K ?F ?N ?hx ?ho rfl rfl ?_
  case K => assumption
  case F => k_asm
  case N => k_asm
  case hx => k_mem
  case ho => exact fun q hq => ⟨.tail _ (.tail _ (.tail _ (.tail _ hq))), allNe (allLt_of (by assumption)) (by assumption) q hq⟩
  intro h' R U
  exact hexc _ _ _ _ trivial (by assumption) R U
theorem pwboth_ok {w : World} {mean : ExcName → Option Value} {mg mb : Str → Option Value} {news : List (Addr × Obj)} {v who : Value} {t b e : Int} {te : Tok} (hv : NumIn news v t b) (ht : t.natAbs ≤ 9) (hb : b.natAbs ≤ 9) (he : e.natAbs ≤ 9) : CX w mean mg mb (.ref 240) [v, .int e te, who] 24 240 news (fun n' r => NumIn n' r (pT t b e) (pB t b e) ∧ ¬ (t = 0 ∧ e < 0)) (t = 0 ∧ e < 0) := by
  by_cases hz : t = 0 ∧ e < 0
  · obtain ⟨rfl, hn⟩ := hz
    exact fun _ _ _ _ _ _ _ _ _ _ _ _ _ _ _ _ _ B F X N T k d u _ x => pwz_ok hv hn _ _ _ _ _ _ _ _ _ _ _ _ _ _ _ _ _ B F X N T k d u (fun _ _ _ _ _ _ _ f => f.elim) fun _ _ _ _ _ => x _ _ _ _ ⟨rfl, hn⟩
  · exact fun _ _ _ _ _ _ _ _ _ _ _ _ _ _ _ _ _ B F X N T k d u q _ => CR.use (c_pwe (Nat.le_refl 24) (Nat.le_refl 240) hv ht hb he (fun hn h0 => hz ⟨h0, hn⟩) fun n' r hs h => And.intro hs (And.intro h hz)) B F X N T k d u fun _ _ _ _ o F N => q _ _ _ _ F N o.1 o.2
end
end Mine
end
section
open PySem PySem.W PySem.Spec PySem.Calls PyProof.Rows
namespace Mine
set_option maxRecDepth 100000
set_option maxHeartbeats 8000000
section
theorem told_ok {oc : Value} {od : Option Addr} {fd : FuncData} {sl : Array (Option Value)} {w : World} {mean : ExcName → Option Value} {mg mb : Str → Option Value} {news : List (Addr × Obj)} {f : Addr} {Out : List (Addr × Obj) → Value → Prop} {Z : Prop} (hfm : (f, (⟨oc, od, .func fd, sl⟩ : Obj)) ∈ news) (hc : CX w mean mg mb (.ref f) [] 30 300 news Out Z) : CT w mean mg mb f news Out Z := by
  unfold CT
  w_top off
  k_fill
  intro dp un gd cn cs a ccd cl A₀ h₀ L m s Q E B F X N T hk hd9 hu9 hret hzero
  k_with_none
  k_with "call ref" => (k_dflt (refine' CX.use hc ?k1 ?k2 ?k3 ?k4 ?k5 ?kK ?kd ?ku ?_ ?_; (case k1 => k_asm); (case k2 => k_asm); (case k3 => k_asm); (case k4 => k_asm); (case k5 => k_asm); (case kK => first | exact rfl | assumption); (case kd => ktr_room); (case ku => ktr_units)); (all_goals (intro r9 n9 h9 tk9 F9 N9 hl9 ho9; (try dsimp only); (try k_sweep); (try k_fold))))
  k_with "callWith ref" => (k_dflt (refine' callWith_F0 ?k1 ?_; (case k1 => exact FnAt.of (by k_asm) (by assumption)); k_whole; try dsimp only [List.nil_append, List.cons_append]))
  refine wpAny_call ?_
  k_dflt (refine' enter_S0 ?k1 ?k2 ?k3 ?k4 ?k5 ?kA ?kf ?ke ?k6 ?k7 ?k8 ?k9 ?kB ?_ ?c2 ?c3 ?c4 ?c5; (case kA => exact rfl); (case kf => exact rfl); (case ke => assumption); (case k2 => k_asm); (case k1 => k_asm); (case k3 => k_asm); (case k4 => k_asm); (case k5 => k_asm); (case k6 => k_is); (case k7 => k_is); (case k8 => k_room); (case k9 => first | exact binds_K (by k_in) rfl (by k_is) rfl rfl rfl | exact BindsTo.of_eq rfl); (case kB => exact locs rfl); (case c2 => exact rfl); (case c3 => exact rfl); (case c4 => exact rfl); (case c5 => decide); k_whole; intro g' L' h' FG' F' N' B' X' T' D'; (try dsimp only); (try k_fold))
  k_steps
  · exact hret _ _ _ _ _ _ _ (by k_asm) (by k_asm) (by assumption) (by assumption)
  · exact hzero _ _ _ _ _ (by assumption) (by k_asm) (by k_asm)
end
end Mine
end
section
open PySem PySem.W PySem.Spec PySem.Calls PyProof.Rows
namespace Mine
set_option maxRecDepth 100000
set_option maxHeartbeats 8000000
def Stop (P : Prop) : Prop := P
theorem stop_in {P : Prop} (h : Stop P) : P := h
/-- the table of the law's code: with the lambda's code laid aside, or without -/
def TabIn (T : Array Value) (led : List (Addr × Obj)) : Prop :=
  (T = #[] ∧ led = []) ∨ ∃ c' oc vs t, T = #[rawInt 162, rawInt 25, .ref c'] ∧ led = [(c', oc)] ∧ oc.data = .fields vs ∧ vs[1]? = some (.str (Str.ofString "law.<locals>.<lambda>") t)
def Away (led : Led) (a : Addr) : Prop := ∀ p ∈ led, p.1 ≠ a
/-- what holds between the law's turns -/
inductive LawJ (D cY cX : Addr) (ρ : Loc) : Led → Prop where
  | mk {us : List Value} {es : List Int} {m : Nat} {oy ox : Obj} {cy cx : Option Value} {T : Array Value} {led : Led} (hm : ρ (Str.ofString "deck") = some (.ref D)) (hoy : oy.data = .cell cy) (hox : ox.data = .cell cx) (hi : IntsAre us es) (ok : DeckOk es) (ht : TabIn T led) (e1 : Away led D) (e2 : Away led cY) (e3 : Away led cX) (e4 : Away led 303) :
    LawJ D cY cX ρ ((D, listOf us.toArray m) :: (cY, oy) :: (cX, ox) :: (303, tabObj T) :: led)
theorem deck_start {ns : List Int} : DeckOk (List.map (fun k' => (if k' < 0 then -k' else k').fmod (10 ^ Int.toNat 30)) (List.take 12 ns)) := by
  refine ⟨fun x hx => ?_, ?_⟩
  · obtain ⟨k, _, rfl⟩ := List.mem_map.mp hx
    exact Int.fmod_nonneg_of_pos _ (Int.pow_pos (by decide))
  · rw [List.length_map, List.length_take]; exact Nat.min_le_left _ _
theorem lawJ_start {D cY cX : Addr} {m : Loc} {oy ox : Obj} {cy cx : Option Value} {ys : List Value} {ns : List Int} {n₀ : Nat} (hm : m (Str.ofString "deck") = some (.ref D)) (hoy : oy.data = .cell cy) (hox : ox.data = .cell cx)
    (hi : IntsAre ys (List.map (fun k' => (if k' < 0 then -k' else k').fmod (10 ^ Int.toNat 30)) (List.take 12 ns))) : LawJ D cY cX m [(D, listOf ys.toArray n₀), (cY, oy), (cX, ox), (303, tabObj #[])] :=
  ⟨hm, hoy, hox, hi, deck_start, .inl ⟨rfl, rfl⟩, (fun _ h => nomatch h), (fun _ h => nomatch h), (fun _ h => nomatch h), (fun _ h => nomatch h)⟩
/-- the deck, the two cells, the table: four places -/
structure LD (D cY cX : Addr) : Prop where
  dY : cY ≠ D
  dX : cX ≠ D
  dT : 303 ≠ D
  yx : cY ≠ cX
  yT : 303 ≠ cY
  xT : 303 ≠ cX
theorem law_dist {h₀ h : Heap} {L D cY cX : Addr} {vs : Array Value} {k : Nat} {oy ox : Obj} {cy cx : Option Value} {T : Array Value} {r : Led} (N : News h₀ L h ((D, listOf vs k) :: (cY, oy) :: (cX, ox) :: (303, tabObj T) :: r)) (hoy : oy.data = .cell cy) (hox : ox.data = .cell cx) (yx : cY ≠ cX) : LD D cY cX := by
  have ne : ∀ {a b : Addr} {o o' : Obj}, (a, o) ∈ _ → (b, o') ∈ _ → o.data ≠ o'.data → a ≠ b := fun h1 h2 hd e => hd (congrArg Obj.data (Option.some.inj ((N.get h1).symm.trans (e ▸ N.get h2))))
  have mD := List.Mem.head (a := (D, listOf vs k)) ((cY, oy) :: (cX, ox) :: (303, tabObj T) :: r)
  refine ⟨ne (.tail _ (.head _)) mD ?_, ne (.tail _ (.tail _ (.head _))) mD ?_, ne (.tail _ (.tail _ (.tail _ (.head _)))) mD (fun e => nomatch e), yx, ne (.tail _ (.tail _ (.tail _ (.head _)))) (.tail _ (.head _)) ?_, ne (.tail _ (.tail _ (.tail _ (.head _)))) (.tail _ (.tail _ (.head _))) ?_⟩
  · rw [hoy]; exact fun e => nomatch e
  · rw [hox]; exact fun e => nomatch e
  · rw [hoy]; exact fun e => nomatch e
  · rw [hox]; exact fun e => nomatch e
structure LK (own : Led) (D cY cX : Addr) (led : Led) : Prop where
  dI : Away own D
  yI : Away own cY
  xI : Away own cX
  tI : Away own 303
  lI : TbOff own led
  lD : Away led D
  lY : Away led cY
  lX : Away led cX
  lT : Away led 303
structure LS (n own : Led) (D : Addr) (us : List Value) (m : Nat) (cY : Addr) (oy : Obj) (cX : Addr) (ox : Obj) (T : Array Value) (led : Led) : Prop where
  i : ∀ p ∈ own, p ∈ n
  d : (D, listOf us.toArray m) ∈ n
  y : (cY, oy) ∈ n
  x : (cX, ox) ∈ n
  t : (303, tabObj T) ∈ n
  l : ∀ p ∈ led, p ∈ n
inductive LawI (own : Led) (D cY cX : Addr) (ρ : Loc) (n : Led) : Prop where
  | mk {us : List Value} {es : List Int} {m : Nat} {oy ox : Obj} {cy cx : Option Value} {T : Array Value} {led : Led} (hm : ρ (Str.ofString "deck") = some (.ref D)) (hS : LS n own D us m cY oy cX ox T led) (hK : LK own D cY cX led) (hoy : oy.data = .cell cy) (hox : ox.data = .cell cx) (hi : IntsAre us es) (ok : DeckOk es) (ht : TabIn T led) : LawI own D cY cX ρ n
section
variable {n n' n2 led led' own : Led} {D cY cX : Addr} {o oy ox oy' ox' : Obj} {us us' : List Value} {m m' : Nat} {T T' : Array Value}
theorem LS.more (h : LS n own D us m cY oy cX ox T led) (hs : ∀ p ∈ n, p ∈ n') : LS n' own D us m cY oy cX ox T led := ⟨fun p hp => hs p (h.i p hp), hs _ h.d, hs _ h.y, hs _ h.x, hs _ h.t, fun p hp => hs p (h.l p hp)⟩
theorem LS.draw (h : LS n own D us m cY oy cX ox T led) (L : LD D cY cX) (K : LK own D cY cX led) (hT : Turned D (listOf us'.toArray m') n n') : LS n' own D us' m' cY oy cX ox T led :=
  ⟨fun p hp => hT.2 p (h.i p hp) (K.dI p hp), hT.1, hT.2 _ h.y L.dY, hT.2 _ h.x L.dX, hT.2 _ h.t L.dT, fun p hp => hT.2 p (h.l p hp) (K.lD p hp)⟩
theorem LS.cells (h : LS n own D us m cY oy cX ox T led) (L : LD D cY cX) (K : LK own D cY cX led) (h1 : Turned cX ox' n n') (h2 : Turned cY oy' n' n2) : LS n2 own D us m cY oy' cX ox' T led :=
  ⟨fun p hp => h2.2 p (h1.2 p (h.i p hp) (K.xI p hp)) (K.yI p hp), h2.2 _ (h1.2 _ h.d L.dX.symm) L.dY.symm, h2.1, h2.2 _ h1.1 L.yx.symm, h2.2 _ (h1.2 _ h.t L.xT) L.yT, fun p hp => h2.2 p (h1.2 p (h.l p hp) (K.lX p hp)) (K.lY p hp)⟩
theorem LS.lam (h : LS n own D us m cY oy cX ox T led) (L : LD D cY cX) (K : LK own D cY cX led) (h1 : ∀ p ∈ (303, tabObj T') :: off 303 n, p ∈ n') (h2 : ∀ p ∈ led', p ∈ n') : LS n' own D us m cY oy cX ox T' led' :=
  ⟨fun p hp => h1 p (.tail _ (off_mem (h.i p hp) (K.tI p hp))), h1 _ (.tail _ (off_mem h.d L.dT.symm)), h1 _ (.tail _ (off_mem h.y L.yT.symm)), h1 _ (.tail _ (off_mem h.x L.xT.symm)), h1 _ (.head _), h2⟩
theorem LK.lam (K : LK own D cY cX led) (L : LD D cY cX) (h : LS n own D us m cY oy cX ox T led) (hne : ∀ x, (∀ p ∈ led, p.1 ≠ x) → (∃ o, (x, o) ∈ (303, tabObj T) :: off 303 n) → ∀ p ∈ led', p.1 ≠ x) : LK own D cY cX led' :=
  ⟨K.dI, K.yI, K.xI, K.tI, fun q hq p hp e => hne q.1 (fun r hr e => K.lI q hq r hr e.symm) ⟨q.2, .tail _ (off_mem (h.i q hq) (K.tI q hq))⟩ p hp e.symm, hne _ K.lD ⟨_, .tail _ (off_mem h.d L.dT.symm)⟩, hne _ K.lY ⟨_, .tail _ (off_mem h.y L.yT.symm)⟩, hne _ K.lX ⟨_, .tail _ (off_mem h.x L.xT.symm)⟩, hne _ K.lT ⟨_, .head _⟩⟩
theorem law_in {ρ : Loc} (hJ : LawJ D cY cX ρ n) (hI : TbOff own n) : LawI own D cY cX ρ (n ++ own) := by
  cases hJ with
  | mk hm hoy hox hi ok ht e1 e2 e3 e4 =>
    exact ⟨hm, ⟨fun p hp => List.mem_append_right _ hp, .head _, .tail _ (.head _), .tail _ (.tail _ (.head _)), .tail _ (.tail _ (.tail _ (.head _))), fun p hp => .tail _ (.tail _ (.tail _ (.tail _ (List.mem_append_left _ hp))))⟩,
      ⟨fun p hp => hI p hp _ (.head _), fun p hp => hI p hp _ (.tail _ (.head _)), fun p hp => hI p hp _ (.tail _ (.tail _ (.head _))), fun p hp => hI p hp _ (.tail _ (.tail _ (.tail _ (.head _)))), fun p hp q hq => hI p hp q (.tail _ (.tail _ (.tail _ (.tail _ hq)))), e1, e2, e3, e4⟩, hoy, hox, hi, ok, ht⟩
theorem law_end {R : Loc → Led → Flow → Prop} {i : Nat} {ρ : Loc} {es : List Int} {cy cx : Option Value} (h : LS n own D us m cY oy cX ox T led) (K : LK own D cY cX led) (hm : ρ (Str.ofString "deck") = some (.ref D)) (hoy : oy.data = .cell cy) (hox : ox.data = .cell cx) (hi : IntsAre us es) (ok : DeckOk es) (ht : TabIn T led) :
    ForR (fun _ => LawJ D cY cX) i own R ρ n .next :=
  ⟨_, ⟨hm, hoy, hox, hi, ok, ht, K.lD, K.lY, K.lX, K.lT⟩, List.forall_mem_cons.mpr ⟨h.d, List.forall_mem_cons.mpr ⟨h.y, List.forall_mem_cons.mpr ⟨h.x, List.forall_mem_cons.mpr ⟨h.t, h.l⟩⟩⟩⟩, h.i,
    fun p hp => List.forall_mem_cons.mpr ⟨K.dI p hp, List.forall_mem_cons.mpr ⟨K.yI p hp, List.forall_mem_cons.mpr ⟨K.xI p hp, List.forall_mem_cons.mpr ⟨K.tI p hp, K.lI p hp⟩⟩⟩⟩⟩
theorem law_done {ρ : Loc} (hJ : LawJ D cY cX ρ n) : ∃ T, (303, tabObj T) ∈ n := by
  cases hJ
  exact ⟨_, .tail _ (.tail _ (.tail _ (.head _)))⟩
end
end Mine
end
section
open PySem PySem.W PySem.Spec PySem.Calls PyProof.Rows
namespace Mine
set_option maxRecDepth 100000
set_option maxHeartbeats 8000000
section
variable {M : Model} {A : Around} {E : Value → Shared → Prop} {s : Shared} {h₀ : Heap} {L a c : Addr} {m mg mb : Str → Option Value} {cn : Str} {cs : Scope} {ccd : Value} {cl : List (Str × Addr)} {news led : List (Addr × Obj)} {g : Obj → List (Addr × Obj)}
  {p : Program} {loose : List Str} {mean : ExcName → Option Value} {name : Str} {params : Arguments} {body : Expr} {scope : Scope} {Tb : Array Value} {pos : Pos} {firstLine : Nat} {clos : List (Str × Addr)}
theorem lam_tab {Q : Value → Shared → Prop} (F : Fr h₀ L s.heap m) (N : News h₀ L s.heap news) (T : Top p loose mean mg mb h₀) (C : CodeHd h₀ c 303) (hcd : ccd = .ref c) (U : UpdF 303 (tabObj Tb) news g) (htab : TabIn Tb led) (hled : ∀ p ∈ led, p ∈ news)
    (hl : pos.line = 162) (hc : pos.col = 25) (hcl : closureFor scope (envX cn cs L a ccd cl) = pure clos)
    (h : ∀ f c' oc vs t ctv T' led' h' tk, TabIn T' led' → (c', oc) ∈ led' → oc.data = .fields vs → vs[1]? = some (.str (Str.ofString "law.<locals>.<lambda>") t) → (∀ x, (∀ p ∈ led, p.1 ≠ x) → (∃ o, (x, o) ∈ news) → ∀ p ∈ led', p.1 ≠ x) → Fr h₀ L h' m →
      News h₀ L h' ((f, kla_obj name (Str.ofString "law.<locals>.<lambda>") params body scope clos ((mg "__name__").getD .none) c' ctv) :: (g (tabObj T') ++ led')) → (∀ q ∈ news, q.1 < f) → Q (.ref f) { s with heap := h', toks := tk }) :
    wpAny M A (makeFunction name (Str.ofString "law.<locals>.<lambda>") params (.expr body) scope (envX cn cs L a ccd cl) [] [] [] pos firstLine) Q E s := by
  obtain ⟨pre, post, rfl, hg, hn1, hn2⟩ := U.split
  rcases htab with ⟨rfl, rfl⟩ | ⟨c', oc, vs, t, rfl, rfl, d1, d2⟩
  · refine kla_nest F N T C hcd U (by exact True.intro) rfl hcl ?_
    intro f c' oc vs t ctv h' tk F' N' d1 d2 l1 l2
    rw [hl, hc] at N'
    refine h f c' oc vs t ctv _ [(c', oc)] h' tk (.inr ⟨c', oc, vs, t, rfl, rfl, d1, d2⟩) (.head _) d1 d2 ?_ F' ?_ (fun q hq => Nat.lt_trans (l1 q hq) l2)
    · rintro x _ ⟨o, ho⟩ p hp
      rw [List.mem_singleton.mp hp]
      exact Nat.ne_of_gt (l1 _ ho)
    · intro q hq
      rcases List.mem_cons.mp hq with rfl | hq
      · exact N' _ (.head _)
      · rcases List.mem_append.mp hq with hq | hq
        · exact N' _ (.tail _ (.tail _ hq))
        · rw [List.mem_singleton.mp hq]; exact N' _ (.tail _ (.head _))
  · refine kla_hit (c' := c') F N T C hcd (List.mem_append_right _ (.head _)) (by simp [TriplesOk, rawInt]) (by simp [codeAmong, rawInt, hl, hc]) hcl ?_
    intro f ctv h' tk F' N' l1
    refine h f c' oc vs t ctv _ _ h' tk (.inr ⟨c', oc, vs, t, rfl, rfl, d1, d2⟩) (.head _) d1 d2 (fun x hx _ => hx) F' ?_ l1
    intro q hq
    rcases List.mem_cons.mp hq with rfl | hq
    · exact N' _ (.head _)
    · rcases List.mem_append.mp hq with hq | hq
      · rw [hg] at hq; exact N' _ (.tail _ hq)
      · exact N' _ (.tail _ (hled _ hq))
end
end Mine
end
section
open PySem PySem.W PySem.Spec PySem.Calls PyProof.Rows
namespace Mine
set_option maxRecDepth 100000
set_option maxHeartbeats 8000000
/-- the law's lambda, called -/
theorem lam_cx {w : World} {mean : ExcName → Option Value} {mg mb : Str → Option Value} {n : Led} {f c' cX cY : Addr} {oc oX oY : Obj} {vs : Array Value} {tq te : Tok} {name qual s : Str} {params : Arguments} {scope : Scope} {p1 p2 p3 p4 p5 : Pos} {kk : Nat} {clos : List (Str × Addr)} {pm ctv v : Value} {t b e : Int}
    (hf : (f, kla_obj name qual params (.Call (.Name (Str.ofString "power_of_exact") p1) [.Name (Str.ofString "base") p2, .Name (Str.ofString "exponent") p3, .Constant (.str s) kk p4] [] p5) scope clos pm c' ctv) ∈ n)
    (hcr : (c', oc) ∈ n) (h1 : oc.data = .fields vs) (h2 : vs[1]? = some (.str qual tq)) (hbd : bindArgs (kla_fn name qual params (.Call (.Name (Str.ofString "power_of_exact") p1) [.Name (Str.ofString "base") p2, .Name (Str.ofString "exponent") p3, .Constant (.str s) kk p4] [] p5) scope clos pm (.ref c') ctv) ⟨[], []⟩ = pure [])
    (hco : scope.isCoroutine = false) (hgen : scope.isGenerator = false) (hks : scope.kind = .function) (hcell : ∀ x ∈ scope.names, x.2 ≠ .cell) (hn1 : scope.names.lookup (Str.ofString "base") = some .free) (hn2 : scope.names.lookup (Str.ofString "exponent") = some .free) (hn3 : scope.names.lookup (Str.ofString "power_of_exact") = some .globalImplicit)
    (hc1 : clos.lookup (Str.ofString "base") = some cX) (hc2 : clos.lookup (Str.ofString "exponent") = some cY) (mX : (cX, oX) ∈ n) (dX : oX.data = .cell (some v)) (mY : (cY, oY) ∈ n) (dY : oY.data = .cell (some (.int e te))) (hv : NumIn n v t b) (ht : t.natAbs ≤ 9) (hb : b.natAbs ≤ 9) (he : e.natAbs ≤ 9) :
    CX w mean mg mb (.ref f) [] 30 300 n (fun n' r => NumIn n' r (pT t b e) (pB t b e) ∧ ¬ (t = 0 ∧ e < 0)) (t = 0 ∧ e < 0) := by
  intro dp un gd cn cs a ccd cl outer A₀ base h₀ L m s Q E B F X N T hk hd9 hu9 hret hexc
  refine wpAny_call (kla_code B F X N T rfl rfl hk hf (codeRec_news N hcr h1 h2) (Nat.lt_of_le_of_lt (Nat.le_add_right _ _) hd9) hbd (locs rfl) (fun g L' h' FG F' N' B' X' T' => ?_) hco hgen hks hcell)
  refine Call_ (nameX_K F' X' (topRead_of T') (gl_pwe (E := ⟨w, mean, mg, mb⟩)).a (callWith_K X' (gl_pwe (E := ⟨w, mean, mg, mb⟩)).b (args_cons (nameX_F N' hc1 mX dX (args_cons (nameX_F N' hc2 mY dY (args_cons (wpAny_Constant_str (args_nil ⟨X'.keeps F'.keep, ?_⟩))) hks hn2 rfl rfl)) hks hn1 rfl rfl))) hks hn3 rfl)
  refine pwboth_ok hv ht hb he (dp + 1) (un + 3) _ _ _ _ _ _ _ _ _ _ _ _ ⟨_, _, _, _, _⟩ _ _ B' F' X' N' T' hks (by omega) (by omega) (fun r n' h' tk' F N hs o => leaveK_ F N fun F N => hret _ _ _ _ F N hs o) fun x g' h2 tk' hz FG' R U => dz_on B' FG' R U rfl fun h' R U => hexc _ _ _ _ hz FG R U
end Mine
end
section
open PySem PySem.W PySem.Spec PySem.Calls PyProof.Rows
namespace Mine
set_option maxRecDepth 100000
set_option maxHeartbeats 8000000
theorem drop2 {h₀ h : Heap} {L : Addr} {a b : Addr × Obj} {r : List (Addr × Obj)} (N : News h₀ L h (a :: b :: r)) : News h₀ L h (a :: r) := fun p hp => N p ((List.mem_cons.mp hp).elim (fun e => e ▸ .head _) fun h => .tail _ (.tail _ h))
theorem fm (n : Int) {k : Int} (hk : 0 < k) : 0 ≤ n.fmod k ∧ n.fmod k < k := ⟨Int.fmod_nonneg_of_pos n hk, Int.fmod_lt_of_pos n hk⟩
theorem sub9 {x : Int} (h0 : 0 ≤ x) (h : x < 19) : (x - 9).natAbs ≤ 9 := by omega
theorem add1 {x k : Int} (h0 : 0 ≤ x) (h : x < k) : 1 ≤ 1 + x ∧ 1 + x ≤ k := by omega
theorem nat9 {b : Int} (h1 : 1 ≤ b) (h9 : b ≤ 9) : b.natAbs ≤ 9 := by omega
theorem nat62 {x : Int} (h0 : 0 ≤ x) (h8 : x ≤ 8) : x.natAbs ≤ 2 ^ 62 := by omega
theorem fm7 (n : Int) : 0 ≤ 2 + n.fmod 7 ∧ 2 + n.fmod 7 ≤ 8 := by
  have := fm n (k := 7) (by decide)
  omega
theorem fm9 (n : Int) : 0 ≤ n.fmod 9 ∧ n.fmod 9 ≤ 8 := ⟨(fm n (by decide)).1, Int.le_of_lt_add_one (fm n (by decide)).2⟩
theorem pow_bd {x d B : Int} {k : Nat} (h : 0 ≤ x) (hB : x ≤ B) (hB1 : 1 ≤ B) (hd : d ≤ k) : 0 ≤ x ^ d.toNat ∧ x ^ d.toNat ≤ B ^ k :=
  ⟨Int.pow_nonneg h, Int.le_trans (pow_le_pow_base h hB d.toNat) (pow_le_exp hB1 (by omega))⟩
theorem pow8 {x d : Int} (h : 0 ≤ x) (hx : x ≤ 8) (hd : d ≤ 7) : 0 ≤ x ^ d.toNat ∧ x ^ d.toNat < 2 ^ 32 :=
  ⟨Int.pow_nonneg h, Int.lt_of_le_of_lt (pow_bd (k := 7) h hx (by decide) hd).2 (by decide)⟩
theorem max_bd {y : Int} (h : y < 2 ^ 32) : 0 ≤ (if y > 0 then y else 0) ∧ (if y > 0 then y else 0) < 2 ^ 32 := by split <;> omega
theorem ratio_small {t b : Int} (ht : t.natAbs ≤ 9) (hb : 0 < b) (h9 : b ≤ 9) : (t.fdiv (t.gcd b)).natAbs ≤ 9 ∧ 1 ≤ b.fdiv (t.gcd b) ∧ b.fdiv (t.gcd b) ≤ 9 ∧ (0 ≤ t → 0 ≤ t.fdiv (t.gcd b)) := by
  obtain ⟨x, hx⟩ : ((t.gcd b : Nat) : Int) ∣ t := Int.gcd_dvd_left ..
  obtain ⟨y, hy⟩ : ((t.gcd b : Nat) : Int) ∣ b := Int.gcd_dvd_right ..
  have hg := gcd_nz (t := t) hb
  have h0 : 0 < ((t.gcd b : Nat) : Int) := by omega
  generalize ((t.gcd b : Nat) : Int) = g at *
  subst hx hy
  rw [Int.mul_fdiv_cancel_left _ hg, Int.mul_fdiv_cancel_left _ hg]
  have hy0 : 0 < y := Int.pos_of_mul_pos_left (Int.mul_comm g y ▸ hb) h0
  have h1 : y ≤ g * y := by
    have : 1 * y ≤ g * y := Int.mul_le_mul_of_nonneg_right h0 (Int.le_of_lt hy0)
    omega
  refine ⟨Nat.le_trans ?_ ht, hy0, Int.le_trans h1 h9, fun h => ?_⟩
  · rw [Int.natAbs_mul]
    exact Nat.le_mul_of_pos_left _ (by omega)
  · exact Int.nonneg_of_mul_nonneg_right h h0
theorem pw3 {t b e : Int} (h0 : 0 ≤ t) (ht : t.natAbs ≤ 9) (b0 : 1 ≤ b) (hb : b ≤ 9) (e0 : 1 ≤ e) (he : e ≤ 3) : 0 ≤ pT t b e ∧ pT t b e < 2 ^ 32 ∧ 0 ≤ pB t b e ∧ pB t b e < 2 ^ 32 := by
  have d := due_pos (t := t) (b := b) (e := e) (by omega)
  have h1 := pow_bd (x := t) (d := e) (B := 9) (k := 3) h0 (by omega) (by decide) he
  have h2 := pow_bd (x := b) (d := e) (B := 9) (k := 3) (by omega) hb (by decide) he
  rw [d.1, d.2]
  exact ⟨h1.1, Int.lt_of_le_of_lt h1.2 (by decide), h2.1, Int.lt_of_le_of_lt h2.2 (by decide)⟩
/-- a small number's two ints are in the roots' reach -/
theorem small32 {t b : Int} (h : t.natAbs ≤ 9 ∧ 1 ≤ b ∧ b ≤ 9 ∧ 0 ≤ t) : t < 2 ^ 32 ∧ 0 ≤ b ∧ b < 2 ^ 32 := by omega
section
variable {S : SF} {ρ : Loc} {n : Led} {R R' : Loc → Led → Flow → Prop} {b : Stmt} {t : Expr} {body els : List Stmt} {pos : Pos}
theorem St.gen3 {b : List Stmt} {x y z : Str} {v u w : Value} (h1 : ρ x = some v) (h2 : ρ y = some u) (h3 : ρ z = some w) (k : ∀ ρ', ρ' x = some v → ρ' y = some u → ρ' z = some w → St S ρ' n b R) : St S ρ n b R := k ρ h1 h2 h3
@[reducible] def mkL (C : CI) (E : BE) (cY cX : Addr) : SF := ⟨E, C, [(Str.ofString "exponent", cY), (Str.ofString "base", cX)]⟩
theorem Ex.mono (h : Ex S ρ n b R) (k : ∀ ρ' n' f, R ρ' n' f → R' ρ' n' f) : Ex S ρ n b R' := fun z _ _ _ G F N q => h z _ _ _ G F N fun _ _ _ _ _ o => q _ _ _ _ _ (k _ _ _ o)
theorem ex_if (h : Ts S ρ n t (fun n' => St S ρ n' body R) (fun n' => St S ρ n' els R)) : Ex S ρ n (.If t body els pos) R :=
  fun z _ _ _ G F N q => wpAny_If (h z _ _ _ G F N fun _ _ _ _ o F N => condP o (fun k => k z _ _ _ G F N q) fun k => k z _ _ _ G F N q)
theorem Ex.use (C : Ex S ρ n b R) {z : FX} {h : Heap} {tk : Nat} (G : OkX S z) (F : Fr z.h₀ z.L h ρ) (N : News z.h₀ z.L h n) {Q : Flow → Shared → Prop} {E : Value → Shared → Prop}
    (q : ∀ ρ' n' v h' tk', R ρ' n' v → Fr z.h₀ z.L h' ρ' → News z.h₀ z.L h' n' → Q v (z.st h' tk')) : wpAny (PM S.E.w) (z.A S) (exec b (z.env S)) Q E (z.st h tk) := wpAny_mono (C z h tk Q G F N q) (fun _ _ x => x) fun _ _ (x : False) => x.elim
end
end Mine
end
section
open PySem PySem.W PySem.Spec PySem.Calls PyProof.Rows
namespace Mine
set_option maxRecDepth 100000
set_option maxHeartbeats 8000000
def LawR (_ : Loc) (n : Led) (f : Flow) : Prop := f = .next ∧ ∃ T, (303, tabObj T) ∈ n
/-- what told handed back: the power, or by zero -/
def TP {D cY cX : Addr} (_ : LD D cY cX) (own : Led) (us : List Value) (m : Nat) (oy ox : Obj) (v : Value) (t b e : Int) (n : Led) (r : Value) : Prop :=
  ∃ T led, LS n own D us m cY oy cX ox T led ∧ LK own D cY cX led ∧ TabIn T led ∧ NumIn n v t b ∧ ∃ D2 m2, r = .ref D2 ∧
    ((∃ q t1, (D2, listOf #[.str (Str.ofString "told") t1, q] m2) ∈ n ∧ NumIn n q (pT t b e) (pB t b e) ∧ ¬ (t = 0 ∧ e < 0)) ∨ ∃ t1, (D2, listOf #[.str (Str.ofString "by zero") t1] m2) ∈ n ∧ (t = 0 ∧ e < 0))
/-- behind the law's look at what told handed back -/
inductive R6 {D cY cX : Addr} (hLD : LD D cY cX) (own : Led) (us : List Value) (m : Nat) (oy ox : Obj) (v : Value) (t b g : Int) (a : Tok) (ρ : Loc) (n : Led) : Flow → Prop where
  | mk {T : Array Value} {led : Led} (hm : ρ (Str.ofString "deck") = some (.ref D)) (hg : ρ (Str.ofString "degree") = some (.int g a)) (hS : LS n own D us m cY oy cX ox T led) (hK : LK own D cY cX led) (ht : TabIn T led) (hr : NumIn n v t b) : R6 hLD own us m oy ox v t b g a ρ n .next
theorem main : PySem.Challenge.rw_nt0253_01.Holds := hd (by
  k_with_none
  k_with "exec For Name Call cons nil" => refine stop_in ?_
  k_go0
  all_goals (try k_fold)
  k_steps
  unfold Stop
  rename Fr _ _ _ _ => F9
  rename News _ _ _ _ => N9
  rename IntsAre _ (List.map _ _) => hi9
  with_unfolding_all refine' Ex.use (S := ⟨⟨_, _, _, _⟩, ⟨Str.ofString "law", _, 60, 600, true⟩, _⟩) (R := LawR) (n := _) ?C (z := ⟨_, _, _, _, _, [], _, _, _, _, _, _, _⟩) ⟨?gB, ?gX, ?gT, rfl, ?gd, ?gu, ?gt⟩ F9 ?N ?q
  case N => exact drop2 N9
  case gB => k_asm
  case gX => k_asm
  case gT => k_asm
  case gt => exact fun _ => ⟨rfl, rfl, rfl⟩
  case gd => first | decide | ktr_room
  case gu => first | exact Nat.le_of_ble_eq_true rfl | ktr_units
  case q =>
    intro ρ' n' f h' tk' ⟨hf, T, hT⟩ F1 N1
    subst hf
    k_steps
  case C =>
    have hLD := law_dist (drop2 N9) (by assumption) (by assumption) (Nat.succ_ne_self _)
    refine (fun (h : ∀ E : BE, Ex (mkL _ E _ _) _ _ _ _) => h _) fun E => ?_
    refine ex_for (fun _ => LawJ _ _ _) (by decide) (by decide) rfl rfl rfl rfl (fun _ => rfl) (fun _ h => ev_int h) (lawJ_start rfl (by assumption) (by assumption) hi9) (fun i ρ n own j c hJ hI => ?turn) (fun ρ n hJ => ⟨rfl, law_done hJ⟩)
    case turn =>
      clear F9 N9 hi9
      obtain ⟨hm, hS, hK, hoy, hox, hi, ok, htab⟩ := law_in hJ hI
      clear hI hJ
      generalize n ++ own = n0 at hS ⊢
      generalize _ + 1 + 1 = cY at hLD hK hS ⊢
      generalize _ + 1 = cX at hLD hK hS ⊢
      refine st_set2 (x := Str.ofString "number") (y := Str.ofString "degree") (ev_pair (fun _ => rfl) (fun _ => rfl) (ev_call2 gl_draw rfl rfl (fun _ => rfl) (fun _ => rfl) (ev_name hm rfl rfl (ev_int fun _ => c_draw (Nat.le_of_ble_eq_true rfl) (Nat.le_of_ble_eq_true rfl) hS.d hi ok (by decide) (by decide) fun n1 us1 es1 m1 x1 a1 hT1 hi1 ok1 lo1 up1 => ev_op (ev_int fun _ => ev_call2 gl_draw rfl rfl (fun _ => rfl) (fun _ => rfl) (ev_name hm rfl rfl (ev_int fun _ => c_draw (Nat.le_of_ble_eq_true rfl) (Nat.le_of_ble_eq_true rfl) (hS.draw hLD hK hT1).d hi1 ok1 (by decide) (by decide) fun n2 us2 es2 m2 x2 a2 hT2 hi2 ok2 lo2 up2 => op_add fun a3 _ => st_pair (St.gen3 (x := Str.ofString "deck") (y := Str.ofString "number") (z := Str.ofString "degree") hm rfl rfl ?_)))))))) rfl rfl (fun _ => rfl) (fun _ => rfl)
      clear hm
      replace hS := (hS.draw hLD hK hT1).draw hLD hK hT2
      clear hT1 hT2 hi ok hi1 ok1 us1 es1 m1
      have g := add1 lo2 up2
      generalize 1 + x2 = dg at g ⊢
      intro ρ hm hn hg
      clear lo2 up2
      have g9 := Int.le_trans g.2 (show (7 : Int) ≤ 9 by decide)
      have g0 := Int.le_trans (show (0 : Int) ≤ 1 by decide) g.1
      have g62 := Int.lt_of_le_of_lt g.2 (show (7 : Int) < 2 ^ 62 by decide)
      have u32 := Int.lt_trans up1 (show (1000 : Int) < 2 ^ 32 by decide)
      clear up1
      refine st_if (ts_or (ts_not (ts_ev (ev_call2 gl_isroot rfl rfl (fun _ => rfl) (fun _ => rfl) (ev_name hn rfl rfl (ev_name hg rfl rfl (c_isroot (Nat.le_of_ble_eq_true rfl) (Nat.le_of_ble_eq_true rfl) lo1 u32 g.1 g9 (.inl ⟨rfl, ?_⟩))))) (fun _ _ => rfl))))
      have f9 := fm9 x1
      have p9 := pow8 f9.1 f9.2 g.2
      refine ts_not (ts_ev (ev_call2 gl_isroot rfl rfl (fun _ => rfl) (fun _ => rfl) (ev_call2 gl_lpw rfl rfl (fun _ => rfl) (fun _ => rfl) (ev_op (ev_name hn rfl rfl (ev_int fun _ => op_mod (by decide) fun _ => ev_name hg rfl rfl (c_lpw (Nat.le_of_ble_eq_true rfl) (Nat.le_of_ble_eq_true rfl) g0 g62 (nat62 f9.1 f9.2) fun _ => ev_name hg rfl rfl (c_isroot (Nat.le_of_ble_eq_true rfl) (Nat.le_of_ble_eq_true rfl) p9.1 p9.2 g.1 g9 (.inl ⟨rfl, st_nil ?_⟩)))))))) (fun _ _ => rfl))
      have f7 := fm7 x1
      have p7 := pow8 f7.1 f7.2 g.2
      have q7 := max_bd (Int.lt_of_le_of_lt (Int.sub_le_self _ (show (0 : Int) ≤ 1 by decide)) p7.2)
      refine st_if (ts_not (ts_ev (ev_call2 gl_isroot rfl rfl (fun _ => rfl) (fun _ => rfl) (ev_bi2 bi_max rfl rfl (fun _ => rfl) (fun _ => rfl) (ev_int fun _ => ev_op (ev_call2 gl_lpw rfl rfl (fun _ => rfl) (fun _ => rfl) (ev_op (ev_int fun _ => ev_op (ev_name hn rfl rfl (ev_int fun _ => op_mod (by decide) fun _ => op_add fun _ => ev_name hg rfl rfl (c_lpw (Nat.le_of_ble_eq_true rfl) (Nat.le_of_ble_eq_true rfl) g0 g62 (nat62 f7.1 f7.2) fun _ => ev_int fun _ => op_sub fun _ => cr_max fun _ => ev_name hg rfl rfl (c_isroot (Nat.le_of_ble_eq_true rfl) (Nat.le_of_ble_eq_true rfl) q7.1 q7.2 g.1 g9 (.inl ⟨rfl, st_nil ?_⟩))))))))))) (fun _ _ => rfl)))
      clear f9 p9 f7 p7 q7 g0 g62 g9 g hn
      refine st_cells (x := Str.ofString "base") (y := Str.ofString "exponent") (c := cX) (c2 := cY) (ev_pair (fun _ => rfl) (fun _ => rfl) (ev_call2 gl_ratio rfl rfl (fun _ => rfl) (fun _ => rfl) (ev_op (ev_call2 gl_draw rfl rfl (fun _ => rfl) (fun _ => rfl) (ev_name hm rfl rfl (ev_int fun _ => c_draw (Nat.le_of_ble_eq_true rfl) (Nat.le_of_ble_eq_true rfl) hS.d hi2 ok2 (by decide) (by decide) fun n3 us3 es3 m3 x3 _ hT3 hi3 ok3 lo3 up3 => ev_int fun _ => op_sub fun _ => ev_op (ev_int fun _ => ev_call2 gl_draw rfl rfl (fun _ => rfl) (fun _ => rfl) (ev_name hm rfl rfl (ev_int fun _ => c_draw (Nat.le_of_ble_eq_true rfl) (Nat.le_of_ble_eq_true rfl) (hS.draw hLD hK hT3).d hi3 ok3 (by decide) (by decide) fun n4 us4 es4 m4 x4 _ hT4 hi4 ok4 lo4 up4 => op_add fun _ => c_ratio (Nat.le_of_ble_eq_true rfl) (Nat.le_of_ble_eq_true rfl) (add1 lo4 up4).1 (Int.lt_of_le_of_lt (add1 lo4 up4).2 (by decide)) fun n5 r hs5 hr => ev_op (Ev.uniq fun U5 => ev_call2 gl_draw rfl rfl (fun _ => rfl) (fun _ => rfl) (ev_name hm rfl rfl (ev_int fun _ => c_draw (Nat.le_of_ble_eq_true rfl) (Nat.le_of_ble_eq_true rfl) (((hS.draw hLD hK hT3).draw hLD hK hT4).more hs5).d hi4 ok4 (by decide) (by decide) fun n6 us6 es6 m6 x6 _ hT6 hi6 ok6 lo6 up6 => ev_int fun _ => Ev.uniq fun U6 => op_sub fun a7 D7 => ?_)))))))))))) hLD.yx rfl rfl rfl rfl (fun _ => rfl) (fun _ => rfl)
      have sm := ratio_small (sub9 lo3 up3) (add1 lo4 up4).1 (Int.le_trans (add1 lo4 up4).2 (by decide))
      have he := sub9 lo6 up6
      generalize (x3 - 9).fdiv _ = TT at hr sm
      generalize (1 + x4).fdiv _ = BB at hr sm
      generalize x6 - 9 = ee at he ⊢
      clear lo3 up3 lo4 up4 lo6 up6
      have b9 := nat9 sm.2.1 sm.2.2.1
      have hS5 := ((hS.draw hLD hK hT3).draw hLD hK hT4).more hs5
      have hS6 := hS5.draw hLD hK hT6
      have hr6 := hr.turn U5 hS5.d notNum_list hT6
      refine ⟨.head _, ⟨.tail _ hS6.x, hox, .tail _ hS6.y, hoy, fun n7 n8 ox8 oy8 hT7 hox8 hT8 hoy8 => ?_⟩⟩
      have hr8 := hr6.turn2 U6 hS6.x (notNum_cell hox) hS6.y (notNum_cell hoy) hT7 hT8
      have hS8 := (hS6.more (fun _ h => .tail _ h)).cells hLD hK hT7 hT8
      clear hT7 hT8 hr6 hS6 hS5 hT6 hT4 hT3 hS hr U5 U6 hi2 ok2 hi3 ok3 hi4 ok4 hs5
      refine st_set (x := Str.ofString "told") (Ev.mono (O := TP hLD own us6 m6 oy8 ox8 r TT BB ee) (ev_call1 gl_told rfl rfl (fun _ => rfl) (Ev.uniq fun U8 => ?told)) fun n' v hTP => ?rest) rfl (fun _ => rfl)
      case told =>
        intro z h tk Q G F N q
        refine kla_eval rfl (lam_tab F (fun p hp => N p (off_sub hS8.t p hp)) G.T (codeHd_of_K G.X rfl) (G.t rfl).2.2 (UpdF.head off_ne) htab (fun p hp => .tail _ (off_mem (hS8.l p hp) (hK.lT p hp))) rfl rfl rfl fun f c' oc vs t ctv T' led' h' tk' htab' mc' d1 d2 hne F' N' _ => q _ _ _ _ ?_ F' N')
        have s1 : ∀ {x : Addr × Obj}, ∀ p ∈ (303, tabObj T') :: off 303 n8, p ∈ x :: (((303, tabObj T') :: off 303 n8) ++ led') := fun p hp => .tail _ (List.mem_append_left _ hp)
        have s2 : ∀ {x : Addr × Obj}, ∀ p ∈ led', p ∈ x :: (((303, tabObj T') :: off 303 n8) ++ led') := fun p hp => .tail _ (List.mem_append_right _ hp)
        have hS9 := fun (x : Addr × Obj) => hS8.lam hLD hK (s1 (x := x)) (s2 (x := x))
        have hK9 := hK.lam hLD hS8 hne
        have hr9 := fun (x : Addr × Obj) => hr8.turn U8 hS8.t notNum_tab ⟨s1 (x := x) _ (.head _), fun p hp k => s1 p (.tail _ (off_mem hp k))⟩
        exact cr_told (told_ok (.head _) (lam_cx (.head _) (s2 _ mc') d1 d2 rfl rfl rfl rfl (by decide) rfl rfl rfl rfl rfl (hS9 _).x hox8 (hS9 _).y hoy8 (hr9 _) sm.1 b9 he)) rfl (Nat.le_of_ble_eq_true rfl) (Nat.le_of_ble_eq_true rfl)
          (fun D2 q n10 m2 t1 hs ho => ⟨T', led', (hS9 _).more (fun _ h => .tail _ (hs _ h)), hK9, htab', (hr9 _).mono fun _ h => .tail _ (hs _ h), D2, m2, rfl, .inl ⟨q, t1, .head _, ho.1.mono fun _ h => .tail _ h, ho.2⟩⟩)
          (fun D2 m2 t1 hz => ⟨T', led', (hS9 _).more (fun _ h => .tail _ h), hK9, htab', (hr9 _).mono fun _ h => .tail _ h, D2, m2, rfl, .inr ⟨t1, .head _, hz⟩⟩)
      case rest =>
        clear hS8 hr8 htab hK
        refine st_cons (Ex.mono (R := R6 hLD own us6 m6 oy8 ox8 r TT BB dg a3) (ex_if ?ex6) fun ρ7 n7 f hR => ?rest7)
        case ex6 =>
          obtain ⟨T2, led2, hS2, hK2, ht2, hr2, D2, m2, rfl, hcase⟩ := hTP
          have fin : ∀ {ρ' : Loc} {n3 : Led}, ρ' (Str.ofString "deck") = some (.ref _) → ρ' (Str.ofString "degree") = some (.int dg a3) → (∀ p ∈ n', p ∈ n3) → R6 hLD own us6 m6 oy8 ox8 r TT BB dg a3 ρ' n3 .next := fun h1 h2 hs => ⟨h1, h2, hS2.more hs, hK2, ht2, hr2.mono hs⟩
          rcases hcase with ⟨q, t1, mq, hq, hz⟩ | ⟨t1, mz, hz⟩
          · refine (fun tail : (ee < 0 → TT ≠ 0) → _ => ts_and (ts_cmp (ev_call1 gl_top rfl rfl (fun _ => rfl) (ev_cell rfl rfl rfl hS2.x hox8 (c_top (Nat.le_of_ble_eq_true rfl) (Nat.le_of_ble_eq_true rfl) hr2 fun _ => ev_int fun _ => cmp_eq (fun h0 => ts_cmp (ev_cell rfl rfl rfl hS2.y hoy8 (ev_int fun _ => cmp_lt (fun h => absurd ⟨h0, h⟩ hz) fun h => tail fun q => absurd q h)) rfl) fun h0 => tail fun _ => h0))) rfl)) fun hne => ?_
            refine st_if (ts_or (ts_cmp (ev_item rfl rfl rfl mq (by decide) (by decide) rfl (ev_str fun _ => ne_strs ?_)) rfl))
            exact ts_cmp (ev_call1 gl_pair rfl rfl (fun _ => rfl) (ev_item rfl rfl rfl mq (by decide) (by decide) rfl (c_pair (Nat.le_of_ble_eq_true rfl) (Nat.le_of_ble_eq_true rfl) hq fun D3 _ _ => ev_call2 gl_due rfl rfl (fun _ => rfl) (fun _ => rfl) (ev_cell rfl rfl rfl (.tail _ hS2.x) hox8 (ev_cell rfl rfl rfl (.tail _ hS2.y) hoy8 (c_due (Nat.le_of_ble_eq_true rfl) (Nat.le_of_ble_eq_true rfl) (hr2.mono fun _ h => .tail _ h) sm.1 b9 he hne fun D4 _ _ => ne_tup2 (Nat.le_of_ble_eq_true rfl) (.tail _ (.head _)) (.head _) (st_nil (st_nil (fin hm hg fun _ h => .tail _ (.tail _ h)))))))))) rfl
          · refine ts_and (ts_cmp (ev_call1 gl_top rfl rfl (fun _ => rfl) (ev_cell rfl rfl rfl hS2.x hox8 (c_top (Nat.le_of_ble_eq_true rfl) (Nat.le_of_ble_eq_true rfl) hr2 fun _ => ev_int fun _ => cmp_eq (fun h0 => ts_cmp (ev_cell rfl rfl rfl hS2.y hoy8 (ev_int fun _ => cmp_lt (fun h => ?_) fun h => absurd hz.2 h)) rfl) fun h0 => absurd hz.1 h0))) rfl)
            exact st_if (ts_cmp (ev_name rfl rfl rfl (ev_list1 (fun _ => rfl) (ev_str fun _ l => ne_list1 (by with_unfolding_all rfl) (Nat.le_of_ble_eq_true rfl) (.tail _ mz) (.head _) (st_nil (st_nil (fin hm hg fun _ h => .tail _ h)))))) rfl)
        case rest7 =>
          cases hR with
          | mk hm7 hg7 hS7 hK7 ht7 hr7 =>
          refine st_set (x := Str.ofString "times") (ev_op (ev_int fun _ => ev_op (ev_name hg7 rfl rfl (ev_int fun _ => op_mod (by decide) fun _ => op_add fun a9 => ?_)))) rfl (fun _ => rfl)
          have w := add1 (fm dg (show (0 : Int) < 3 by decide)).1 (fm dg (show (0 : Int) < 3 by decide)).2
          generalize 1 + dg.fmod 3 = tt at w ⊢
          have w9 := Int.le_trans w.2 (show (3 : Int) ≤ 9 by decide)
          have hb0 := Int.lt_of_lt_of_le (show (0 : Int) < 1 by decide) sm.2.1
          have hb32 := Int.lt_of_le_of_lt sm.2.2.1 (show (9 : Int) < 2 ^ 32 by decide)
          have sm8 := ratio_small (t := if TT < 0 then -TT else TT) (b := BB) ((abs_nat TT).symm ▸ sm.1) hb0 sm.2.2.1
          have t0 := sm8.2.2.2 (abs0 TT)
          have l8 := small32 ⟨sm8.1, sm8.2.1, sm8.2.2.1, t0⟩
          have l9 := pw3 t0 sm8.1 sm8.2.1 sm8.2.2.1 w.1 w.2
          refine st_if (ts_not (ts_ev (ev_call2 gl_isxroot rfl rfl (fun _ => rfl) (fun _ => rfl) (ev_call2 gl_ratio rfl rfl (fun _ => rfl) (fun _ => rfl) (ev_bi1 bi_abs rfl rfl (fun _ => rfl) (ev_call1 gl_top rfl rfl (fun _ => rfl) (ev_cell rfl rfl rfl hS7.x hox8 (c_top (Nat.le_of_ble_eq_true rfl) (Nat.le_of_ble_eq_true rfl) hr7 fun _ => cr_abs fun _ => ev_call1 gl_bottom rfl rfl (fun _ => rfl) (ev_cell rfl rfl rfl hS7.x hox8 (c_bottom (Nat.le_of_ble_eq_true rfl) (Nat.le_of_ble_eq_true rfl) hr7 fun _ => c_ratio (Nat.le_of_ble_eq_true rfl) (Nat.le_of_ble_eq_true rfl) hb0 hb32 fun n8 r8 hs8 h8 => ev_name rfl rfl rfl (c_isxroot (Nat.le_of_ble_eq_true rfl) (Nat.le_of_ble_eq_true rfl) h8 t0 l8.1 l8.2.1 l8.2.2 w.1 w9 (.inl ⟨rfl, st_nil ?_⟩)))))))))) (fun _ _ => rfl)))
          refine st_if (ts_not (ts_ev (ev_call2 gl_isxroot rfl rfl (fun _ => rfl) (fun _ => rfl) (ev_call2 gl_powx rfl rfl (fun _ => rfl) (fun _ => rfl) (ev_call2 gl_ratio rfl rfl (fun _ => rfl) (fun _ => rfl) (ev_bi1 bi_abs rfl rfl (fun _ => rfl) (ev_call1 gl_top rfl rfl (fun _ => rfl) (ev_cell rfl rfl rfl (hs8 _ hS7.x) hox8 (c_top (Nat.le_of_ble_eq_true rfl) (Nat.le_of_ble_eq_true rfl) (hr7.mono hs8) fun _ => cr_abs fun _ => ev_call1 gl_bottom rfl rfl (fun _ => rfl) (ev_cell rfl rfl rfl (hs8 _ hS7.x) hox8 (c_bottom (Nat.le_of_ble_eq_true rfl) (Nat.le_of_ble_eq_true rfl) (hr7.mono hs8) fun _ => c_ratio (Nat.le_of_ble_eq_true rfl) (Nat.le_of_ble_eq_true rfl) hb0 hb32 fun n9 r9 hs9 h9 => ev_name rfl rfl rfl (c_powx (Nat.le_of_ble_eq_true rfl) (Nat.le_of_ble_eq_true rfl) h9 sm8.1 (nat9 sm8.2.1 sm8.2.2.1) (nat9 w.1 w9) fun n10 r10 hs10 h10 => ev_name rfl rfl rfl (c_isxroot (Nat.le_of_ble_eq_true rfl) (Nat.le_of_ble_eq_true rfl) h10 l9.1 l9.2.1 l9.2.2.1 l9.2.2.2 w.1 w9 (.inl ⟨rfl, st_nil ?_⟩)))))))))))) (fun _ _ => rfl)))
          exact st_nil (law_end (hS7.more fun _ h => hs10 _ (hs9 _ (hs8 _ h))) hK7 hm7 hoy8 hox8 hi6 ok6 ht7))

end Mine
end
theorem PySem.Challenge.cw_nt0253_01_holds : PySem.Challenge.rw_nt0253_01.Holds :=
  Mine.main
