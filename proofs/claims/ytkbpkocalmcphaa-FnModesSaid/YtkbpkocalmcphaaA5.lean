/- The interpreter made for the kernel, with fast floating-point operations. -/
import Derived.Test.YtkbpkocalmcphaaA4
import Derived.Test.YtkbpkocalmcphaaA3
/- The interpreter: functions of the model's own. -/
set_option maxRecDepth 100000
namespace Go.Vc
open Go Go.Proofs

/-- An answer over no block. -/
theorem ext0 {P : Program} {f : FuncId} {g : List AV → Option AV} (h : ∀ xs r, g xs = some r → CallsTo P f xs [] r [] ∧ AV.flats xs = true ∧ r.flat = true) :
    EntOk P f (.ext fun xs _ => match g xs with
      | some r => forceAV r fun r => some (r, none)
      | none => none) := by
  intro xs H v b hg κ hk
  dsimp only at hg
  split at hg
  · rename_i r e
    rw [forceAV_eq] at hg
    cases hg
    obtain ⟨h1, h2, h3⟩ := h xs _ e
    exact ⟨[], [], [], xs, _, h1, renL_flat _ _ _ h2, trivial, by rw [ren_flat _ _ _ h3]; simpa [graft, graftR] using hk⟩
  · cases hg

def gSqrt : List AV → Option AV
  | [.f .f64 x] => some (.f .f64 (fsqrt x))
  | _ => none
def gFrom : List AV → Option AV
  | [.i .u64 (.ofNat n)] => some (.f .f64 (canon .f64 n))
  | _ => none
def gBits : List AV → Option AV
  | [.f .f64 x] => if (FloatKind.f64.decode x).isNaN then none else some (.i .u64 x)
  | _ => none
def gTrunc (way : Ieee.Toward) : List AV → Option AV
  | [.f .f64 x] => if (FloatKind.f64.decode x).isNaN then none else some (.f .f64 (fwhole way x))
  | _ => none

def extE (g : List AV → Option AV) : Ent := .ext fun xs _ => match g xs with
  | some r => forceAV r fun r => some (r, none)
  | none => none

theorem jAt204 : Try.prog.funcs[204]? = some Try.f204 := by kernel_rfl
theorem jAt192 : Try.prog.funcs[192]? = some Try.f192 := by kernel_rfl
theorem jAt193 : Try.prog.funcs[193]? = some Try.f193 := by kernel_rfl
theorem jAt255 : Try.prog.funcs[255]? = some Try.f255 := by kernel_rfl

theorem e204 : EntOk Try.prog 204 (extE gSqrt) := ext0 fun xs r h => by
  unfold gSqrt at h
  split at h
  · cases h; exact ⟨sqrt_to jAt204 (by kernel_rfl) (by kernel_rfl) (by kernel_rfl) (by kernel_rfl) _, rfl, rfl⟩
  · cases h
theorem e192 : EntOk Try.prog 192 (extE gFrom) := ext0 fun xs r h => by
  unfold gFrom at h
  split at h
  · cases h; exact ⟨frombits64_to jAt192 (by kernel_rfl) (by kernel_rfl) (by kernel_rfl) (by kernel_rfl) _, rfl, rfl⟩
  · cases h
theorem e193 : EntOk Try.prog 193 (extE gBits) := ext0 fun xs r h => by
  unfold gBits at h
  split at h
  · split at h
    · cases h
    · rename_i hn
      cases h; exact ⟨bits64_to jAt193 (by kernel_rfl) (by kernel_rfl) (by kernel_rfl) (by kernel_rfl) _ (by simpa using hn), rfl, rfl⟩
  · cases h
theorem e255 : EntOk Try.prog 255 (extE (gTrunc .zero)) := ext0 fun xs r h => by
  unfold gTrunc at h
  split at h
  · split at h
    · cases h
    · rename_i hn
      cases h; exact ⟨whole_to (name := "math.archTrunc") jAt255 (by kernel_rfl) (by kernel_rfl) (by kernel_rfl) (by kernel_rfl) _ (by simpa using hn), rfl, rfl⟩
  · cases h
end Go.Vc

/- Floating-point operations by few steps of whole numbers: the same answers. -/
set_option linter.unusedVariables false
namespace Go.Vc
open Go

noncomputable def kN {β : Type} (x : Nat) (f : Nat → β) : β := @Nat.rec (fun _ => β) (f 0) (fun n _ => f (Nat.succ n)) x
theorem kN_eq {β : Type} (x : Nat) (f : Nat → β) : kN x f = f x := by cases x <;> rfl
noncomputable def kB {β : Type} (b : Bool) (x y : β) : β := @Bool.rec (fun _ => β) y x b
theorem kB_eq {β : Type} (b : Bool) (x y : β) : kB b x y = if b then x else y := by cases b <;> rfl

noncomputable def kfb (k : FloatKind) : Nat := @FloatKind.rec (fun _ => Nat) 23 52 k
noncomputable def klm (k : FloatKind) : Nat := @FloatKind.rec (fun _ => Nat) 149 1074 k
noncomputable def kbin (k : FloatKind) : Nat := @FloatKind.rec (fun _ => Nat) 8388608 4503599627370496 k
noncomputable def kinf (k : FloatKind) : Nat := @FloatKind.rec (fun _ => Nat) 2139095040 9218868437227405312 k
noncomputable def ksw (k : FloatKind) : Nat := @FloatKind.rec (fun _ => Nat) 2147483648 9223372036854775808 k
theorem fb_eq (k : FloatKind) : k.format.fractionBits = kfb k := by cases k <;> rfl
theorem lp_eq (k : FloatKind) : k.format.leastPlace = -(klm k : Int) := by cases k <;> rfl
theorem bin_eq (k : FloatKind) : k.format.binade = kbin k := by cases k <;> rfl
theorem inf_eq (k : FloatKind) : k.format.infRung = kinf k := by cases k <;> rfl
theorem sw_eq (k : FloatKind) : k.format.signWeight = ksw k := by cases k <;> rfl

noncomputable def kRead {β : Type} (k : FloatKind) (x : Nat) (fail : β) (f : Bool → Nat → Nat → β) : β :=
  kN (Nat.mod x (ksw k)) fun r => kB (Nat.ble (kinf k) r) fail
    (kB (Nat.beq (Nat.mod (Nat.div x (ksw k)) 2) 1)
      (@Nat.rec (fun _ => β) (f true r 0) (fun q _ => kN (Nat.add (kbin k) (Nat.mod r (kbin k))) fun m => f true m q) (Nat.div r (kbin k)))
      (@Nat.rec (fun _ => β) (f false r 0) (fun q _ => kN (Nat.add (kbin k) (Nat.mod r (kbin k))) fun m => f false m q) (Nat.div r (kbin k))))

theorem kRead_eq (k : FloatKind) (x : Nat) : (∃ (s : Bool) (m i : Nat), k.decode x = .number s m ((i : Int) - (klm k : Int)) ∧ ∀ {β : Type} (fail : β) (f : Bool → Nat → Nat → β), kRead k x fail f = f s m i) ∨
    ((∀ s m e, k.decode x ≠ .number s m e) ∧ ∀ {β : Type} (fail : β) (f : Bool → Nat → Nat → β), kRead k x fail f = fail) := by
  have hb : 0 < kbin k := by cases k <;> decide
  have hbi : kbin k ≤ kinf k := by cases k <;> decide
  unfold FloatKind.decode Ieee.Format.read
  simp only [sw_eq, bin_eq, inf_eq, lp_eq]
  by_cases h1 : kinf k ≤ x % ksw k
  · right
    constructor
    · intro s m e
      rw [if_neg (by omega), if_neg (by omega)]
      split <;> simp
    · intro β fail f
      unfold kRead
      rw [kN_eq, kB_eq, if_pos (show (kinf k).ble (x.mod (ksw k)) = true from Nat.ble_eq_true_of_le h1)]
  · left
    have key : ∀ {β : Type} (fail : β) (f : Bool → Nat → Nat → β), kRead k x fail f = (if x / ksw k % 2 == 1 then
        (@Nat.rec (fun _ => β) (f true (x % ksw k) 0) (fun q _ => f true (kbin k + x % ksw k % kbin k) q) (x % ksw k / kbin k)) else
        (@Nat.rec (fun _ => β) (f false (x % ksw k) 0) (fun q _ => f false (kbin k + x % ksw k % kbin k) q) (x % ksw k / kbin k))) := by
      intro β fail f
      unfold kRead
      rw [kN_eq, kB_eq, if_neg (show ¬ (kinf k).ble (x.mod (ksw k)) = true from fun e => h1 (Nat.le_of_ble_eq_true e)), kB_eq]
      simp only [kN_eq]
      have : (Nat.beq ((x.div (ksw k)).mod 2) 1) = (x / ksw k % 2 == 1) := by
        rw [Bool.eq_iff_iff]; simp; exact Iff.rfl
      rw [this]
      rfl
    by_cases h2 : x % ksw k < kbin k
    · refine ⟨x / ksw k % 2 == 1, x % ksw k, 0, by rw [if_pos h2]; simp, fun fail f => ?_⟩
      rw [key, Nat.div_eq_of_lt h2]
      cases x / ksw k % 2 == 1 <;> rfl
    · have hq : x % ksw k / kbin k = (x % ksw k / kbin k - 1) + 1 := by
        have := Nat.div_pos (Nat.le_of_not_lt h2) hb
        omega
      refine ⟨x / ksw k % 2 == 1, kbin k + x % ksw k % kbin k, x % ksw k / kbin k - 1, ?_, fun fail f => ?_⟩
      · rw [if_neg h2, if_pos (by omega)]
        generalize x % ksw k / kbin k = q at hq ⊢
        generalize x % ksw k % kbin k = q'
        congr 1
        omega
      rw [key]
      generalize hqq : x % ksw k / kbin k = q at hq ⊢
      rw [hq]
      cases x / ksw k % 2 == 1 <;> rfl

/-! the place of the first digit -/
noncomputable def kLgS (s m acc : Nat) (f : Nat → Nat → Nat) : Nat := kN (Nat.shiftRight m s) fun q => kB (Nat.beq q 0) (f m acc) (kN (Nat.add acc s) fun acc => f q acc)
noncomputable def kLgE (m0 m acc : Nat) : Nat := kB (Nat.beq m 1) acc (Nat.log2 m0)
noncomputable def kLgB (m0 m acc : Nat) : Nat := kLgS 64 m acc fun m acc => kLgS 32 m acc fun m acc => kLgS 16 m acc fun m acc => kLgS 8 m acc fun m acc => kLgS 4 m acc fun m acc => kLgS 2 m acc fun m acc => kLgS 1 m acc fun m acc => kLgE m0 m acc
noncomputable def kLgA (m : Nat) : Nat := kLgS 1024 m 0 fun m' acc => kLgS 512 m' acc fun m' acc => kLgS 256 m' acc fun m' acc => kLgS 128 m' acc fun m' acc => kLgB m m' acc
/-- 'h': where it is likely. -/
noncomputable def kLg (h m : Nat) : Nat := kN (Nat.shiftRight m h) fun q => kB (Nat.beq q 1) h (kB (Nat.beq (Nat.shiftRight q 1) 1) (Nat.succ h) (kB (Nat.beq (Nat.shiftRight m 128) 0) (kLgB m m 0) (kLgA m)))

theorem log2_shift {m s : Nat} (h : m >>> s ≠ 0) : (m >>> s).log2 + s = m.log2 := by
  have hm : m ≠ 0 := fun e => h (by rw [e]; simp)
  rw [Nat.shiftRight_eq_div_pow] at h ⊢
  have hp : 0 < 2 ^ s := Nat.two_pow_pos s
  symm
  rw [Nat.log2_eq_iff hm]
  have h1 := Nat.log2_self_le h
  have h2 := @Nat.lt_log2_self (m / 2 ^ s)
  generalize (m / 2 ^ s).log2 = l at h1 h2
  constructor
  · rw [Nat.pow_add]
    calc 2 ^ l * 2 ^ s ≤ m / 2 ^ s * 2 ^ s := Nat.mul_le_mul_right _ h1
      _ ≤ m := Nat.div_mul_le_self m _
  · rw [show l + s + 1 = (l + 1) + s from by omega, Nat.pow_add]
    exact (Nat.div_lt_iff_lt_mul hp).1 h2

theorem kLgS_eq {s m acc : Nat} {f : Nat → Nat → Nat} {L : Nat} (hf : ∀ m' acc', m'.log2 + acc' = m.log2 + acc → f m' acc' = L) : kLgS s m acc f = L := by
  unfold kLgS
  rw [kN_eq, kB_eq]
  by_cases h : m >>> s = 0
  · rw [if_pos (by show Nat.beq (m >>> s) 0 = true; rw [h]; rfl)]; exact hf _ _ rfl
  · rw [if_neg (by show ¬ Nat.beq (m >>> s) 0 = true; simpa using h), kN_eq]
    refine hf _ _ ?_
    have := log2_shift h
    show (m >>> s).log2 + (acc + s) = _
    omega
theorem kLgB_eq {m0 m acc : Nat} (h : m.log2 + acc = m0.log2) : kLgB m0 m acc = m0.log2 := by
  unfold kLgB
  refine kLgS_eq fun m1 a1 h1 => kLgS_eq fun m2 a2 h2 => kLgS_eq fun m3 a3 h3 => kLgS_eq fun m4 a4 h4 => kLgS_eq fun m5 a5 h5 => kLgS_eq fun m6 a6 h6 => kLgS_eq fun m7 a7 h7 => ?_
  unfold kLgE
  rw [kB_eq]
  by_cases e : m7 = 1
  · subst e
    show a7 = _
    have : Nat.log2 1 = 0 := by decide
    omega
  · rw [if_neg (by simpa using e)]
theorem kLg_eq (h m : Nat) : kLg h m = m.log2 := by
  unfold kLg
  rw [kN_eq]
  simp only [kB_eq]
  by_cases c1 : m >>> h = 1
  · rw [if_pos (by show Nat.beq (m >>> h) 1 = true; rw [c1]; rfl)]
    have := log2_shift (m := m) (s := h) (by omega)
    rw [c1] at this
    have : Nat.log2 1 = 0 := by decide
    omega
  · rw [if_neg (by show ¬ Nat.beq (m >>> h) 1 = true; simpa using c1)]
    by_cases c2 : m >>> h >>> 1 = 1
    · rw [if_pos (by show Nat.beq (m >>> h >>> 1) 1 = true; rw [c2]; rfl)]
      have h1 := log2_shift (m := m >>> h) (s := 1) (by omega)
      have h2 := log2_shift (m := m) (s := h) (by intro e; rw [e] at c2; simp at c2)
      rw [c2] at h1
      have : Nat.log2 1 = 0 := by decide
      show h + 1 = _
      omega
    · rw [if_neg (by show ¬ Nat.beq (m >>> h >>> 1) 1 = true; simpa using c2)]
      split
      · exact kLgB_eq (by omega)
      · unfold kLgA
        exact kLgS_eq fun m1 a1 h1 => kLgS_eq fun m2 a2 h2 => kLgS_eq fun m3 a3 h3 => kLgS_eq fun m4 a4 h4 => kLgB_eq (by omega)

noncomputable def kNear (k : FloatKind) (s : Bool) (h m i off : Nat) : Nat :=
  kB (Nat.beq m 0) (kB s (ksw k) 0)
    (kN (kLg h m) fun l =>
     kN (Nat.sub (Nat.add (Nat.add i l) (klm k)) (Nat.add (kfb k) off)) fun d =>
     kN (Nat.sub (Nat.add i (klm k)) (Nat.add d off)) fun up =>
     kN (Nat.shiftLeft m up) fun n =>
     kN (Nat.sub (Nat.add d off) (Nat.add i (klm k))) fun drop =>
     kN (Nat.succ (Nat.succ (Nat.add l up))) fun l2 =>
     kN (Nat.shiftLeft 1 (kB (Nat.ble drop l2) drop l2)) fun gap =>
     kN (Nat.div n gap) fun low =>
     kN (Nat.mul 2 (Nat.mod n gap)) fun rest2 =>
     kN (Nat.add (Nat.mul d (kbin k)) (kB (Nat.ble rest2 gap) (kB (Nat.beq gap rest2) (Nat.add low (Nat.mod low 2)) low) (Nat.succ low))) fun r =>
     kB s (Nat.add (ksw k) (kB (Nat.ble r (kinf k)) r (kinf k))) (kB (Nat.ble r (kinf k)) r (kinf k)))

theorem log2_shl {m u : Nat} (hm : m ≠ 0) : (m <<< u).log2 = m.log2 + u := by
  have : (m <<< u) >>> u = m := by rw [Nat.shiftLeft_shiftRight]
  have h := log2_shift (m := m <<< u) (s := u) (by rw [this]; exact hm)
  rw [this] at h
  exact h.symm

theorem kNear_eq (k : FloatKind) (s : Bool) (h m i off : Nat) : kNear k s h m i off = k.format.nearest s m ((i : Int) - (off : Int)) := by
  unfold kNear Ieee.Format.nearest
  simp only [kLg_eq, kN_eq, kB_eq, sw_eq, bin_eq, inf_eq, lp_eq, fb_eq, Ieee.Format.word]
  by_cases h0 : m = 0
  · subst h0; simp
  · rw [if_neg (by simpa using h0), if_neg h0]
    have e1 : (max ((i : Int) - off + m.log2 - kfb k) (-(klm k : Int)) - -(klm k : Int)).toNat = (i + m.log2 + klm k) - (kfb k + off) := by omega
    have e2 : ((i : Int) - off - max ((i : Int) - off + m.log2 - kfb k) (-(klm k : Int))).toNat = (i + klm k) - ((i + m.log2 + klm k) - (kfb k + off) + off) := by omega
    have e3 : (max ((i : Int) - off + m.log2 - kfb k) (-(klm k : Int)) - ((i : Int) - off)).toNat = ((i + m.log2 + klm k) - (kfb k + off) + off) - (i + klm k) := by omega
    rw [e1, e2, e3]
    show (if s = true then ksw k + _ else _) = _
    generalize hd : (i + m.log2 + klm k) - (kfb k + off) = d
    have hd' : ((i.add m.log2).add (klm k)).sub ((kfb k).add off) = d := hd
    rw [hd']
    have hn : m.shiftLeft ((i.add (klm k)).sub (d.add off)) = m <<< (i + klm k - (d + off)) := rfl
    rw [hn]
    have hl : m.log2.add ((i.add (klm k)).sub (d.add off)) = (m <<< (i + klm k - (d + off))).log2 := (log2_shl h0).symm
    rw [hl]
    generalize m <<< (i + klm k - (d + off)) = n
    have hdr : (d.add off).sub (i.add (klm k)) = d + off - (i + klm k) := rfl
    rw [hdr]
    generalize d + off - (i + klm k) = drop
    have hg : (Nat.shiftLeft 1 (if drop.ble n.log2.succ.succ = true then drop else n.log2.succ.succ)) = 1 <<< min drop (n.log2 + 2) := by
      show 1 <<< _ = 1 <<< _
      congr 1
      simp only [Nat.ble_eq]
      show (if drop ≤ n.log2 + 2 then drop else n.log2 + 2) = _
      rw [Nat.min_def]
    rw [hg]
    unfold Ieee.Toward.cut
    simp only
    generalize 1 <<< min drop (n.log2 + 2) = gap
    have hr : (if (Nat.mul 2 (n.mod gap)).ble gap = true then if gap.beq (Nat.mul 2 (n.mod gap)) = true then (n.div gap).add ((n.div gap).mod 2) else n.div gap else (n.div gap).succ) =
        n / gap + (decide (gap < 2 * (n % gap)) || gap == 2 * (n % gap) && n / gap % 2 == 1).toNat := by
      show (if (Nat.ble (2 * (n % gap)) gap) = true then if Nat.beq gap (2 * (n % gap)) = true then (n / gap) + ((n / gap) % 2) else n / gap else (n / gap) + 1) = _
      simp only [Nat.ble_eq, Nat.beq_eq]
      by_cases c1 : 2 * (n % gap) ≤ gap
      · rw [if_pos c1]
        have : decide (gap < 2 * (n % gap)) = false := by simpa using c1
        rw [this, Bool.false_or]
        by_cases c2 : gap = 2 * (n % gap)
        · rw [if_pos c2]
          have : (gap == 2 * (n % gap)) = true := by simpa using c2
          rw [this, Bool.true_and]
          rcases Nat.mod_two_eq_zero_or_one (n / gap) with e | e <;> rw [e] <;> rfl
        · rw [if_neg c2]
          have : (gap == 2 * (n % gap)) = false := by simpa using c2
          rw [this]; rfl
      · rw [if_neg c1]
        have : decide (gap < 2 * (n % gap)) = true := by simp; omega
        rw [this, Bool.true_or]; rfl
    rw [hr]
    generalize n / gap + (decide (gap < 2 * (n % gap)) || gap == 2 * (n % gap) && n / gap % 2 == 1).toNat = kept
    have hm : (if ((d.mul (kbin k)).add kept).ble (kinf k) = true then (d.mul (kbin k)).add kept else kinf k) = min (d * kbin k + kept) (kinf k) := by
      show (if (Nat.ble (d * kbin k + kept) (kinf k)) = true then d * kbin k + kept else kinf k) = _
      simp only [Nat.ble_eq]
      rw [Nat.min_def]
    rw [hm]

noncomputable def kMul (k : FloatKind) (x y : Nat) : Nat := kRead k x (fbin .mul k x y) fun s m i => kRead k y (fbin .mul k x y) fun t n j => kNear k (kB s (kB t false true) t) (Nat.add (kfb k) (kfb k)) (Nat.mul m n) (Nat.add i j) (Nat.mul 2 (klm k))
theorem kMul_eq (k : FloatKind) (x y : Nat) : kMul k x y = fbin .mul k x y := by
  unfold kMul
  rcases kRead_eq k x with ⟨s, m, i, h1, h2⟩ | ⟨_, h2⟩
  · rw [h2]
    rcases kRead_eq k y with ⟨t, n, j, g1, g2⟩ | ⟨_, g2⟩
    · rw [g2, kNear_eq]
      have e : fbin .mul k x y = (((k.decode x).product (k.decode y)).map k.format.write).getD (qnan k) := rfl
      rw [e, h1, g1]
      simp only [Ieee.Datum.product, Option.map_some, Option.getD_some, Ieee.Format.write]
      have hb : kB s (kB t false true) t = (s ^^ t) := by cases s <;> cases t <;> rfl
      rw [hb]
      congr 1
      show ((i + j : Nat) : Int) - ((2 * klm k : Nat) : Int) = _
      omega
    · rw [g2]
  · rw [h2]

/-- A sum; 'o' turns the second one's sign. -/
noncomputable def kSum (k : FloatKind) (o : Bool) (x y : Nat) (fail : Nat) : Nat := kRead k x fail fun s m i => kRead k y fail fun t n j =>
  kN (kB (Nat.ble i j) i j) fun b => kN (Nat.add (kfb k) (Nat.sub (kB (Nat.ble i j) j i) b)) fun h => kN (Nat.shiftLeft m (Nat.sub i b)) fun m => kN (Nat.shiftLeft n (Nat.sub j b)) fun n =>
  kB (kB s (kB o (kB t false true) t) (kB o t (kB t false true)))
    (kNear k s h (Nat.add m n) b (klm k))
    (kB (Nat.beq m n) (kNear k false 0 0 b (klm k)) (kB (Nat.ble m n) (kNear k (kB s false true) (Nat.pred h) (Nat.sub n m) b (klm k)) (kNear k s (Nat.pred h) (Nat.sub m n) b (klm k))))

theorem sum_core (k : FloatKind) (s t o : Bool) (M N : Nat) (pl : Int) : (if (if s = true then if o = true then if t = true then false else true else t else if o = true then t else if t = true then false else true) = true then
      k.format.nearest s (M.add N) pl
    else if M.beq N = true then k.format.nearest false 0 pl
    else if M.ble N = true then k.format.nearest (if s = true then false else true) (N.sub M) pl
    else k.format.nearest s (M.sub N) pl) =
    k.format.nearest (if (if s = true then -(M : Int) else (M : Int)) + (if (t ^^ o) = true then -(N : Int) else (N : Int)) = 0 then s && (t ^^ o) else decide ((if s = true then -(M : Int) else (M : Int)) + (if (t ^^ o) = true then -(N : Int) else (N : Int)) < 0))
      ((if s = true then -(M : Int) else (M : Int)) + (if (t ^^ o) = true then -(N : Int) else (N : Int))).natAbs pl := by
  have hadd : M.add N = M + N := rfl
  rw [hadd]
  cases s <;> cases t <;> cases o <;> simp only [Bool.xor_false, Bool.xor_true, Bool.not_true, Bool.not_false, if_true, if_false, Bool.false_eq_true, Nat.beq_eq, Nat.ble_eq, Bool.and_self, Bool.and_true, Bool.and_false]
  all_goals first
    | (by_cases hz : M + N = 0
       · have e3 : M = 0 := by omega
         have e4 : N = 0 := by omega
         subst e3; subst e4; simp
       · have hz' : ¬ ((M : Int) + N = 0) := by omega
         have hz'' : ¬ (-(M : Int) + -(N : Int) = 0) := by omega
         first
         | (rw [if_neg hz']
            have : ¬ ((M : Int) + N < 0) := by omega
            simp only [this, decide_false]
            congr 1)
         | (rw [if_neg hz'']
            have : (-(M : Int) + -(N : Int) < 0) := by omega
            simp only [this, decide_true]
            congr 1
            omega))
    | (by_cases hz : M = N
       · subst hz
         simp [Int.add_right_neg, Int.add_left_neg]
       · rw [if_neg hz]
         have z1 : ¬ ((M : Int) + -(N : Int) = 0) := by omega
         have z2 : ¬ (-(M : Int) + (N : Int) = 0) := by omega
         by_cases hl : M ≤ N
         · rw [if_pos hl]
           first
           | (rw [if_neg z1]
              have : ((M : Int) + -(N : Int) < 0) := by omega
              simp only [this, decide_true]
              congr 1
              show N - M = _
              omega)
           | (rw [if_neg z2]
              have : ¬ (-(M : Int) + (N : Int) < 0) := by omega
              simp only [this, decide_false]
              congr 1
              show N - M = _
              omega)
         · rw [if_neg hl]
           first
           | (rw [if_neg z1]
              have : ¬ ((M : Int) + -(N : Int) < 0) := by omega
              simp only [this, decide_false]
              congr 1
              show M - N = _
              omega)
           | (rw [if_neg z2]
              have : (-(M : Int) + (N : Int) < 0) := by omega
              simp only [this, decide_true]
              congr 1
              show M - N = _
              omega))

theorem kSum_eq (k : FloatKind) (o : Bool) (x y : Nat) (fail : Nat) : (∃ s m i t n j, k.decode x = .number s m i ∧ k.decode y = .number t n j ∧ kSum k o x y fail = (((Ieee.Datum.number s m i).sum (.number (t ^^ o) n j)).map k.format.write).getD (qnan k)) ∨ kSum k o x y fail = fail := by
  unfold kSum
  rcases kRead_eq k x with ⟨s, m, i, h1, h2⟩ | ⟨_, h2⟩
  · rcases kRead_eq k y with ⟨t, n, j, g1, g2⟩ | ⟨_, g2⟩
    · left
      refine ⟨s, m, _, t, n, _, h1, g1, ?_⟩
      rw [h2, g2]
      simp only [kN_eq, kB_eq, kNear_eq, Ieee.Datum.sum, Option.map_some, Option.getD_some, Ieee.Format.write]
      have hb : (if Nat.ble i j = true then i else j) = min i j := by simp only [Nat.ble_eq]; rw [Nat.min_def]
      rw [hb]
      have hm : min ((i : Int) - klm k) ((j : Int) - klm k) = ((min i j : Nat) : Int) - klm k := by omega
      rw [hm]
      have e1 : ((i : Int) - klm k - (((min i j : Nat) : Int) - klm k)).toNat = i - min i j := by omega
      have e2 : ((j : Int) - klm k - (((min i j : Nat) : Int) - klm k)).toNat = j - min i j := by omega
      rw [e1, e2]
      have hs : m.shiftLeft (i.sub (min i j)) = m <<< (i - min i j) := rfl
      have hs' : n.shiftLeft (j.sub (min i j)) = n <<< (j - min i j) := rfl
      rw [hs, hs']
      exact sum_core k s t o _ _ _
    · right; rw [h2, g2]
  · right; rw [h2]

noncomputable def kAdd (k : FloatKind) (x y : Nat) : Nat := kSum k false x y (fbin .add k x y)
noncomputable def kSub (k : FloatKind) (x y : Nat) : Nat := kSum k true x y (fbin .sub k x y)
theorem kAdd_eq (k : FloatKind) (x y : Nat) : kAdd k x y = fbin .add k x y := by
  unfold kAdd
  rcases kSum_eq k false x y (fbin .add k x y) with ⟨s, m, i, t, n, j, h1, h2, h3⟩ | h
  · rw [h3]
    have e : fbin .add k x y = (((k.decode x).sum (k.decode y)).map k.format.write).getD (qnan k) := rfl
    rw [e, h1, h2, Bool.xor_false]
  · exact h
theorem kSub_eq (k : FloatKind) (x y : Nat) : kSub k x y = fbin .sub k x y := by
  unfold kSub
  rcases kSum_eq k true x y (fbin .sub k x y) with ⟨s, m, i, t, n, j, h1, h2, h3⟩ | h
  · rw [h3]
    have e : fbin .sub k x y = (((k.decode x).sum (k.decode y).opposite).map k.format.write).getD (qnan k) := rfl
    rw [e, h1, h2, Bool.xor_true]; rfl
  · exact h

noncomputable def kDiv (k : FloatKind) (x y : Nat) : Nat := kRead k x (fbin .quo k x y) fun s m i => kRead k y (fbin .quo k x y) fun t n j =>
  kB (Nat.beq n 0) (fbin .quo k x y)
    (kN (Nat.sub (Nat.add (Nat.add (kfb k) 2) (kLg (kfb k) n)) (kLg (kfb k) m)) fun more =>
     kN (Nat.shiftLeft m more) fun dd =>
     kNear k (kB s (kB t false true) t) (Nat.add (kfb k) 2) (Nat.add (Nat.mul 2 (Nat.div dd n)) (kB (Nat.beq (Nat.mod dd n) 0) 0 1)) i (Nat.succ (Nat.add j more)))
theorem kDiv_eq (k : FloatKind) (x y : Nat) : kDiv k x y = fbin .quo k x y := by
  unfold kDiv
  rcases kRead_eq k x with ⟨s, m, i, h1, h2⟩ | ⟨_, h2⟩
  · rw [h2]
    rcases kRead_eq k y with ⟨t, n, j, g1, g2⟩ | ⟨_, g2⟩
    · rw [g2, kB_eq]
      by_cases hn : n = 0
      · rw [if_pos (by simpa using hn)]
      · rw [if_neg (by simpa using hn)]
        simp only [kN_eq, kNear_eq, kLg_eq]
        have e : fbin .quo k x y = (((k.decode x).quotient (k.format.fractionBits + 2) (k.decode y)).map k.format.write).getD (qnan k) := rfl
        rw [e, h1, g1, fb_eq]
        simp only [Ieee.Datum.quotient]
        rw [if_neg hn]
        simp only [Option.map_some, Option.getD_some, Ieee.Format.write]
        have hb : kB s (kB t false true) t = (s ^^ t) := by cases s <;> cases t <;> rfl
        rw [hb]
        have hmore : ((kfb k).add 2 |>.add n.log2).sub m.log2 = kfb k + 2 + n.log2 - m.log2 := rfl
        rw [hmore]
        generalize kfb k + 2 + n.log2 - m.log2 = more
        have hdd : m.shiftLeft more = m <<< more := rfl
        rw [hdd]
        generalize m <<< more = dd
        congr 1
        · show 2 * (dd / n) + kB (Nat.beq (dd % n) 0) 0 1 = _
          congr 1
          rw [kB_eq]
          by_cases hz : dd % n = 0
          · rw [hz]; rfl
          · rw [if_neg (by simpa using hz)]
            have : (dd % n != 0) = true := by simpa using hz
            rw [this]; rfl
        · show (i : Int) - ((j + more + 1 : Nat) : Int) = _
          omega
    · rw [g2]
  · rw [h2]

/-- One kind as another. -/
noncomputable def kCv (s k : FloatKind) (x : Nat) (fail : Option Nat) : Option Nat := kRead s x fail fun sg m i => kN (kNear k sg (kfb s) m i (klm s)) fun r => kB (Nat.beq (Nat.mod r (ksw k)) (kinf k)) none (some r)
theorem kCv_eq (s k : FloatKind) (x : Nat) (hsk : s ≠ k) (fail : Option Nat) : kCv s k x fail = fail ∨ ((s.decode x).isNaN = false ∧ kCv s k x fail = floatToFloatBits s x k) := by
  unfold kCv
  rcases kRead_eq s x with ⟨sg, m, i, h1, h2⟩ | ⟨_, h2⟩
  · right
    rw [h2, kN_eq, kNear_eq, kB_eq, h1]
    refine ⟨rfl, ?_⟩
    unfold floatToFloatBits
    rw [if_neg hsk, h1]
    simp only
    have e : k.encode (.number sg m ((i : Int) - (klm s : Int))) = k.format.nearest sg m ((i : Int) - (klm s : Int)) := rfl
    rw [e]
    generalize k.format.nearest sg m ((i : Int) - (klm s : Int)) = r
    have : (k.decode r).isInfinity = Nat.beq (r.mod (ksw k)) (kinf k) := by
      have hbi : kbin k ≤ kinf k := by cases k <;> decide
      unfold FloatKind.decode Ieee.Format.read
      simp only [sw_eq, bin_eq, inf_eq]
      show _ = Nat.beq (r % ksw k) (kinf k)
      split
      · rename_i h; rw [Bool.eq_iff_iff]; simp [Ieee.Datum.isInfinity]; omega
      · split
        · rename_i h; rw [Bool.eq_iff_iff]; simp [Ieee.Datum.isInfinity]; omega
        · split
          · rename_i h; rw [Bool.eq_iff_iff]; simp [Ieee.Datum.isInfinity, h]
          · rename_i h; rw [Bool.eq_iff_iff]; simp [Ieee.Datum.isInfinity]; omega
    rw [this]
  · left; rw [h2]

noncomputable def kOfInt (k : FloatKind) (n : Int) : Nat := @Int.rec (fun _ => Nat) (fun n => kNear k false 2 n 0 0) (fun n => kNear k true 2 (Nat.succ n) 0 0) n
theorem kOfInt_eq (k : FloatKind) (n : Int) : kOfInt k n = k.nearest n := by
  cases n with
  | ofNat n =>
    show kNear k false 2 n 0 0 = _
    rw [kNear_eq]
    have : k.nearest (Int.ofNat n) = k.format.nearest (decide (Int.ofNat n < 0)) n 0 := rfl
    rw [this]; simp; rfl
  | negSucc n =>
    show kNear k true 2 (Nat.succ n) 0 0 = _
    rw [kNear_eq]
    have : k.nearest (Int.negSucc n) = k.format.nearest (decide (Int.negSucc n < 0)) (n + 1) 0 := rfl
    rw [this]
    have e : decide (Int.negSucc n < 0) = true := by simp
    rw [e]; simp

noncomputable def kCmp (m n : Nat) : Ordering := kB (Nat.beq m n) .eq (kB (Nat.ble m n) .lt .gt)
theorem kCmp_eq (m n : Nat) : kCmp m n = compare (m : Int) (n : Int) := by
  unfold kCmp
  simp only [kB_eq, Nat.beq_eq, Nat.ble_eq, compare, compareOfLessAndEq]
  by_cases h : m = n
  · subst h; simp
  · rw [if_neg h]
    by_cases h' : m ≤ n
    · rw [if_pos h', if_pos (by omega)]
    · rw [if_neg h', if_neg (by omega), if_neg (by omega)]
theorem compare_neg (m n : Nat) : compare (-(m : Int)) (-(n : Int)) = compare (n : Int) (m : Int) := by
  simp only [compare, compareOfLessAndEq]
  by_cases h : m = n
  · subst h; simp
  · by_cases h' : n < m
    · rw [if_pos (by omega), if_pos (by omega)]
    · rw [if_neg (by omega), if_neg (by omega), if_neg (by omega), if_neg (by omega)]

noncomputable def kOrd (k : FloatKind) (x y : Nat) : Option Ordering := kRead k x (k.format.order x y) fun s m i => kRead k y (k.format.order x y) fun t n j =>
  kN (kB (Nat.ble i j) i j) fun b => kN (Nat.shiftLeft m (Nat.sub i b)) fun m => kN (Nat.shiftLeft n (Nat.sub j b)) fun n =>
  some (kB s (kB t (kCmp n m) (kB (Nat.beq (Nat.add m n) 0) .eq .lt)) (kB t (kB (Nat.beq (Nat.add m n) 0) .eq .gt) (kCmp m n)))
theorem kOrd_eq (k : FloatKind) (x y : Nat) : kOrd k x y = k.format.order x y := by
  unfold kOrd
  rcases kRead_eq k x with ⟨s, m, i, h1, h2⟩ | ⟨_, h2⟩
  · rw [h2]
    rcases kRead_eq k y with ⟨t, n, j, g1, g2⟩ | ⟨_, g2⟩
    · rw [g2]
      have e : k.format.order x y = (k.decode x).order (k.decode y) := rfl
      rw [e, h1, g1]
      simp only [kN_eq, kB_eq, kCmp_eq, Ieee.Datum.order]
      have hb : (if Nat.ble i j = true then i else j) = min i j := by simp only [Nat.ble_eq]; rw [Nat.min_def]
      rw [hb]
      have hm : min ((i : Int) - klm k) ((j : Int) - klm k) = ((min i j : Nat) : Int) - klm k := by omega
      rw [hm]
      have e1 : ((i : Int) - klm k - (((min i j : Nat) : Int) - klm k)).toNat = i - min i j := by omega
      have e2 : ((j : Int) - klm k - (((min i j : Nat) : Int) - klm k)).toNat = j - min i j := by omega
      rw [e1, e2]
      have hs : m.shiftLeft (i.sub (min i j)) = m <<< (i - min i j) := rfl
      have hs' : n.shiftLeft (j.sub (min i j)) = n <<< (j - min i j) := rfl
      rw [hs, hs']
      simp only [Ieee.signed]
      generalize m <<< (i - min i j) = M
      generalize n <<< (j - min i j) = N
      congr 1
      have z : ∀ a b : Nat, (Nat.beq (a.add b) 0 = true) = (a + b = 0) := fun a b => by
        show (Nat.beq (a + b) 0 = true) = _
        simp only [Nat.beq_eq]
      cases s <;> cases t <;> simp only [if_true, if_false, Bool.false_eq_true, z, compare_neg]
      · by_cases hz : M + N = 0
        · rw [if_pos hz]
          have : M = 0 := by omega
          have : N = 0 := by omega
          subst_vars; rfl
        · rw [if_neg hz]
          simp only [compare, compareOfLessAndEq]
          rw [if_neg (by omega), if_neg (by omega)]
      · by_cases hz : M + N = 0
        · rw [if_pos hz]
          have : M = 0 := by omega
          have : N = 0 := by omega
          subst_vars; rfl
        · rw [if_neg hz]
          simp only [compare, compareOfLessAndEq]
          rw [if_pos (by omega)]
    · rw [g2]
  · rw [h2]

noncomputable def kNeg (k : FloatKind) (x : Nat) : Nat := kRead k x (fneg k x) fun _ _ _ => Nat.xor x (ksw k)
theorem kNeg_eq (k : FloatKind) (x : Nat) : kNeg k x = fneg k x := by
  unfold kNeg
  rcases kRead_eq k x with ⟨s, m, i, h1, h2⟩ | ⟨_, h2⟩
  · rw [h2]
    unfold fneg Op.negFloat
    rw [h1]
    have : 2 ^ (k.format.exponentBits + k.format.fractionBits) = ksw k := by cases k <;> rfl
    rw [this]; rfl
  · rw [h2]

end Go.Vc

/- The interpreter once more, made for the kernel: the same answers, by fewer steps. -/
set_option linter.unusedVariables false
namespace Go.Vc
open Go

section
variable {α : Type}

noncomputable def kGet (p : Pth) : T → AV := @Pth.rec (fun _ => T → AV)
  (fun t => @T.rec (fun _ => AV) .u (fun v _ _ _ _ => v) t)
  (fun _ ih t => ih (@T.rec (fun _ => T) .e (fun _ l _ _ _ => l) t))
  (fun _ ih t => ih (@T.rec (fun _ => T) .e (fun _ _ r _ _ => r) t)) p
theorem T.get_e (p : Pth) : T.get .e p = .u := by cases p <;> simp [T.get]
theorem kGet_eq : ∀ (p : Pth) (t : T), kGet p t = t.get p
  | .e, t => by cases t <;> simp only [T.get] <;> rfl
  | .l p, t => by
    cases t
    · exact (kGet_eq p .e).trans (by simp only [T.get_e])
    · rename_i v l r; exact (kGet_eq p l).trans (by simp only [T.get])
  | .r p, t => by
    cases t
    · exact (kGet_eq p .e).trans (by simp only [T.get_e])
    · rename_i v l r; exact (kGet_eq p r).trans (by simp only [T.get])

noncomputable def kSet (p : Pth) : T → AV → (T → Option α) → Option α := @Pth.rec (fun _ => T → AV → (T → Option α) → Option α)
  (fun t v k => @T.rec (fun _ => Option α) (k (.n v .e .e)) (fun _ l r _ _ => k (.n v l r)) t)
  (fun _ ih t v k => @T.rec (fun _ => Option α) (ih .e v fun l => k (.n .u l .e)) (fun w l r _ _ => ih l v fun l => k (.n w l r)) t)
  (fun _ ih t v k => @T.rec (fun _ => Option α) (ih .e v fun r => k (.n .u .e r)) (fun w l r _ _ => ih r v fun r => k (.n w l r)) t) p
theorem kSet_eq : ∀ (p : Pth) (t : T) (v : AV) (k : T → Option α), kSet p t v k = k (t.set p v)
  | .e, t, v, k => by cases t <;> rfl
  | .l p, t, v, k => by
    cases t
    · exact kSet_eq p .e v fun l => k (.n .u l .e)
    · rename_i w l r; exact kSet_eq p l v fun l => k (.n w l r)
  | .r p, t, v, k => by
    cases t
    · exact kSet_eq p .e v fun r => k (.n .u .e r)
    · rename_i w l r; exact kSet_eq p r v fun r => k (.n w l r)

noncomputable def kOd (x : Od) (t : T) : AV := @Od.rec (fun _ => AV) (fun p => kGet p t) (fun v => v) x
theorem kOd_eq (x : Od) (t : T) : kOd x t = x.ev t := by cases x <;> first | exact kGet_eq _ _ | rfl

noncomputable def kSpine {β : Type} (l : List β) : (List β → Option α) → Option α := @List.rec β (fun _ => (List β → Option α) → Option α) (fun f => f []) (fun x _ ih f => ih fun xs => f (x :: xs)) l
theorem kSpine_eq {β : Type} : ∀ (l : List β) (f : List β → Option α), kSpine l f = f l
  | [], f => rfl
  | x :: xs, f => kSpine_eq xs fun xs => f (x :: xs)

/-- The list with one more behind. -/
noncomputable def kSnoc {β : Type} (l : List β) (y : β) : (List β → Option α) → Option α := @List.rec β (fun _ => (List β → Option α) → Option α) (fun f => f [y]) (fun x _ ih f => ih fun xs => f (x :: xs)) l
theorem kSnoc_eq {β : Type} (y : β) : ∀ (l : List β) (f : List β → Option α), kSnoc l y f = f (l ++ [y])
  | [], f => rfl
  | x :: xs, f => kSnoc_eq y xs fun xs => f (x :: xs)
noncomputable def kApp {β : Type} (l ys : List β) : (List β → Option α) → Option α := @List.rec β (fun _ => (List β → Option α) → Option α) (fun f => kSpine ys f) (fun x _ ih f => ih fun xs => f (x :: xs)) l
theorem kApp_eq {β : Type} (y : List β) : ∀ (l : List β) (f : List β → Option α), kApp l y f = f (l ++ y)
  | [], f => kSpine_eq y f
  | x :: xs, f => kApp_eq y xs fun xs => f (x :: xs)

noncomputable def kNth {β : Type} (l : List β) : Nat → Option β := @List.rec β (fun _ => Nat → Option β) (fun _ => none) (fun x _ ih n => @Nat.rec (fun _ => Option β) (some x) (fun m _ => ih m) n) l
theorem kNth_eq {β : Type} : ∀ (l : List β) (n : Nat), kNth l n = l[n]?
  | [], n => rfl
  | x :: xs, 0 => rfl
  | x :: xs, n + 1 => (kNth_eq xs n).trans (by simp)

noncomputable def kLen {β : Type} (l : List β) : Nat := @List.rec β (fun _ => Nat → Nat) (fun n => n) (fun _ _ ih n => ih (Nat.succ n)) l 0
theorem kLen_aux {β : Type} : ∀ (l : List β) (n : Nat), @List.rec β (fun _ => Nat → Nat) (fun n => n) (fun _ _ ih n => ih (Nat.succ n)) l n = l.length + n
  | [], n => by simp
  | x :: xs, n => by rw [show @List.rec β (fun _ => Nat → Nat) (fun n => n) (fun _ _ ih n => ih (Nat.succ n)) (x :: xs) n = @List.rec β (fun _ => Nat → Nat) (fun n => n) (fun _ _ ih n => ih (Nat.succ n)) xs (n + 1) from rfl, kLen_aux xs]; simp; omega
theorem kLen_eq {β : Type} (l : List β) : kLen l = l.length := kLen_aux l 0

noncomputable def kCell {β : Type} (l : List β) : Nat → β → (List β → Option α) → Option α := @List.rec β (fun _ => Nat → β → (List β → Option α) → Option α) (fun _ _ _ => none)
  (fun x xs ih n v f => @Nat.rec (fun _ => Option α) (f (v :: xs)) (fun m _ => ih m v fun xs => f (x :: xs)) n) l
theorem kCell_eq {β : Type} : ∀ (l : List β) (n : Nat) (v : β) (f : List β → Option α), kCell l n v f = setCellK l n v f
  | [], n, v, f => by simp [setCellK]; rfl
  | x :: xs, 0, v, f => by simp [setCellK]; rfl
  | x :: xs, n + 1, v, f => by simp only [setCellK]; exact kCell_eq xs n v fun xs => f (x :: xs)

noncomputable def kNat (x : Nat) (f : Nat → Option α) : Option α := @Nat.rec (fun _ => Option α) (f 0) (fun n _ => f (Nat.succ n)) x
theorem kNat_eq (x : Nat) (f : Nat → Option α) : kNat x f = f x := by cases x <;> rfl
noncomputable def kInt (x : Int) (f : Int → Option α) : Option α := @Int.rec (fun _ => Option α) (fun n => kNat n fun n => f (.ofNat n)) (fun n => kNat n fun n => f (.negSucc n)) x
theorem kInt_eq (x : Int) (f : Int → Option α) : kInt x f = f x := by
  cases x with
  | ofNat n => exact kNat_eq n fun n => f (.ofNat n)
  | negSucc n => exact kNat_eq n fun n => f (.negSucc n)

/-- Worked out at its head. -/
noncomputable def kHd (x : AV) (f : AV → Option α) : Option α := match x with
  | .u => f .u
  | .b x => f (.b x)
  | .i k n => f (.i k n)
  | .f k n => f (.f k n)
  | .c k x y => f (.c k x y)
  | .s x => f (.s x)
  | .p k o => f (.p k o)
  | .sl k o n c => f (.sl k o n c)
  | .np => f .np
  | .ns => f .ns
  | .ag xs => f (.ag xs)
  | .tu xs => f (.tu xs)
  | .fn g xs => f (.fn g xs)
theorem kHd_eq (x : AV) (f : AV → Option α) : kHd x f = f x := by cases x <;> rfl
noncomputable def kHds (l : List AV) : (List AV → Option α) → Option α := @List.rec AV (fun _ => (List AV → Option α) → Option α) (fun f => f []) (fun x _ ih f => kHd x fun x => ih fun xs => f (x :: xs)) l
theorem kHds_eq : ∀ (l : List AV) (f : List AV → Option α), kHds l f = f l
  | [], f => rfl
  | x :: xs, f => (kHd_eq x fun x => kHds xs fun xs => f (x :: xs)).trans (kHds_eq xs fun xs => f (x :: xs))

/-- Worked out: a value that is no struct. -/
noncomputable def kSc (x : AV) (f : AV → Option α) : Option α :=
  match x with
  | .f k x => kNat x fun x => f (.f k x)
  | .i k n => kInt n fun n => f (.i k n)
  | .c k x y => kNat x fun x => kNat y fun y => f (.c k x y)
  | .b x => @Bool.rec (fun _ => Option α) (f (.b false)) (f (.b true)) x
  | .p k o => kNat k fun k => kNat o fun o => f (.p k o)
  | .sl k o n c => kNat k fun k => kNat o fun o => kNat n fun n => f (.sl k o n c)
  | x => f x
theorem kSc_eq (x : AV) (f : AV → Option α) : kSc x f = f x := by
  cases x <;> simp only [kSc, kNat_eq, kInt_eq]
  rename_i b; cases b <;> rfl
noncomputable def kScs (l : List AV) : (List AV → Option α) → Option α := @List.rec AV (fun _ => (List AV → Option α) → Option α) (fun f => f []) (fun x _ ih f => kSc x fun x => ih fun xs => f (x :: xs)) l
theorem kScs_eq : ∀ (l : List AV) (f : List AV → Option α), kScs l f = f l
  | [], f => rfl
  | x :: xs, f => (kSc_eq x fun x => kScs xs fun xs => f (x :: xs)).trans (kScs_eq xs fun xs => f (x :: xs))
noncomputable def kAV (x : AV) (f : AV → Option α) : Option α :=
  match x with
  | .ag xs => kScs xs fun xs => f (.ag xs)
  | .tu xs => kScs xs fun xs => f (.tu xs)
  | .fn g xs => kScs xs fun xs => f (.fn g xs)
  | x => kSc x f
theorem kAV_eq (x : AV) (f : AV → Option α) : kAV x f = f x := by
  cases x <;> simp only [kAV, kScs_eq, kSc_eq]

noncomputable def kPut (v : Option AV) (H : Hp) (k : AV → Hp → Option α) : Option α := @Option.rec AV (fun _ => Option α) none (fun v => kAV v fun v => k v H) v
theorem kPut_eq (v : Option AV) (H : Hp) (k : AV → Hp → Option α) : kPut v H k = putK v H k := by
  cases v with
  | none => rfl
  | some v => exact (kAV_eq v fun v => k v H).trans (forceAV_eq v fun v => k v H).symm

noncomputable def kIf (b : Bool) (x y : Option α) : Option α := @Bool.rec (fun _ => Option α) y x b
theorem kIf_eq (b : Bool) (x y : Option α) : kIf b x y = if b then x else y := by cases b <;> rfl

noncomputable def kEvs (t : T) (l : List Od) : List AV := @List.rec Od (fun _ => List AV) [] (fun x _ ih => kOd x t :: ih) l
theorem kEvs_eq (t : T) : ∀ l : List Od, kEvs t l = evs t l
  | [] => rfl
  | x :: xs => by simp only [evs]; rw [← kEvs_eq t xs, ← kOd_eq]; rfl
noncomputable def kParts (t : T) (l : List (Nat × Nat × Od)) : List (Nat × Nat × AV) := @List.rec (Nat × Nat × Od) (fun _ => List (Nat × Nat × AV)) [] (fun x _ ih => (x.1, x.2.1, kOd x.2.2 t) :: ih) l
theorem kParts_eq (t : T) : ∀ l : List (Nat × Nat × Od), kParts t l = evParts t l
  | [] => rfl
  | (a, b, x) :: xs => by simp only [evParts]; rw [← kParts_eq t xs, ← kOd_eq]; rfl


/-! ### operators -/
def isEqO (c : Option Ordering) : Bool := match c with
  | some .eq => true
  | _ => false
def isLtO (c : Option Ordering) : Bool := match c with
  | some .lt => true
  | _ => false
def isGtO (c : Option Ordering) : Bool := match c with
  | some .gt => true
  | _ => false
def kFlC (op : BinOp) (c : Option Ordering) : Option Bool := match op with
  | .eql => some (isEqO c)
  | .neq => some (!isEqO c)
  | .lss => some (isLtO c)
  | .leq => some (isLtO c || isEqO c)
  | .gtr => some (isGtO c)
  | .geq => some (isGtO c || isEqO c)
  | _ => none
theorem kFlC_eq (op : BinOp) (k : FloatKind) (x y : Nat) : kFlC op (kOrd k x y) = flCmp op k x y := by
  rw [kOrd_eq]
  unfold flCmp
  generalize k.format.order x y = c
  rcases c with _ | c
  · cases op <;> rfl
  · cases c <;> cases op <;> rfl

def fk2 (k k' : FloatKind) : Bool := match k, k' with
  | .f32, .f32 => true
  | .f64, .f64 => true
  | _, _ => false
theorem fk2_eq (k k' : FloatKind) : (fk2 k k' = true) = (k = k') := by cases k <;> cases k' <;> simp [fk2]

noncomputable def kLt (a b : Int) : Bool := @Int.rec (fun _ => Bool) (fun m => @Int.rec (fun _ => Bool) (fun n => Nat.ble (Nat.succ m) n) (fun _ => false) b) (fun m => @Int.rec (fun _ => Bool) (fun _ => true) (fun n => Nat.ble (Nat.succ n) m) b) a
theorem kLt_eq (a b : Int) : kLt a b = decide (a < b) := by
  rw [Bool.eq_iff_iff]
  cases a <;> cases b <;> simp only [kLt, decide_eq_true_eq, Nat.ble_eq] <;> simp <;> omega
noncomputable def kEqI (a b : Int) : Bool := @Int.rec (fun _ => Bool) (fun m => @Int.rec (fun _ => Bool) (fun n => Nat.beq m n) (fun _ => false) b) (fun m => @Int.rec (fun _ => Bool) (fun _ => false) (fun n => Nat.beq n m) b) a
theorem kEqI_eq (a b : Int) : kEqI a b = decide (a = b) := by
  rw [Bool.eq_iff_iff]
  cases a <;> cases b <;> simp only [kEqI, decide_eq_true_eq, Nat.beq_eq] <;> simp <;> omega

def ik2 (k k' : IntKind) : Bool := match k, k' with
  | .i64, .i64 => true
  | k, k' => decide (k = k')
theorem ik2_eq (k k' : IntKind) : (ik2 k k' = true) = (k = k') := by
  unfold ik2
  split
  · simp
  · simp

noncomputable def kIntB (op : BinOp) (sh : Option Shape) (k k' : IntKind) (a b : Int) : Option AV := match op with
  | .lss => kB (ik2 k k') (some (.b (kLt a b))) none
  | .gtr => kB (ik2 k k') (some (.b (kLt b a))) none
  | .leq => kB (ik2 k k') (some (.b (kB (kLt b a) false true))) none
  | .geq => kB (ik2 k k') (some (.b (kB (kLt a b) false true))) none
  | .eql => kB (ik2 k k') (some (.b (kEqI a b))) none
  | .neq => kB (ik2 k k') (some (.b (kB (kEqI a b) false true))) none
  | op => bin op sh (.i k a) (.i k' b)
noncomputable def kFlB (op : BinOp) (k : FloatKind) (a b : Nat) : Option AV := match op with
  | .add => some (.f k (kAdd k a b))
  | .sub => some (.f k (kSub k a b))
  | .mul => some (.f k (kMul k a b))
  | .quo => some (.f k (kDiv k a b))
  | op => (kFlC op (kOrd k a b)).map .b
noncomputable def kBin (op : BinOp) (sh : Option Shape) (x y : AV) : Option AV := match x with
  | .i k a => match y with
    | .i k' b => kIntB op sh k k' a b
    | y => bin op sh (.i k a) y
  | .f k a => match y with
    | .f k' b => kB (fk2 k k') (kFlB op k a b) none
    | y => bin op sh (.f k a) y
  | .c k a b => match y with
    | .c k' a' b' => kB (fk2 k k') (match op with
      | .add => some (.c k (kAdd k a a') (kAdd k b b'))
      | .sub => some (.c k (kSub k a a') (kSub k b b'))
      | op => bin op sh (.c k a b) (.c k' a' b')) none
    | y => bin op sh (.c k a b) y
  | x => bin op sh x y
theorem kIntB_eq (op : BinOp) (sh : Option Shape) (k k' : IntKind) (a b : Int) : kIntB op sh k k' a b = bin op sh (.i k a) (.i k' b) := by
  have h1 : ∀ x : Bool, (if x = true then false else true) = !x := fun x => by cases x <;> rfl
  have e1 : (!decide (b < a)) = decide (a ≤ b) := by rw [← decide_not]; simp
  have e2 : (!decide (a < b)) = decide (b ≤ a) := by rw [← decide_not]; simp
  cases op <;> simp only [kIntB, kB_eq, ik2_eq, kLt_eq, kEqI_eq, bin, intBin, h1, e1, e2] <;> simp
theorem kFlB_eq (op : BinOp) (sh : Option Shape) (k : FloatKind) (a b : Nat) : kFlB op k a b = bin op sh (.f k a) (.f k b) := by
  cases op <;> simp [kFlB, bin, kAdd_eq, kSub_eq, kMul_eq, kDiv_eq, kFlC_eq]
theorem kBin_eq (op : BinOp) (sh : Option Shape) (x y : AV) : kBin op sh x y = bin op sh x y := by
  cases x <;> simp only [kBin]
  · cases y <;> simp only [kIntB_eq]
  · cases y <;> simp only
    rename_i k a k' b
    rw [kB_eq]; simp only [fk2_eq]
    by_cases h : k = k'
    · subst h; rw [if_pos rfl, kFlB_eq (sh := sh)]
    · rw [if_neg h]; simp [bin, h]
  · cases y <;> simp only
    rename_i k a b k' a' b'
    rw [kB_eq]; simp only [fk2_eq]
    by_cases h : k = k'
    · subst h; rw [if_pos rfl]
      cases op <;> simp [bin, kAdd_eq, kSub_eq]
    · rw [if_neg h]; simp [bin, h]

noncomputable def kConv (sh : Shape) (x : AV) : Option AV := match sh with
  | .float k => match x with
    | .i _ n => some (.f k (kOfInt k n))
    | .f s a => kB (fk2 s k) (some (.f k a)) (@Option.rec Nat (fun _ => Option AV) (conv default { (default : TI) with shape := .float k } (.f s a)) (fun r => some (.f k r)) (kCv s k a none))
    | x => conv default { (default : TI) with shape := .float k } x
  | sh => conv default { (default : TI) with shape := sh } x
theorem kConv_eq (sh : Shape) (x : AV) : kConv sh x = conv default { (default : TI) with shape := sh } x := by
  cases sh <;> simp only [kConv]
  rename_i k
  cases x <;> simp only
  · simp [conv, kOfInt_eq]
  · rename_i s a
    rw [kB_eq]; simp only [fk2_eq]
    by_cases h : s = k
    · subst h; rw [if_pos rfl]; simp [conv]
    · rw [if_neg h]
      rcases kCv_eq s k a h none with e | ⟨e1, e2⟩
      · rw [e]
      · rw [e2]
        cases hf : floatToFloatBits s a k with
        | none => rfl
        | some r => simp [conv, h, e1, hf]

noncomputable def kUn (op : UnOp) (x : AV) : Option AV := match op with
  | .neg => match x with
    | .f k a => some (.f k (kNeg k a))
    | x => un .neg x
  | op => un op x
theorem kUn_eq (op : UnOp) (x : AV) : kUn op x = un op x := by
  cases op <;> simp only [kUn]
  cases x <;> simp only
  simp [un, kNeg_eq]

/-! one operation each -/
end
section
variable {α : Type}
noncomputable def rMov (x : Od) (call : CallE) (t : T) (H : Hp) (k : AV → Hp → Option α) : Option α := kHd (kOd x t) fun v => k v H
noncomputable def rPick (c x y : Od) (call : CallE) (t : T) (H : Hp) (k : AV → Hp → Option α) : Option α := match kOd c t with
  | .b b => kIf b (kHd (kOd x t) fun v => k v H) (kHd (kOd y t) fun v => k v H)
  | _ => none
noncomputable def rAlloc (e : TypeId) (z : List AV) (call : CallE) (t : T) (H : Hp) (k : AV → Hp → Option α) : Option α := kNat (kLen H) fun n => kSnoc H ⟨e, false, z⟩ fun H' => k (.p n 0) H'
noncomputable def rBox (e : TypeId) (n : Nat) (x : Od) (call : CallE) (t : T) (H : Hp) (k : AV → Hp → Option α) : Option α := match kOd x t with
  | .ag cs => kIf (Nat.beq (kLen cs) n) (kNat (kLen H) fun b => kSnoc H ⟨e, false, cs⟩ fun H' => k (.p b 0) H') none
  | .u => none
  | v => kIf (Nat.beq 1 n) (kNat (kLen H) fun b => kSnoc H ⟨e, false, [v]⟩ fun H' => k (.p b 0) H') none
noncomputable def rBuild (z : List AV) (parts : List (Nat × Nat × Od)) (call : CallE) (t : T) (H : Hp) (k : AV → Hp → Option α) : Option α := kPut ((fillP z (kParts t parts)).map .ag) H k
noncomputable def rBslice (e : TypeId) (n len : Nat) (parts : List (Nat × Nat × Od)) (call : CallE) (t : T) (H : Hp) (k : AV → Hp → Option α) : Option α := match fillP (List.replicate n .u) (kParts t parts) with
  | some cs => kScs cs fun cs => kNat (kLen H) fun b => kSnoc H ⟨e, false, cs⟩ fun H' => k (.sl b 0 len .own) H'
  | none => none
noncomputable def rMslice (e : TypeId) (bytes : Nat) (z : List AV) (l c : Od) (call : CallE) (t : T) (H : Hp) (k : AV → Hp → Option α) : Option α := match kOd l t, kOd c t with
  | .i _ (.ofNat n), .i _ (.ofNat m) => if n = m ∧ n ≤ 16777216 ∧ bytes * n ≤ 281474976710656 then kNat (kLen H) fun b => kSpine (zeros n z) fun cs => kSnoc H ⟨e, false, cs⟩ fun H' => k (.sl b 0 n .own) H' else none
  | _, _ => none
noncomputable def rLoad (x : Od) (agg : Bool) (n : Nat) (call : CallE) (t : T) (H : Hp) (k : AV → Hp → Option α) : Option α := match kOd x t with
  | .p b o => match kNth H b with
    | some bl => kIf agg (kIf (Nat.ble (o + n) (kLen bl.cells)) (kPut (some (.ag ((bl.cells.drop o).take n))) H k) none) (match kNth bl.cells o with
      | some v => k v H
      | none => none)
    | none => none
  | _ => none
noncomputable def kStore (n : Nat) (b o : Nat) (v : AV) (H : Hp) (k : AV → Hp → Option α) : Option α :=
  match kNth H b with
  | none => none
  | some bl => kIf bl.ro none (match v with
    | .ag xs => if xs.length = n ∧ o + n ≤ bl.cells.length ∧ xs.all AV.isCell = true then kSpine (splice bl.cells o xs) fun cs => kCell H b ⟨bl.ty, false, cs⟩ fun H' => k .u H' else none
    | v => kIf (Nat.beq n 1 && v.isCell) (kCell bl.cells o v fun cs => kCell H b ⟨bl.ty, false, cs⟩ fun H' => k .u H') none)
noncomputable def rStore (x v : Od) (n : Nat) (call : CallE) (t : T) (H : Hp) (k : AV → Hp → Option α) : Option α := match kOd x t with
  | .p b o => kHd (kOd v t) fun v => kStore n b o v H k
  | _ => none
noncomputable def rNilc (x : Od) (call : CallE) (t : T) (H : Hp) (k : AV → Hp → Option α) : Option α := match kOd x t with
  | .p b o => k (.p b o) H
  | _ => none
noncomputable def rBin (op : BinOp) (sh : Option Shape) (x y : Od) (call : CallE) (t : T) (H : Hp) (k : AV → Hp → Option α) : Option α := kPut (kBin op sh (kOd x t) (kOd y t)) H k
noncomputable def rUn (op : UnOp) (x : Od) (call : CallE) (t : T) (H : Hp) (k : AV → Hp → Option α) : Option α := kPut (kUn op (kOd x t)) H k
noncomputable def rConv (sh : Shape) (x : Od) (call : CallE) (t : T) (H : Hp) (k : AV → Hp → Option α) : Option α := kPut (kConv sh (kOd x t)) H k
noncomputable def rFaddr (x : Od) (off : Nat) (call : CallE) (t : T) (H : Hp) (k : AV → Hp → Option α) : Option α := match kOd x t with
  | .p b o => kNat (o + off) fun o => k (.p b o) H
  | _ => none
noncomputable def rField (x : Od) (off : Nat) (agg : Bool) (n : Nat) (call : CallE) (t : T) (H : Hp) (k : AV → Hp → Option α) : Option α := match kOd x t with
  | .ag cs => kIf agg (kIf (Nat.ble (off + n) (kLen cs)) (kPut (some (.ag ((cs.drop off).take n))) H k) none) (match kNth cs off with
    | some v => k v H
    | none => none)
  | _ => none
noncomputable def rIxs (x i : Od) (sz : Nat) (call : CallE) (t : T) (H : Hp) (k : AV → Hp → Option α) : Option α := match kOd x t, kOd i t with
  | .sl b o n _, .i _ (.ofNat j) => kIf (Nat.ble (j + 1) n) (kNat (o + j * sz) fun a => k (.p b a) H) none
  | _, _ => none
noncomputable def rIxa (x i : Od) (n sz : Nat) (call : CallE) (t : T) (H : Hp) (k : AV → Hp → Option α) : Option α := match kOd x t, kOd i t with
  | .p b o, .i _ (.ofNat j) => kIf (Nat.ble (j + 1) n) (kNat (o + j * sz) fun a => k (.p b a) H) none
  | _, _ => none
noncomputable def kO (t : T) (x : Option Od) : Option AV := @Option.rec Od (fun _ => Option AV) none (fun x => some (kOd x t)) x
noncomputable def rSlc (sz : Nat) (x : Od) (lo hi : Option Od) (call : CallE) (t : T) (H : Hp) (k : AV → Hp → Option α) : Option α := kPut (slcAV sz (kOd x t) (kO t lo) (kO t hi)) H k
noncomputable def rExt (x : Od) (j : Nat) (call : CallE) (t : T) (H : Hp) (k : AV → Hp → Option α) : Option α := match kOd x t with
  | .tu vs => match kNth vs j with
    | some v => k v H
    | none => none
  | _ => none
noncomputable def rMkf (f : FuncId) (cap : List Od) (call : CallE) (t : T) (H : Hp) (k : AV → Hp → Option α) : Option α := kHds (kEvs t cap) fun cap => k (.fn f cap) H
noncomputable def rLen (sh : Shape) (x : Od) (call : CallE) (t : T) (H : Hp) (k : AV → Hp → Option α) : Option α := kPut (lenAV sh (kOd x t)) H k
noncomputable def kAppend (e : TypeId) (size bytes : Nat) (s x : AV) (H : Hp) (k : AV → Hp → Option α) : Option α :=
  match srcE H size x with
  | none => none
  | some (m, new) => match s with
    | .ns => if m = 0 then k .ns H else kIf (Nat.ble (m * max 1 bytes) 140737488355328)
        (kSpine new fun new => kNat (kLen H) fun b => kSnoc H ⟨e, false, new⟩ fun H' => kNat m fun m => k (.sl b 0 m .own) H') none
    | .sl j 0 n .own => match kNth H j with
      | some bl => if bl.ro = false ∧ bl.ty = e ∧ bl.cells.length = n * size ∧ size ≠ 0 ∧ (n + m) * max 1 bytes ≤ 140737488355328 then
          kApp bl.cells new fun cs => kNat (kLen H) fun b => kCell H j ⟨e, true, []⟩ fun H' => kSnoc H' ⟨e, false, cs⟩ fun H' => kNat (n + m) fun n => k (.sl b 0 n .own) H'
        else none
      | none => none
    | _ => none
noncomputable def rApp (e : TypeId) (n bytes : Nat) (s x : Od) (call : CallE) (t : T) (H : Hp) (k : AV → Hp → Option α) : Option α := kAppend e n bytes (kOd s t) (kOd x t) H k
noncomputable def rBi (b : Builtin) (xs : List Od) (call : CallE) (t : T) (H : Hp) (k : AV → Hp → Option α) : Option α := kPut (builtinAV b (kEvs t xs)) H k
noncomputable def rCall (p : Pth) (still : Bool) (xs : List Od) (call : CallE) (t : T) (H : Hp) (k : AV → Hp → Option α) : Option α := kHds (kEvs t xs) fun xs => match call p xs H with
  | some (v, none) => k v H
  | some (v, some b) => kIf still none (kSnoc H b fun H' => k v H')
  | none => none

noncomputable def kJ (j : J) : CallE → T → Hp → (AV → Hp → Option α) → Option α :=
  @J.rec (fun _ => CallE → T → Hp → (AV → Hp → Option α) → Option α) rMov rPick rAlloc rBox rBuild rBslice rMslice rLoad rStore rNilc rBin rUn rConv rFaddr rField rIxs rIxa rSlc rExt rMkf rLen rApp rBi rCall j

theorem kO_eq (t : T) (x : Option Od) : kO t x = evO t x := by
  cases x with
  | none => rfl
  | some x => simp only [evO]; rw [← kOd_eq]; rfl

theorem blt_ble (j n : Nat) : Nat.ble (j + 1) n = j.blt n := rfl

theorem kJ_eq (j : J) (call : CallE) (t : T) (H : Hp) (k : AV → Hp → Option α) : kJ j call t H k = runJ call j t H k := by
  cases j with
  | mov x => show rMov x call t H k = _; simp only [rMov, runJ, kOd_eq, kHd_eq]
  | pick c x y =>
    show rPick c x y call t H k = _; simp only [rPick, runJ, kOd_eq, kIf_eq, kHd_eq]
    cases c.ev t <;> try rfl
    rename_i b; cases b <;> rfl
  | alloc e z => show rAlloc e z call t H k = _; simp only [rAlloc, runJ, kNat_eq, kLen_eq, kSnoc_eq, force_eq, spineK_eq]
  | box e n x =>
    show rBox e n x call t H k = _
    simp only [rBox, runJ, kOd_eq, kIf_eq, kNat_eq, kLen_eq, kSnoc_eq, force_eq, spineK_eq]
    have hb : ∀ a b : Nat, Nat.beq a b = (a == b) := fun a b => by
      rw [Bool.eq_iff_iff]; simp
    cases x.ev t <;> simp only [AV.known, AV.cells, hb, Bool.true_and, Bool.false_and] <;> rfl
  | build z parts => show rBuild z parts call t H k = _; simp only [rBuild, runJ, kPut_eq, kParts_eq]
  | bslice e n len parts =>
    show rBslice e n len parts call t H k = _
    simp only [rBslice, runJ, kParts_eq, kScs_eq, kNat_eq, kLen_eq, kSnoc_eq, force_eq, spineK_eq, forceAVs_eq]
    cases fillP (List.replicate n .u) (evParts t parts) <;> rfl
  | mslice e bytes z l c =>
    show rMslice e bytes z l c call t H k = _
    simp only [rMslice, runJ, kOd_eq, kNat_eq, kLen_eq, kSnoc_eq, kSpine_eq, force_eq, spineK_eq]
    rfl
  | load x agg n =>
    show rLoad x agg n call t H k = _
    simp only [rLoad, runJ, kOd_eq, kIf_eq, kNth_eq, kLen_eq, kPut_eq]
    cases x.ev t <;> try rfl
    rename_i b o
    simp only
    cases H[b]? <;> try rfl
    rename_i bl
    simp only
    cases agg
    · cases bl.cells[o]? <;> rfl
    · simp
  | store x v n =>
    show rStore x v n call t H k = _
    simp only [rStore, runJ, kOd_eq, kHd_eq]
    cases x.ev t <;> try rfl
    rename_i b o
    simp only [kStore, storeK, kNth_eq, kIf_eq]
    cases H[b]? <;> try rfl
    rename_i bl
    simp only
    cases bl.ro <;> simp only
    · cases v.ev t <;> simp [kSpine_eq, kCell_eq, spineK_eq, Nat.beq_eq]
    · rfl
  | nilc x => show rNilc x call t H k = _; simp only [rNilc, runJ, kOd_eq]; rfl
  | bin op sh x y => show rBin op sh x y call t H k = _; simp only [rBin, runJ, kOd_eq, kPut_eq, kBin_eq]
  | un op x => show rUn op x call t H k = _; simp only [rUn, runJ, kOd_eq, kPut_eq, kUn_eq]
  | conv sh x => show rConv sh x call t H k = _; simp only [rConv, runJ, kOd_eq, kPut_eq, kConv_eq]
  | faddr x off => show rFaddr x off call t H k = _; simp only [rFaddr, runJ, kOd_eq, kNat_eq, forceAV_eq]; rfl
  | field x off agg n =>
    show rField x off agg n call t H k = _
    simp only [rField, runJ, kOd_eq, kIf_eq, kNth_eq, kLen_eq, kPut_eq]
    cases x.ev t <;> try rfl
    rename_i cs
    simp only
    cases agg
    · cases cs[off]? <;> rfl
    · simp
  | ixs x i sz =>
    show rIxs x i sz call t H k = _
    simp only [rIxs, runJ, kOd_eq, kIf_eq, kNat_eq, forceAV_eq, blt_ble]
    cases x.ev t <;> try rfl
    cases i.ev t <;> try rfl
    rename_i b o n c kk j
    cases j <;> try rfl
    rename_i j
    simp only
    cases j.blt n <;> rfl
  | ixa x i n sz =>
    show rIxa x i n sz call t H k = _
    simp only [rIxa, runJ, kOd_eq, kIf_eq, kNat_eq, forceAV_eq, blt_ble]
    cases x.ev t <;> try rfl
    cases i.ev t <;> try rfl
    rename_i b o kk j
    cases j <;> try rfl
    rename_i j
    simp only
    cases j.blt n <;> rfl
  | slc n x lo hi => show rSlc n x lo hi call t H k = _; simp only [rSlc, runJ, kOd_eq, kPut_eq, kO_eq]
  | ext x j =>
    show rExt x j call t H k = _
    simp only [rExt, runJ, kOd_eq, kNth_eq]
    rfl
  | mkf f cap => show rMkf f cap call t H k = _; simp only [rMkf, runJ, kEvs_eq, kHds_eq]
  | len sh x => show rLen sh x call t H k = _; simp only [rLen, runJ, kOd_eq, kPut_eq]
  | app e n bytes s x =>
    show rApp e n bytes s x call t H k = _
    simp only [rApp, runJ, kOd_eq, kAppend, appK, kNth_eq, kIf_eq, kNat_eq, kLen_eq, kSnoc_eq, kSpine_eq, kApp_eq, kCell_eq, spineK_eq, force_eq, forceAV_eq]
    rfl
  | bi b xs => show rBi b xs call t H k = _; simp only [rBi, runJ, kEvs_eq, kPut_eq]
  | call p still xs =>
    show rCall p still xs call t H k = _
    simp only [rCall, runJ, kEvs_eq, kIf_eq, kSnoc_eq, spineK_eq, kHds_eq]
    generalize call p (evs t xs) H = r
    rcases r with _ | ⟨v, _ | b⟩ <;> try rfl
    cases still <;> rfl
end
end Go.Vc

/- The interpreter made for the kernel: code and calls. -/
set_option linter.unusedVariables false
namespace Go.Vc
open Go

section
variable {α : Type}

noncomputable def kPutT (d : Option Pth) (v : AV) (t : T) (k : T → Option α) : Option α := @Option.rec Pth (fun _ => Option α) (k t) (fun p => kSet p t v k) d
theorem kPutT_eq (d : Option Pth) (v : AV) (t : T) (k : T → Option α) : kPutT d v t k = putT t d v k := by
  cases d with
  | none => rfl
  | some p => exact (kSet_eq p t v k).trans (T.setK_eq p t v k).symm

noncomputable def kOper (call : CallE) (o : JO) (t : T) (H : Hp) (k : T → Hp → Option α) : Option α :=
  @JO.rec (fun _ => Option α) (fun dst guard op =>
    @Option.rec (Pth × Bool) (fun _ => Option α) (kJ op call t H fun v H => kPutT dst v t fun t => k t H)
      (fun g => @Prod.rec Pth Bool (fun _ => Option α) (fun d want => match kGet d t with
        | .b x => kIf (x == want) (kJ op call t H fun v H => kPutT dst v t fun t => k t H) (kPutT dst .u t fun t => k t H)
        | _ => none) g) guard) o

noncomputable def kOps (call : CallE) (l : List JO) : T → Hp → (T → Hp → Option α) → Option α :=
  @List.rec JO (fun _ => T → Hp → (T → Hp → Option α) → Option α) (fun t H k => k t H) (fun o _ ih t H k => kOper call o t H fun t H => ih t H k) l

theorem kOps_eq (call : CallE) : ∀ (l : List JO) (t : T) (H : Hp) (k : T → Hp → Option α), kOps call l t H k = runOps call l t H k
  | [], t, H, k => rfl
  | ⟨dst, guard, op⟩ :: rest, t, H, k => by
    have ih := kOps_eq call rest
    show kOper call ⟨dst, guard, op⟩ t H (fun t H => kOps call rest t H k) = _
    simp only [ih]
    cases guard with
    | none =>
      show kJ op call t H _ = _
      rw [kJ_eq]
      simp only [kPutT_eq, runOps]
    | some g =>
      obtain ⟨d, want⟩ := g
      show (match kGet d t with
        | .b x => kIf (x == want) (kJ op call t H fun v H => kPutT dst v t fun t => runOps call rest t H k) (kPutT dst .u t fun t => runOps call rest t H k)
        | _ => none) = _
      simp only [kGet_eq, kIf_eq, kJ_eq, kPutT_eq, runOps, beq_iff_eq]
      rfl

noncomputable def kRounds (body : T → Hp → (Ex → T → Hp → Option α) → Option α) (n : Nat) : T → Hp → (Ex → T → Hp → Option α) → Option α :=
  @Nat.rec (fun _ => T → Hp → (Ex → T → Hp → Option α) → Option α) (fun _ _ _ => none) (fun _ ih t H k => body t H fun e t H => @Ex.rec (fun _ => Option α) (ih t H k) (fun id => k (.exit id) t H) (k .ret t H) e) n
theorem kRounds_eq {body body' : T → Hp → (Ex → T → Hp → Option α) → Option α} (hb : ∀ t H k, body t H k = body' t H k) : ∀ (n : Nat) (t : T) (H : Hp) (k : Ex → T → Hp → Option α), kRounds body n t H k = rounds body' n t H k
  | 0, t, H, k => rfl
  | n + 1, t, H, k => by
    have ih := kRounds_eq hb n
    simp only [rounds]
    rw [← hb]
    show body t H (fun e t H => @Ex.rec (fun _ => Option α) (kRounds body n t H k) (fun id => k (.exit id) t H) (k .ret t H) e) = _
    congr 1
    funext e t H
    cases e
    · exact ih t H k
    · rfl
    · rfl

noncomputable def kC (call : CallE) (fuel : Nat) (c : JC) : T → Hp → (Ex → T → Hp → Option α) → Option α :=
  @JC.rec (fun _ => T → Hp → (Ex → T → Hp → Option α) → Option α)
    (fun t H k => k .normal t H)
    (fun t H k => k .ret t H)
    (fun id t H k => k (.exit id) t H)
    (fun _ _ ia ib t H k => ia t H fun e t H => @Ex.rec (fun _ => Option α) (ib t H k) (fun id => k (.exit id) t H) (k .ret t H) e)
    (fun c _ _ ia ib t H k => match kOd c t with
      | .b b => @Bool.rec (fun _ => Option α) (ib t H k) (ia t H k) b
      | _ => none)
    (fun id _ ic t H k => ic t H fun e t H => @Ex.rec (fun _ => Option α) (k .normal t H) (fun i => kIf (Nat.beq i id) (k .normal t H) (k (.exit i) t H)) (k .ret t H) e)
    (fun _ ic t H k => kRounds ic fuel t H k)
    (fun ops t H k => kOps call ops t H fun t H => k .normal t H) c

theorem kC_eq (call : CallE) (fuel : Nat) : ∀ (c : JC) (t : T) (H : Hp) (k : Ex → T → Hp → Option α), kC call fuel c t H k = runC call fuel c t H k
  | .skip, t, H, k => rfl
  | .ret, t, H, k => rfl
  | .exit id, t, H, k => rfl
  | .seq a b, t, H, k => by
    simp only [runC]
    rw [← kC_eq call fuel a]
    show kC call fuel a t H (fun e t H => @Ex.rec (fun _ => Option α) (kC call fuel b t H k) (fun id => k (.exit id) t H) (k .ret t H) e) = _
    congr 1
    funext e t H
    cases e
    · exact kC_eq call fuel b t H k
    · rfl
    · rfl
  | .cond c a b, t, H, k => by
    simp only [runC]
    show (match kOd c t with
      | .b b' => @Bool.rec (fun _ => Option α) (kC call fuel b t H k) (kC call fuel a t H k) b'
      | _ => none) = _
    rw [kOd_eq]
    cases c.ev t <;> try rfl
    rename_i x
    cases x
    · exact kC_eq call fuel b t H k
    · exact kC_eq call fuel a t H k
  | .block id c, t, H, k => by
    simp only [runC]
    rw [← kC_eq call fuel c]
    show kC call fuel c t H (fun e t H => @Ex.rec (fun _ => Option α) (k .normal t H) (fun i => kIf (Nat.beq i id) (k .normal t H) (k (.exit i) t H)) (k .ret t H) e) = _
    congr 1
    funext e t H
    cases e
    · rfl
    · rename_i i
      show kIf (Nat.beq i id) _ _ = _
      rw [kIf_eq]
      have : (Nat.beq i id = true) = (i = id) := by simp
      simp only [this]
    · rfl
  | .loop c, t, H, k => by
    simp only [runC]
    exact kRounds_eq (fun t H k => kC_eq call fuel c t H k) fuel t H k
  | .reg ops, t, H, k => by
    simp only [runC]
    rw [← kOps_eq]
    rfl

/-! flat values -/
def sc1 (x : AV) : Bool := match x with
  | .p .. | .sl .. | .ag _ | .tu _ | .fn .. => false
  | _ => true
noncomputable def kAll {β : Type} (f : β → Bool) (l : List β) : Bool := @List.rec β (fun _ => Bool) true (fun x _ ih => @Bool.rec (fun _ => Bool) false ih (f x)) l
def flat1 (x : AV) : Bool := match x with
  | .p .. | .sl .. | .fn .. => false
  | .ag xs | .tu xs => xs.all sc1
  | _ => true
noncomputable def kFlat (x : AV) : Bool := match x with
  | .p .. | .sl .. | .fn .. => false
  | .ag xs | .tu xs => kAll sc1 xs
  | _ => true
theorem kAll_eq {β : Type} (f : β → Bool) : ∀ l : List β, kAll f l = l.all f
  | [] => rfl
  | x :: xs => by
    rw [List.all_cons, ← kAll_eq f xs]
    show @Bool.rec (fun _ => Bool) false (kAll f xs) (f x) = _
    cases f x <;> rfl
theorem sc1_flat {x : AV} (h : sc1 x = true) : x.flat = true := by cases x <;> simp [sc1] at h <;> rfl
theorem sc1s_flats : ∀ {l : List AV}, l.all sc1 = true → AV.flats l = true
  | [], _ => rfl
  | x :: xs, h => by
    simp only [List.all_cons, Bool.and_eq_true] at h
    simp only [AV.flats, sc1_flat h.1, sc1s_flats h.2, Bool.and_self]
theorem kFlat_flat {x : AV} (h : kFlat x = true) : x.flat = true := by
  cases x <;> simp [kFlat, kAll_eq] at h <;> simp only [AV.flat]
  · exact sc1s_flats (by simpa using h)
  · exact sc1s_flats (by simpa using h)
theorem kFlats_flats : ∀ {l : List AV}, kAll kFlat l = true → AV.flats l = true := by
  intro l h
  rw [kAll_eq] at h
  induction l with
  | nil => rfl
  | cons x xs ih =>
    simp only [List.all_cons, Bool.and_eq_true] at h
    simp only [AV.flats, kFlat_flat h.1, ih h.2, Bool.and_self]
theorem kScs_flats {l : List AV} (h : kAll sc1 l = true) : AV.flats l = true := sc1s_flats (by rwa [kAll_eq] at h)

/-! results -/
noncomputable def kRes1 (t : T) (H : Hp) (r : JR) : Option AV := @JR.rec (fun _ => Option AV) (fun p => some (kGet p t)) (fun p agg n => match kGet p t with
  | .p b o => match kNth H b with
    | some bl => @Bool.rec (fun _ => Option AV) (kNth bl.cells o) (if o + n ≤ bl.cells.length then some (.ag ((bl.cells.drop o).take n)) else none) agg
    | none => none
  | _ => none) r
theorem kRes1_eq (t : T) (H : Hp) (r : JR) : kRes1 t H r = res1 t H r := by
  cases r with
  | tmp p => show some (kGet p t) = _; rw [kGet_eq]; rfl
  | cell p agg n =>
    show (match kGet p t with
      | .p b o => match kNth H b with
        | some bl => @Bool.rec (fun _ => Option AV) (kNth bl.cells o) (if o + n ≤ bl.cells.length then some (.ag ((bl.cells.drop o).take n)) else none) agg
        | none => none
      | _ => none) = _
    simp only [kGet_eq, kNth_eq, res1]
    cases t.get p <;> try rfl
    rename_i b o
    simp only
    cases H[b]? <;> try rfl
    cases agg <;> rfl
noncomputable def kResL (t : T) (H : Hp) (l : List JR) : Option (List AV) := @List.rec JR (fun _ => Option (List AV)) (some []) (fun r _ ih => match kRes1 t H r, ih with
  | some v, some vs => some (v :: vs)
  | _, _ => none) l
theorem kResL_eq (t : T) (H : Hp) : ∀ l : List JR, kResL t H l = resL t H l
  | [] => rfl
  | r :: rs => by
    simp only [resL]
    rw [← kResL_eq t H rs, ← kRes1_eq]
    rfl
noncomputable def kResF (t : T) (H : Hp) (l : List JR) : Option AV := match kResL t H l with
  | some [v] => some v
  | some vs => some (.tu vs)
  | none => none
theorem kResF_eq (t : T) (H : Hp) (l : List JR) : kResF t H l = resF t H l := by
  unfold kResF resF; rw [kResL_eq]; rfl

noncomputable def kEnd (n base : Nat) (ρ : List Nat) (t : T) (G : Hp) (rs : List JR) : Option Rs := match kResF t G rs with
  | none => none
  | some r => @Bool.rec (fun _ => Option Rs) (endJ n base ρ t G rs) (some (r, none)) (kFlat r)
theorem kEnd_eq (n base : Nat) (ρ : List Nat) (t : T) (G : Hp) (rs : List JR) : kEnd n base ρ t G rs = endJ n base ρ t G rs := by
  unfold kEnd
  rw [kResF_eq]
  cases h : resF t G rs with
  | none => unfold endJ; rw [h]
  | some r =>
    show @Bool.rec (fun _ => Option Rs) (endJ n base ρ t G rs) (some (r, none)) (kFlat r) = _
    cases hf : kFlat r with
    | false => rfl
    | true =>
      show some (r, none) = _
      unfold endJ
      rw [h]
      simp only
      rw [if_pos (kFlat_flat hf)]

/-! arguments -/
def paths : List Pth := [.e, .l .e, .r .e, .l (.l .e), .r (.l .e), .l (.r .e), .r (.r .e), .l (.l (.l .e))]
noncomputable def kArgs (xs : List AV) : List Pth → T → (T → Option α) → Option α :=
  @List.rec AV (fun _ => List Pth → T → (T → Option α) → Option α) (fun _ t k => k t) (fun x _ ih ps t k => match ps with
    | [] => none
    | p :: ps => kSet p t x fun t => ih ps t k) xs
theorem kArgs_some : ∀ (xs : List AV) {i : Nat} {ps : List Pth} {t : T} {k : T → Option α} {y : α}, (∀ (j : Nat) (p : Pth), ps[j]? = some p → p = pth (i + j)) → kArgs xs ps t k = some y → T.ofListK i xs t k = some y
  | [], i, ps, t, k, y, hp, h => h
  | x :: xs, i, [], t, k, y, hp, h => by cases h
  | x :: xs, i, p :: ps, t, k, y, hp, h => by
    have h' : kSet p t x (fun t => kArgs xs ps t k) = some y := h
    rw [kSet_eq] at h'
    simp only [T.ofListK, T.setK_eq]
    have := hp 0 p rfl
    rw [Nat.add_zero] at this
    rw [← this]
    exact kArgs_some xs (fun j q hq => by have := hp (j + 1) q (by simpa using hq); rw [this]; congr 1; omega) h'
theorem paths_ok : ∀ (j : Nat) (p : Pth), paths[j]? = some p → p = pth (0 + j) := by
  intro j p h
  have hl := (List.getElem?_eq_some_iff.1 h).1
  have : j < 8 := hl
  match j, this with
  | 0, _ | 1, _ | 2, _ | 3, _ | 4, _ | 5, _ | 6, _ | 7, _ => simp [paths] at h; subst h; rfl

noncomputable def kLend (H : Hp) (l : List Nat) : (Hp → Option α) → Option α := @List.rec Nat (fun _ => (Hp → Option α) → Option α) (fun k => k []) (fun i _ ih k => match kNth H i with
  | some bl => kIf (kAll sc1 bl.cells) (ih fun bs => k (⟨bl.ty, true, bl.cells⟩ :: bs)) none
  | none => none) l
theorem kLend_some {H : Hp} : ∀ {ρ : List Nat} {f : Hp → Option α} {y : α}, kLend H ρ f = some y → lendK H ρ f = some y
  | [], f, y, h => h
  | i :: is, f, y, h => by
    have h' : (match kNth H i with
      | some bl => kIf (kAll sc1 bl.cells) (kLend H is fun bs => f (⟨bl.ty, true, bl.cells⟩ :: bs)) none
      | none => none) = some y := h
    simp only [kNth_eq, kIf_eq] at h'
    simp only [lendK]
    split at h'
    · rename_i bl hb
      split at h'
      · rename_i hf
        simp only [hb]
        rw [if_pos (kScs_flats hf)]
        exact kLend_some h'
      · cases h'
    · cases h'

noncomputable def kTT (p : Pth) : TT → Option Ent := @Pth.rec (fun _ => TT → Option Ent)
  (fun t => @TT.rec (fun _ => Option Ent) none (fun v _ _ _ _ => v) t)
  (fun _ ih t => ih (@TT.rec (fun _ => TT) .e (fun _ l _ _ _ => l) t))
  (fun _ ih t => ih (@TT.rec (fun _ => TT) .e (fun _ _ r _ _ => r) t)) p
theorem TT.get_e (p : Pth) : TT.get .e p = none := by cases p <;> simp [TT.get]
theorem kTT_eq : ∀ (p : Pth) (t : TT), kTT p t = t.get p
  | .e, t => by cases t <;> simp only [TT.get] <;> rfl
  | .l p, t => by
    cases t
    · exact (kTT_eq p .e).trans (by simp only [TT.get_e])
    · rename_i v l r; exact (kTT_eq p l).trans (by simp only [TT.get])
  | .r p, t => by
    cases t
    · exact (kTT_eq p .e).trans (by simp only [TT.get_e])
    · rename_i v l r; exact (kTT_eq p r).trans (by simp only [TT.get])

end

/-- The end of a body: a call's answer. -/
noncomputable def kDone (n base : Nat) (ρ : List Nat) (rs : List JR) (e : Ex) (t : T) (G : Hp) : Option Rs := @Ex.rec (fun _ => Option Rs) (kEnd n base ρ t G rs) (fun _ => none) (kEnd n base ρ t G rs) e

noncomputable def kCall (tab : TT) (fuel : Nat) (d : Nat) : CallE := @Nat.rec (fun _ => CallE) (fun _ _ _ => none) (fun _ ih p args H => match kTT p tab with
  | none => none
  | some (.ext g) => g args H
  | some (.fn f) => kIf (Nat.beq (kLen args) f.nargs)
      (kIf (kAll kFlat args)
        (kArgs args paths .e fun t => kC ih fuel f.code t [] fun e t G => kDone 0 (kLen H) [] f.res e t G)
        (kIf (renIsL (AV.refsL args []) (AV.nameL (AV.refsL args []) args) args)
          (kLend H (AV.refsL args []) fun Hl => kScs (AV.nameL (AV.refsL args []) args) fun la => kArgs la paths .e fun t => kC ih fuel f.code t Hl fun e t G => kDone (AV.refsL args []).length H.length (AV.refsL args []) f.res e t G) none)) none) d

theorem kBody {P : Program} (hmix : P.follows .mixedOrders = true) {f : FuncId} {fn : Func} {quiet : FuncId → Bool} {jf : JF} (hfn : P.funcs[f]? = some fn) (hcf : cFunc P quiet fn jf.nargs = some jf) {H0 : Hp} {call : CallE} (hc : CallOkR P H0 call) {fuel : Nat}
    {H Hl : Hp} (hH0 : roK H0 Hl) {ρ : List Nat} {la : List AV} (hla : la.length = jf.nargs) (hll : Hl.length = ρ.length) (hfl : ∀ b ∈ Hl, AV.flats b.cells = true ∧ b.ro = true) (hrd : reads H ρ Hl) {v : AV} {b : Option Blk}
    (h : kArgs la paths .e (fun t => kC call fuel jf.code t Hl fun e t G => kDone ρ.length H.length ρ jf.res e t G) = some (v, b)) :
    ∃ (r : AV) (Hl' : Hp), CallsTo P f la Hl r Hl' ∧ ren ρ H.length r = v ∧ graft ρ H Hl Hl' = H ++ b.toList ∧ Hl' = Hl ++ b.toList := by
  obtain ⟨t0, h2, henv⟩ := ofListK_env0 (kArgs_some la paths_ok h)
  rw [kC_eq] at h2
  unfold cFunc at hcf
  split at hcf
  · cases hcf
  · rename_i c hbody
    split at hcf
    · rename_i jc rs hc1 hc2
      split at hcf
      · rename_i hok
        have hjf : jf.code = jc ∧ jf.res = rs := by
          have := Option.some.inj hcf
          exact ⟨by rw [← this], by rw [← this]⟩
        obtain ⟨e', t1, G, h3, hro, h4⟩ := code_run hc c (by rw [hjf.1]; exact hc1) hH0 h2
        have hend : (e' = .ret ∨ e' = .normal) ∧ endJ ρ.length H.length ρ t1 G jf.res = some (v, b) := by
          cases e' with
          | exit _ => cases h3
          | normal => exact ⟨.inr rfl, (kEnd_eq _ _ _ _ _ _).symm.trans h3⟩
          | ret => exact ⟨.inl rfl, (kEnd_eq _ _ _ _ _ _).symm.trans h3⟩
        obtain ⟨r, Hl', τ, q1, q2, q3, q4, q5⟩ := endJ_some (P := P) (fn := fn) (by rw [hjf.2]; exact hc2) hll (fun b hb => (hfl b hb).1) (roK_take hro fun b hb => (hfl b hb).2) hrd hend.2
        refine ⟨r, Hl', calls_to hmix hfn (by rw [hla]; exact hok) ?_, q3, q4, q5⟩
        unfold bodyVC
        rw [hbody]
        simp only
        rw [← henv]
        exact h4 _ ⟨hend.1, τ, q1, q2⟩
      · cases hcf
    · cases hcf

theorem nameL_len (l : List Nat) : ∀ xs : List AV, (AV.nameL l xs).length = xs.length
  | [] => by simp [AV.nameL]
  | x :: xs => by simp [AV.nameL, nameL_len l xs]

theorem kCall_ok {P : Program} (hmix : P.follows .mixedOrders = true) {tab : TT} (htab : ∀ p e, tab.get p = some e → EntOk P p.num e) (fuel : Nat) : ∀ d, CallOk P (kCall tab fuel d)
  | 0 => fun p args H v b h => by cases h
  | d + 1 => fun p args H v b h κ hk => by
    have hd := kCall_ok hmix htab fuel d
    have h' : (match kTT p tab with
      | none => none
      | some (.ext g) => g args H
      | some (.fn f) => kIf (Nat.beq (kLen args) f.nargs)
          (kIf (kAll kFlat args)
            (kArgs args paths .e fun t => kC (kCall tab fuel d) fuel f.code t [] fun e t G => kDone 0 (kLen H) [] f.res e t G)
            (kIf (renIsL (AV.refsL args []) (AV.nameL (AV.refsL args []) args) args)
              (kLend H (AV.refsL args []) fun Hl => kScs (AV.nameL (AV.refsL args []) args) fun la => kArgs la paths .e fun t => kC (kCall tab fuel d) fuel f.code t Hl fun e t G => kDone (AV.refsL args []).length H.length (AV.refsL args []) f.res e t G) none)) none) = some (v, b) := h
    simp only [kTT_eq, kIf_eq, kLen_eq] at h'
    split at h'
    · cases h'
    · rename_i g e; exact htab _ _ e _ _ _ _ h' κ hk
    · rename_i jf e
      obtain ⟨fn, quiet, hfn, hcf⟩ := htab _ _ e
      split at h'
      · rename_i hlen
        have hlen' : args.length = jf.nargs := by simpa using hlen
        split at h'
        · rename_i hflat
          have hfl := kFlats_flats hflat
          obtain ⟨r, Hl', g1, g2, g3, -⟩ := kBody hmix hfn hcf (hd.r []) (H := H) (Hl := []) (ρ := []) (fun k bl h => by simp at h) hlen' rfl (fun _ h => by cases h) trivial h'
          exact ⟨[], [], Hl', args, r, g1, renL_flat _ _ _ hfl, trivial, by rw [g2, g3]; exact hk⟩
        · split at h'
          · rename_i hren
            obtain ⟨Hl, h1, hrd, hll, hfl⟩ := lendK_some (kLend_some h')
            rw [kScs_eq] at h1
            obtain ⟨r, Hl', g1, g2, g3, -⟩ := kBody hmix hfn hcf (hd.r []) (fun k bl h => by simp at h) hla_ hll hfl hrd h1
            exact ⟨_, Hl, Hl', _, r, g1, renIsL_eq (fun k k' e => renN_of e) _ _ hren, reads_fits _ _ hrd, by rw [g2, g3]; exact hk⟩
          · cases h'
      · cases h'
where hla_ {args : List AV} {n : Nat} {l : List Nat} (h : args.length = n := by assumption) : (AV.nameL l args).length = n := by rw [nameL_len, h]

theorem reads_self : ∀ (Hl : Hp), (∀ b ∈ Hl, AV.flats b.cells = true ∧ b.ro = true) → ∀ (A : Hp), reads (A ++ Hl) (List.range' A.length Hl.length) Hl
  | [], _, _ => trivial
  | b :: bs, h, A => by
    rw [List.length_cons, List.range'_succ]
    refine ⟨⟨b, by simp, rfl, rfl⟩, (h b (by simp)).2, (h b (by simp)).1, ?_⟩
    have := reads_self bs (fun b hb => h b (List.mem_cons_of_mem _ hb)) (A ++ [b])
    simpa using this

mutual
theorem ren_id (n : Nat) : ∀ x : AV, ren (List.range n) n x = x
  | .u | .b _ | .i _ _ | .f _ _ | .c _ _ _ | .s _ | .np | .ns => by simp only [ren]
  | .p k o => by simp only [ren, renN_id]
  | .sl k o m c => by simp only [ren, renN_id]
  | .ag xs => by simp only [ren, renL_id n xs]
  | .tu xs => by simp only [ren, renL_id n xs]
  | .fn f xs => by simp only [ren, renL_id n xs]
theorem renL_id (n : Nat) : ∀ xs : List AV, renL (List.range n) n xs = xs
  | [] => by simp only [renL]
  | x :: xs => by simp only [renL, ren_id n x, renL_id n xs]
theorem renN_id (n k : Nat) : renN (List.range n) n k = k := by
  unfold renN
  by_cases h : k < n
  · rw [List.getElem?_range h]
  · rw [List.getElem?_eq_none (by simp; omega)]
    simp; omega
end

/-- A table of what is known. -/
def TabOk (P : Program) (tab : TT) : Prop := ∀ p e, tab.get p = some e → EntOk P p.num e

theorem tabOk_of {P : Program} {l : List (FuncId × Ent)} {tab : TT} (hl : ∀ x ∈ l, EntOk P x.1 x.2) (h : tabK l .e some = some tab) : TabOk P tab := by
  obtain ⟨t, h1, h2⟩ := tabK_some l hl (fun p e hp => by simp [TT.get] at hp) h
  cases h1
  exact h2

/-- A whole run of a function over blocks that are only read. -/
noncomputable def kTop (tab : TT) (fuel d : Nat) (jf : JF) (la : List AV) (Hl : Hp) : Option Rs :=
  kIf (Nat.beq (kLen la) jf.nargs) (kIf (kAll (fun b => b.ro && kAll sc1 b.cells) Hl) (kArgs la paths .e fun t => kC (kCall tab fuel d) fuel jf.code t Hl fun e t G => kDone Hl.length Hl.length (List.range Hl.length) jf.res e t G) none) none

theorem kTop_to {P : Program} (hmix : P.follows .mixedOrders = true) {tab : TT} (htab : TabOk P tab) {f : FuncId} {jf : JF} (hf : EntOk P f (.fn jf)) {fuel d : Nat} {la : List AV} {Hl : Hp} {v : AV} {b : Option Blk} (h : kTop tab fuel d jf la Hl = some (v, b)) :
    CallsTo P f la Hl v (Hl ++ b.toList) := by
  unfold kTop at h
  simp only [kIf_eq, kLen_eq, kAll_eq] at h
  split at h
  · rename_i hlen
    split at h
    · rename_i hro
      have hfl : ∀ b ∈ Hl, AV.flats b.cells = true ∧ b.ro = true := fun b hb => by
        have := List.all_eq_true.1 hro b hb
        simp only [Bool.and_eq_true] at this
        exact ⟨sc1s_flats this.2, this.1⟩
      obtain ⟨fn, quiet, hfn, hcf⟩ := hf
      have hrd : reads Hl (List.range Hl.length) Hl := by
        have := reads_self Hl hfl []
        rwa [List.range_eq_range']
      obtain ⟨r, Hl', g1, g2, g3, g4⟩ := kBody (ρ := List.range Hl.length) hmix hfn hcf ((kCall_ok hmix htab fuel d).r []) (fun k bl h => by simp at h) (by simpa using hlen) (by simp) hfl hrd (by rw [List.length_range]; exact h)
      rw [ren_id] at g2
      subst g2; subst g4
      exact g1
    · cases h
  · cases h

/-! ### answers that are known -/
/-- The same but for what is known of capacities; the capacities of the first. -/
noncomputable def avEq (x y : AV) : Bool := match x, y with
  | .f k a, .f k' b => fk2 k k' && Nat.beq a b
  | .i k a, .i k' b => ik2 k k' && kEqI a b
  | .b a, .b b => a == b
  | .c k a b, .c k' a' b' => fk2 k k' && (Nat.beq a a' && Nat.beq b b')
  | _, _ => false
theorem avEq_eq {x y : AV} (h : avEq x y = true) : x = y := by
  unfold avEq at h
  split at h
  · simp only [Bool.and_eq_true, fk2_eq, Nat.beq_eq] at h; rw [h.1, h.2]
  · simp only [Bool.and_eq_true, ik2_eq, kEqI_eq, decide_eq_true_eq] at h; rw [h.1, h.2]
  · rw [beq_iff_eq.1 h]
  · simp only [Bool.and_eq_true, fk2_eq, Nat.beq_eq] at h; rw [h.1, h.2.1, h.2.2]
  · cases h
noncomputable def kZip {β : Type} (f : β → β → Bool) (l : List β) : List β → Bool := @List.rec β (fun _ => List β → Bool) (fun m => @List.rec β (fun _ => Bool) true (fun _ _ _ => false) m) (fun x _ ih m => @List.rec β (fun _ => Bool) false (fun y ys _ => @Bool.rec (fun _ => Bool) false (ih ys) (f x y)) m) l
theorem kZip_eq {β : Type} {f : β → β → Bool} (hf : ∀ x y, f x y = true → x = y) : ∀ (l m : List β), kZip f l m = true → l = m
  | [], [], _ => rfl
  | [], _ :: _, h => by cases h
  | _ :: _, [], h => by cases h
  | x :: xs, y :: ys, h => by
    have h' : @Bool.rec (fun _ => Bool) false (kZip f xs ys) (f x y) = true := h
    cases e : f x y with
    | false => rw [e] at h'; cases h'
    | true => rw [e] at h'; rw [hf x y e, kZip_eq hf xs ys h']
/-- Struct or scalar. -/
noncomputable def avEq1 (x y : AV) : Bool := match x, y with
  | .ag xs, .ag ys => kZip avEq xs ys
  | x, y => avEq x y
theorem avEq1_eq {x y : AV} (h : avEq1 x y = true) : x = y := by
  unfold avEq1 at h
  split at h
  · rw [kZip_eq (fun x y h => avEq_eq h) _ _ h]
  · exact avEq_eq h

noncomputable def kFindN {β : Type} (key : β → Nat) (l : List β) (x : Nat) : Option β := @List.rec β (fun _ => Option β) none (fun y _ ih => @Bool.rec (fun _ => Option β) ih (some y) (Nat.beq (key y) x)) l
theorem kFindN_some {β : Type} {key : β → Nat} : ∀ {l : List β} {x : Nat} {y : β}, kFindN key l x = some y → y ∈ l ∧ key y = x
  | [], x, y, h => by cases h
  | z :: l, x, y, h => by
    have h' : @Bool.rec (fun _ => Option β) (kFindN key l x) (some z) (Nat.beq (key z) x) = some y := h
    cases e : Nat.beq (key z) x with
    | true => rw [e] at h'; cases h'; exact ⟨by simp, by simpa using e⟩
    | false => rw [e] at h'; have := kFindN_some h'; exact ⟨List.mem_cons_of_mem _ this.1, this.2⟩

/-- Known: of one number of 64 bits a complex one. -/
noncomputable def gPh (l : List (Nat × Nat × Nat)) (xs : List AV) : Option AV := match xs with
  | [.f .f64 x] => @Option.rec (Nat × Nat × Nat) (fun _ => Option AV) none (fun e => some (.c .f32 e.2.1 e.2.2)) (kFindN (·.1) l x)
  | _ => none
theorem gPh_ok {P : Program} {f : FuncId} {l : List (Nat × Nat × Nat)} (h : ∀ e ∈ l, CallsTo P f [.f .f64 e.1] [] (.c .f32 e.2.1 e.2.2) []) : EntOk P f (extE (gPh l)) := ext0 fun xs r hr => by
  unfold gPh at hr
  split at hr
  · rename_i x
    cases hf : kFindN (·.1) l x with
    | none => rw [hf] at hr; cases hr
    | some e =>
      rw [hf] at hr; cases hr
      obtain ⟨h1, rfl⟩ := kFindN_some hf
      exact ⟨h e h1, rfl, rfl⟩
  · cases hr
/-- Known: of one number of 32 bits another. -/
noncomputable def gSi (l : List (Nat × Nat)) (xs : List AV) : Option AV := match xs with
  | [.f .f32 x] => @Option.rec (Nat × Nat) (fun _ => Option AV) none (fun e => some (.f .f32 e.2)) (kFindN (·.1) l x)
  | _ => none
theorem gSi_ok {P : Program} {f : FuncId} {l : List (Nat × Nat)} (h : ∀ e ∈ l, CallsTo P f [.f .f32 e.1] [] (.f .f32 e.2) []) : EntOk P f (extE (gSi l)) := ext0 fun xs r hr => by
  unfold gSi at hr
  split at hr
  · rename_i x
    cases hf : kFindN (·.1) l x with
    | none => rw [hf] at hr; cases hr
    | some e =>
      rw [hf] at hr; cases hr
      obtain ⟨h1, rfl⟩ := kFindN_some hf
      exact ⟨h e h1, rfl, rfl⟩
  · cases hr

/-- Known: an answer to arguments among which is one slice, or none. -/
structure Memo where
  la : List AV
  Hl : Hp
  v : AV
  b : Option Blk

def Memo.Ok (P : Program) (f : FuncId) (m : Memo) : Prop := CallsTo P f m.la m.Hl m.v (m.Hl ++ m.b.toList)

noncomputable def firstSl (xs : List AV) : Option Nat := @List.rec AV (fun _ => Option Nat) none (fun x _ ih => match x with
  | .sl k _ _ _ => some k
  | _ => ih) xs

noncomputable def blkEq (x y : Blk) : Bool := Nat.beq x.ty y.ty && kZip avEq x.cells y.cells
theorem blkEq_eq {x y : Blk} (h : blkEq x y = true) : x.ty = y.ty ∧ x.cells = y.cells := by
  unfold blkEq at h
  simp only [Bool.and_eq_true, Nat.beq_eq] at h
  exact ⟨h.1, kZip_eq (fun x y h => avEq_eq h) _ _ h.2⟩

/-- The blocks that are asked for. -/
noncomputable def kHas (H : Hp) (ρ : List Nat) (Hl : Hp) : Bool := match ρ, Hl with
  | [], [] => true
  | [k], [b] => match kNth H k with
    | some b' => blkEq b b' && (b.ro && kAll sc1 b.cells)
    | none => false
  | _, _ => false

noncomputable def gMemo2 (m : Memo) (ρ : List Nat) (la : List AV) (xs : List AV) (H : Hp) (no : Option Rs) : Option Rs :=
  kIf (renIsL ρ la xs && kHas H ρ m.Hl) (match m.b with
    | none => kIf (renIs ρ m.v m.v) (some (m.v, none)) (kIf (renIs ρ m.v (AV.name' ρ m.v)) (forceAV (AV.name' ρ m.v) fun v => some (v, none)) none)
    | some b => kIf (renIs (ρ ++ [kLen H]) m.v (AV.name' (ρ ++ [kLen H]) m.v) && AV.flats b.cells) (forceAV (AV.name' (ρ ++ [kLen H]) m.v) fun v => some (v, some b)) none) no
noncomputable def gMemo1 (m : Memo) (xs : List AV) (H : Hp) (no : Option Rs) : Option Rs := match firstSl xs with
  | some k => gMemo2 m [k] m.la xs H no
  | none => gMemo2 m [] m.la xs H no
noncomputable def gMemo (l : List Memo) (xs : List AV) (H : Hp) : Option Rs := @List.rec Memo (fun _ => Option Rs) none (fun m _ ih => gMemo1 m xs H ih) l

theorem kHas_reads {H : Hp} {ρ : List Nat} {Hl : Hp} (h : kHas H ρ Hl = true) : reads H ρ Hl := by
  unfold kHas at h
  split at h
  · trivial
  · rename_i k b
    rw [kNth_eq] at h
    cases hb : H[k]? with
    | none => rw [hb] at h; cases h
    | some b' =>
      rw [hb] at h
      have h' : (blkEq b b' && (b.ro && kAll sc1 b.cells)) = true := h
      simp only [Bool.and_eq_true] at h'
      obtain ⟨h1, h2⟩ := blkEq_eq h'.1
      exact ⟨⟨b', hb, h2.symm, h1.symm⟩, h'.2.1, kScs_flats h'.2.2, trivial⟩
  · cases h

theorem gMemo2_ok {P : Program} {f : FuncId} {m : Memo} (hm : m.Ok P f) {ρ : List Nat} {xs : List AV} {H : Hp} {no : Option Rs} {v : AV} {b : Option Blk} (h : gMemo2 m ρ m.la xs H no = some (v, b))
    {κ : AV → Hp → Prop} (hk : κ v (H ++ b.toList)) : callVC (CallsTo P) f xs H κ ∨ no = some (v, b) := by
  unfold gMemo2 at h
  simp only [kIf_eq, kLen_eq] at h
  split at h
  · rename_i hc
    left
    simp only [Bool.and_eq_true] at hc
    have hrd := kHas_reads hc.2
    have hla := renIsL_eq (fun k k' e => renN_of (base := H.length) e) _ _ hc.1
    have hok : CallsTo P f m.la m.Hl m.v (m.Hl ++ m.b.toList) := hm
    cases hb : m.b with
    | none =>
      rw [hb] at h hok
      have hg : graft ρ H m.Hl (m.Hl ++ (none : Option Blk).toList) = H := by
        have := reads_graft (ρ := ρ) (base := H.length) (H := H) ρ m.Hl [] hrd
        simpa [graft] using this
      simp only at h
      split at h
      · rename_i hv
        cases h
        exact ⟨ρ, _, _, _, _, hok, hla, reads_fits _ _ hrd, by rw [hg, renIs_eq (fun k k' e => renN_of e) _ _ hv]; simpa using hk⟩
      · split at h
        · rename_i hv
          rw [forceAV_eq] at h
          cases h
          exact ⟨ρ, _, _, _, _, hok, hla, reads_fits _ _ hrd, by rw [hg, renIs_eq (fun k k' e => renN_of e) _ _ hv]; simpa using hk⟩
        · cases h
    | some b' =>
      rw [hb] at h hok
      simp only at h
      split at h
      · rename_i hv
        simp only [Bool.and_eq_true] at hv
        rw [forceAV_eq] at h
        cases h
        have hg : graft ρ H m.Hl (m.Hl ++ (some b').toList) = H ++ [b'] := by
          have := reads_graft (ρ := ρ) (base := H.length) (H := H) ρ m.Hl [b'] hrd
          simpa [graft, renB, renL_flat _ _ _ hv.2] using this
        exact ⟨ρ, _, _, _, _, hok, hla, reads_fits _ _ hrd, by rw [hg, renIs_eq (fun k k' e => renN_app e) _ _ hv.1]; simpa using hk⟩
      · cases h
  · exact .inr h

theorem gMemo_ok {P : Program} {f : FuncId} {l : List Memo} (hl : ∀ m ∈ l, m.Ok P f) : EntOk P f (.ext (gMemo l)) := by
  intro xs H v b h κ hk
  induction l with
  | nil => cases h
  | cons m ms ih =>
    have h' : gMemo1 m xs H (gMemo ms xs H) = some (v, b) := h
    unfold gMemo1 at h'
    have hm := hl m (by simp)
    have ih' := ih (fun m hm => hl m (List.mem_cons_of_mem _ hm))
    split at h'
    · rcases gMemo2_ok hm h' hk with g | g
      · exact g
      · exact ih' g
    · rcases gMemo2_ok hm h' hk with g | g
      · exact g
      · exact ih' g

end Go.Vc

/- The rest of a body by the interpreter; calls whose answers are known. -/
set_option linter.unusedVariables false
namespace Go.Vc
open Go

/-- Places that are written one after another. -/
def upds : List (Option Nat × AV) → Env → Env
  | [], σ => σ
  | (i, v) :: l, σ => upds l (upd σ i v)

section
variable {α : Type}
noncomputable def kSets (l : List (Option Nat × AV)) : T → (T → Option α) → Option α := @List.rec (Option Nat × AV) (fun _ => T → (T → Option α) → Option α) (fun t k => k t) (fun x _ ih t k => kPutT (x.1.map pth) x.2 t fun t => ih t k) l
theorem kSets_some : ∀ (l : List (Option Nat × AV)) {t : T} {k : T → Option α} {y : α}, kSets l t k = some y → ∃ t', k t' = some y ∧ t'.env = upds l t.env
  | [], t, k, y, h => ⟨t, h, rfl⟩
  | (i, v) :: l, t, k, y, h => by
    have h' : kPutT (i.map pth) v t (fun t => kSets l t k) = some y := h
    rw [kPutT_eq, putT_eq] at h'
    obtain ⟨t', h1, h2⟩ := kSets_some l h'
    exact ⟨t', h1, by rw [h2, putE_env]; rfl⟩
end

/-- The rest of a body. -/
noncomputable def kTail (tab : TT) (fuel d : Nat) (jt : JC) (rs : List JR) (n : Nat) (args : List AV) (l : List (Option Nat × AV)) (H : Hp) : Option Rs :=
  kArgs args paths .e fun t => kSets l t fun t => kC (kCall tab fuel d) fuel jt t H fun e t G => kDone n n (List.range n) rs e t G

theorem tail_ok {P : Program} (hmix : P.follows .mixedOrders = true) {tab : TT} (htab : TabOk P tab) {fuel d : Nat} {rest : Code} {quiet : FuncId → Bool} {jt : JC} (hj : cCode P quiet rest = some jt) {fn : Func} {rs : List JR} (hrs : cRes P fn.results.toList = some rs)
    {Hl N : Hp} (hfl : ∀ b ∈ Hl, AV.flats b.cells = true ∧ b.ro = true) {args : List AV} {l : List (Option Nat × AV)} {v : AV} (h : kTail tab fuel d jt rs Hl.length args l (Hl ++ N) = some (v, none)) {R : Ex → Env → Hp → Prop}
    (hR : ∀ σ G τ, resVC P fn σ G = some (ren τ G.length v) → kept Hl.length τ G Hl → R .ret σ G ∧ R .normal σ G) : vc P (CallsTo P) rest (upds l (env0 args)) (Hl ++ N) R := by
  obtain ⟨t0, h2, henv⟩ := ofListK_env0 (kArgs_some args paths_ok h)
  obtain ⟨t1, h3, henv1⟩ := kSets_some l h2
  rw [kC_eq] at h3
  obtain ⟨e', t2, G, h4, hro, h5⟩ := code_run ((kCall_ok hmix htab fuel d).r []) rest hj (fun k bl h => by simp at h) h3
  have hend : (e' = .ret ∨ e' = .normal) ∧ endJ Hl.length Hl.length (List.range Hl.length) t2 G rs = some (v, none) := by
    cases e' with
    | exit _ => cases h4
    | normal => exact ⟨.inr rfl, (kEnd_eq _ _ _ _ _ _).symm.trans h4⟩
    | ret => exact ⟨.inl rfl, (kEnd_eq _ _ _ _ _ _).symm.trans h4⟩
  have hrd : reads Hl (List.range Hl.length) Hl := by
    have := reads_self Hl hfl []
    rwa [List.range_eq_range']
  have hG : G.take Hl.length = Hl := roK_take (fun k bl hk hb => hro k bl (by rw [List.getElem?_append_left (List.getElem?_eq_some_iff.1 hk).1]; exact hk) hb) fun b hb => (hfl b hb).2
  obtain ⟨r, Hl', τ, q1, q2, q3, q4, q5⟩ := endJ_some (P := P) (fn := fn) (ρ := List.range Hl.length) hrs (by simp) (fun b hb => (hfl b hb).1) hG hrd (by rw [List.length_range]; exact hend.2)
  rw [ren_id] at q3
  subst q3
  have q5' : Hl' = Hl := by simpa using q5
  subst q5'
  have := hR _ _ _ q1 q2
  rw [← henv, ← henv1]
  refine h5 _ ?_
  rcases hend.1 with rfl | rfl
  · exact this.1
  · exact this.2

/-- A call whose answer is known, over these blocks. -/
def Known (P : Program) (f : FuncId) (args : List AV) (r : AV) (H : Hp) : Prop := ∀ κ : AV → Hp → Prop, κ r H → callVC (CallsTo P) f args H κ

theorem s_known {P : Program} {ops : Array Oper} {rest : List Oper} {σ : Env} {H : Hp} {K : Env → Hp → Prop} {d : Option Nat} {tp : TypeId} {pos : String} {af : Array Edge} {g : Operand} {xs : Array Operand} {ts : Array TypeId} {f : FuncId} {cap args : List AV} {r : AV}
    (hg : ev σ g = .fn f cap) (ha : xs.toList.map (ev σ) ++ cap = args) (hc : Known P f args r H) (h : opsVC P (CallsTo P) ops rest (upd σ d r) H K) :
    opsVC P (CallsTo P) ops (⟨d, .call { callee := .value g, args := xs, argTypes := ts }, tp, pos, af, none⟩ :: rest) σ H K := by
  simp only [opsVC, guardVC, opVC, opV, hg, ha]
  exact hc _ h

theorem known_of {P : Program} {f : FuncId} {la : List AV} {Hl : Hp} {r : AV} (hc : CallsTo P f la Hl r Hl) {H : Hp} (ρ : List Nat) (hrd : reads H ρ Hl) {args : List AV} (hr : renL ρ H.length la = args) (hv : r.flat = true) : Known P f args r H := fun κ hk =>
  ⟨ρ, Hl, Hl, la, r, hc, hr, reads_fits _ _ hrd, by
    have := reads_graft (ρ := ρ) (base := H.length) (H := H) ρ Hl [] hrd
    rw [ren_flat _ _ _ hv, show graft ρ H Hl Hl = H from by simpa [graft] using this]; exact hk⟩

/-! ### from contracts to calls -/
/-- The cells of a slice that came in. -/
theorem below_of {w w' : World} {β : Map} {H : Hp} (hro : ∀ b ∈ H, b.ro = true) (h : Fr w w' (wr β H)) : Go.RowKit.Below w.heap.size w w' := by
  refine ⟨h.os, h.tape, h.output, h.size, fun k hk => h.block k hk ?_⟩
  rintro ⟨j, bl, pl, h1, h2, -, -⟩
  have := hro bl (List.mem_of_getElem? h1)
  rw [h2] at this; cases this
end Go.Vc
