/- The generator is right. -/
import Derived.Test.YtkbpkocalmcphaaA1
import Derived.Laws.AppendOwn
import Derived.Laws.OwnMore
import Derived.Laws.Externs
/- Each operation, but for calls (2). -/
namespace Go.Vc
open Go

variable {P : Program}

theorem run_fieldAt (w : World) {t : TypeId} {F : Array Field} {j : Nat} {f : Field} {i : TypeInfo} (b o : Nat) (hu : P.underlying t = some (.struct F)) (hf : F[j]? = some f) (hi : P.info? f.type = some i) (hz : i.size ≠ 0) :
    (Instr.fieldAt t (.pointer (some ⟨b, o, none⟩)) j).run P w = .ok (.pointer (some ⟨b, o + f.offset, none⟩)) w := by
  simp [Instr.fieldAt, run_underlying hu, hf, Instr.sureAddr, fieldPlace, run_sizeOf' w hi, hz, add_eq]

theorem field_of {F : Array Field} {fs : List (Nat × TypeId)} (h : F.toList.map (fun f => (f.offset, f.type)) = fs) {j off ft : Nat} (hj : fs[j]? = some (off, ft)) : ∃ f, F[j]? = some f ∧ f.offset = off ∧ f.type = ft := by
  rw [← h, List.getElem?_map, Array.getElem?_toList] at hj
  cases hf : F[j]? with
  | none => rw [hf] at hj; simp at hj
  | some f => rw [hf] at hj; simp at hj; exact ⟨f, rfl, hj.1, hj.2⟩

theorem VRs.drop {β : Map} {xs : List AV} {vs : List Value} (h : VRs β xs vs) (n : Nat) : VRs β (xs.drop n) (vs.drop n) := by
  induction n generalizing xs vs with
  | zero => simpa using h
  | succ n ih => cases h with
    | nil => simpa using VRs.nil
    | cons x v xs vs h t => simpa using ih t
theorem VRs.take {β : Map} {xs : List AV} {vs : List Value} (h : VRs β xs vs) (n : Nat) : VRs β (xs.take n) (vs.take n) := by
  induction n generalizing xs vs with
  | zero => simpa using VRs.nil
  | succ n ih => cases h with
    | nil => simpa using VRs.nil
    | cons x v xs vs h t => simpa using VRs.cons _ _ _ _ h (ih t)

theorem sound_part {β : Map} {t : TypeId} {ti : TI} {cells : List AV} {cs : Array Value} {o : Nat} {x : AV} (w : World) (ht : tof P t = some ti) (hc : VRs β cells cs.toList) (h : readAt cells o ti = some x) : Val P β x (part t cs o) w := by
  obtain ⟨i, d, z, hT⟩ := tof_spec ht
  have ha := run_isAgg' w hT.under
  rw [hT.shape] at ha
  unfold readAt at h
  split at h
  · rename_i hagg
    rw [hagg] at ha
    split at h
    · cases h
      refine .of_run (v := .agg (cs.extract o (o + ti.size))) ?_ (.ag _ _ ?_)
      · simp [part, ha, run_sizeOf' w hT.info, hT.size]
      · have := (hc.drop o).take ti.size
        simpa [Array.toList_extract, List.extract_eq_take_drop] using this
    · cases h
  · rename_i hagg
    rw [Bool.not_eq_true] at hagg
    rw [hagg] at ha
    obtain ⟨v, hv, hr⟩ := hc.get h
    refine .of_run (v := v) ?_ hr
    have : cs[o]? = some v := by simpa using hv
    simp [part, ha, this]

section
variable {n : Nat} {E : Entry} {σ : Env} {H : Hp} {K : Env → Hp → Prop} {d : Option Nat} {tp : TypeId} {pos : String} {af : Array Edge} {g : Option (Nat × Bool)} {Φ : Contract}

theorem o_load {t : TypeId} {x : Operand} (h : opVC P Φ ⟨d, .load t x, tp, pos, af, g⟩ σ H K) : Steps1 P n E σ H ⟨d, .load t x, tp, pos, af, g⟩ K := by
  intro β a w next Q hR hd hn
  simp only [opVC, opV] at h
  split at h
  · rename_i k o hx
    have hv := hR.ev x
    rw [hx] at hv
    generalize hce : a.eval x = cv at hv
    cases hv with
    | p _ _ pl hp =>
    split at h
    · rename_i y hy
      refine wp_val (s := Instr.loadAt t (a.eval x)) hR hd rfl ?_ h hn
      rw [hce]
      have hL := sound_load (w := w) hR.heap hp hy
      obtain ⟨v, w', h1, h2, h3⟩ := hL
      exact ⟨v, w', by simp [Instr.loadAt, Instr.sureAddr, h1], h2, h3⟩
    · exact h.elim
  · exact h.elim

theorem o_nilCheck {x : Operand} (h : opVC P Φ ⟨d, .nilCheck x, tp, pos, af, g⟩ σ H K) : Steps1 P n E σ H ⟨d, .nilCheck x, tp, pos, af, g⟩ K := by
  intro β a w next Q hR hd hn
  simp only [opVC, opV] at h
  split at h
  · rename_i k o hx
    have hv := hR.ev x
    rw [hx] at hv
    generalize hce : a.eval x = cv at hv
    cases hv with
    | p _ _ pl hp =>
    refine wp_val (s := pure (.pointer (some ⟨pl.blk, pl.off + o, none⟩))) hR hd ?_ (.pure (.p _ _ pl hp)) h hn
    simp [execOp, hce]
  · exact h.elim

theorem o_un {op : UnOp} {t : TypeId} {x : Operand} (h : opVC P Φ ⟨d, .unOp op t x, tp, pos, af, g⟩ σ H K) : Steps1 P n E σ H ⟨d, .unOp op t x, tp, pos, af, g⟩ K := by
  intro β a w next Q hR hd hn
  simp only [opVC, opV] at h
  split at h
  · rename_i y hy
    exact wp_val (s := Op.unary op (a.eval x)) hR hd rfl (sound_un w (hR.ev x) hy) h hn
  · exact h.elim

theorem o_convert {s t : TypeId} {x : Operand} (h : opVC P Φ ⟨d, .convert s t x, tp, pos, af, g⟩ σ H K) : Steps1 P n E σ H ⟨d, .convert s t x, tp, pos, af, g⟩ K := by
  intro β a w next Q hR hd hn
  simp only [opVC, opV] at h
  split at h
  · rename_i si ti hs ht
    split at h
    · rename_i y hy
      exact wp_val (s := convert s t (a.eval x)) hR hd rfl (sound_conv w hs ht (hR.ev x) hy) h hn
    · exact h.elim
  · exact h.elim

theorem eqGuard_pure {β : Map} {op : BinOp} {sh : Option Shape} {x y z : AV} {v u : Value} (t : TypeId) (p q : Operand) (hx : VR β x v) (hy : VR β y u) (h : bin op sh x y = some z) : eqGuard op t p q v u = pure () := by
  cases hx <;> cases hy <;> simp only [bin, reduceCtorEq] at h <;> (unfold eqGuard; split <;> rfl)

theorem o_bin {op : BinOp} {t ty : TypeId} {x y : Operand} (h : opVC P Φ ⟨d, .binOp op t x y ty, tp, pos, af, g⟩ σ H K) : Steps1 P n E σ H ⟨d, .binOp op t x y ty, tp, pos, af, g⟩ K := by
  intro β a w next Q hR hd hn
  simp only [opVC, opV] at h
  split at h
  · rename_i z hz
    refine wp_val (s := do eqGuard op t x y (a.eval x) (a.eval y); binOp op t (a.eval x) (a.eval y)) hR hd rfl ?_ h hn
    rw [eqGuard_pure t x y (hR.ev x) (hR.ev y) hz]
    exact sound_bin w (hR.ev x) (hR.ev y) hz
  · exact h.elim

theorem o_fieldAddr {t : TypeId} {x : Operand} {j : Nat} (h : opVC P Φ ⟨d, .fieldAddr t x j, tp, pos, af, g⟩ σ H K) : Steps1 P n E σ H ⟨d, .fieldAddr t x j, tp, pos, af, g⟩ K := by
  intro β a w next Q hR hd hn
  simp only [opVC, opV] at h
  split at h
  · rename_i ti k o ht hx
    obtain ⟨i, dd, z, hT⟩ := tof_spec ht
    have hv := hR.ev x
    rw [hx] at hv
    generalize hce : a.eval x = cv at hv
    cases hv with
    | p _ _ pl hp =>
    have hsh := hT.shape
    split at h
    · rename_i fs hs
      rw [hs] at hsh
      obtain ⟨F, rfl, hF⟩ := shape_struct hsh
      split at h
      · rename_i off ft hf
        split at h
        · rename_i fi hfi
          obtain ⟨i', dd', z', hT'⟩ := tof_spec hfi
          obtain ⟨hz, h⟩ := h
          obtain ⟨f, h1, h2, h3⟩ := field_of hF hf
          subst h2; subst h3
          refine wp_val (s := Instr.fieldAt t (a.eval x) j) hR hd rfl ?_ h hn
          rw [hce]
          refine .of_run (run_fieldAt w pl.blk (pl.off + o) hT.under h1 hT'.info (by rw [hT'.size]; exact hz)) ?_
          rw [Nat.add_assoc]; exact .p _ _ pl hp
        · exact h.elim
      · exact h.elim
    · exact h.elim
  · exact h.elim

theorem o_field {t : TypeId} {x : Operand} {j : Nat} (h : opVC P Φ ⟨d, .field t x j, tp, pos, af, g⟩ σ H K) : Steps1 P n E σ H ⟨d, .field t x j, tp, pos, af, g⟩ K := by
  intro β a w next Q hR hd hn
  simp only [opVC, opV] at h
  split at h
  · rename_i ti cs ht hx
    obtain ⟨i, dd, z, hT⟩ := tof_spec ht
    have hv := hR.ev x
    rw [hx] at hv
    generalize hce : a.eval x = cv at hv
    cases hv with
    | ag _ vs hvs =>
    have hsh := hT.shape
    split at h
    · rename_i fs hs
      rw [hs] at hsh
      obtain ⟨F, rfl, hF⟩ := shape_struct hsh
      split at h
      · rename_i off ft hf
        split at h
        · rename_i fi hfi
          split at h
          · rename_i y hy
            obtain ⟨f, h1, h2, h3⟩ := field_of hF hf
            subst h2; subst h3
            refine wp_val (s := Instr.field t (a.eval x) j) hR hd rfl ?_ h hn
            rw [hce]
            obtain ⟨v, w', r1, r2, r3⟩ := sound_part w hfi hvs hy
            exact ⟨v, w', by simp [Instr.field, run_underlying hT.under, h1, asAgg, r1], r2, r3⟩
          · exact h.elim
        · exact h.elim
      · exact h.elim
    · exact h.elim
  · exact h.elim

theorem o_extract {x : Operand} {j : Nat} (h : opVC P Φ ⟨d, .extract x j, tp, pos, af, g⟩ σ H K) : Steps1 P n E σ H ⟨d, .extract x j, tp, pos, af, g⟩ K := by
  intro β a w next Q hR hd hn
  simp only [opVC, opV] at h
  split at h
  · rename_i vs hx
    have hv := hR.ev x
    rw [hx] at hv
    generalize hce : a.eval x = cv at hv
    cases hv with
    | tu _ cs hvs =>
    split at h
    · rename_i y hy
      obtain ⟨v, h1, h2⟩ := hvs.get hy
      refine wp_val (s := Instr.extract (a.eval x) j) hR hd rfl ?_ h hn
      rw [hce]
      have : cs[j]? = some v := by simpa using h1
      exact .of_run (by simp [Instr.extract, this]) h2
    · exact h.elim
  · exact h.elim

theorem o_makeFunc {f : FuncId} {first cap : Array Operand} (h : opVC P Φ ⟨d, .makeFunc (.func f) first cap, tp, pos, af, g⟩ σ H K) : Steps1 P n E σ H ⟨d, .makeFunc (.func f) first cap, tp, pos, af, g⟩ K := by
  intro β a w next Q hR hd hn
  simp only [opVC, opV] at h
  split at h
  · rename_i hf
    have hf' : first = #[] := Array.eq_empty_of_size_eq_zero hf
    subst hf'
    refine wp_val (s := pure (.func (.func f) #[] (cap.map a.eval))) hR hd (by simp [execOp, Instr.makeFunc]) (.pure (.fn _ _ _ ?_)) h hn
    have := hR.evs cap.toList
    simpa using this
  · exact h.elim

theorem o_store {t : TypeId} {x y : Operand} (h : opVC P Φ ⟨d, .store t x y, tp, pos, af, g⟩ σ H K) : Steps1 P n E σ H ⟨d, .store t x y, tp, pos, af, g⟩ K := by
  intro β a w next Q hR hd hn
  simp only [opVC, opV] at h
  split at h
  · rename_i k o hx
    have hv := hR.ev x
    rw [hx] at hv
    generalize hce : a.eval x = cv at hv
    cases hv with
    | p _ _ pl hp =>
    split at h
    · rename_i H' hst
      unfold store at hst
      split at hst
      · rename_i ti bl ht hb
        obtain ⟨i, dd, z, hT⟩ := tof_spec ht
        split at hst
        · rename_i hc
          obtain ⟨hro, hlen, hle, hcell⟩ := hc
          cases hst
          have hB : BR P β w pl bl := by obtain ⟨pl', h1, h2⟩ := hR.heap.at_ k bl hb; rw [hp] at h1; cases h1; exact h2
          obtain ⟨hoff, cs, hcs, hcl, hsz⟩ := hB.own hro
          have hy := hR.ev y
          have hu : ev σ y ≠ .u := fun e => by rw [e] at hcell; simp [AV.cells, AV.isCell] at hcell
          have hys := hy.cells hu
          have hl2 := hys.length
          rw [hlen] at hl2
          simp only [Array.length_toList] at hl2
          obtain ⟨w', cs', r1, r2, r3, r4, r5, r6, r7, r8, r9⟩ := run_storeCells' (P := P) pl.blk (pl.off + o) bl.ty (a.eval y).cells.toList 0 w cs hcs (by simp; omega) (hys.oneCell hcell)
          unfold Oper.wp
          have hrun : (execOp a.eval ⟨d, .store t x y, tp, pos, af, g⟩).run P w = .ok .skip w' := by
            have hne : ¬ (a.eval y).cells.size ≠ i.size := by rw [hT.size]; omega
            simp only [execOp, hce, Instr.storeAt, Instr.sureAddr, storeVar, Sem.run_bind, Sem.run_pure, Result.andThen_ok, run_sizeOf' w hT.info, hne, if_false, r1]
          rw [hrun]
          refine hn _ _ _ _ _ ((hR.stored hb hro hp r2 ⟨fun ti' h' => by rw [r3]; exact hsz.1 ti' h', hsz.2⟩ (by rw [splice_length (by rw [hlen]; omega), r3]; exact hcl) (fun j q hq => ?_) r5 r6 r7 r8 r9).put hd (.u _)) h
          rw [splice_get (by rw [hlen]; omega)] at hq
          rw [r4 j, hoff, Nat.zero_add, Nat.add_zero]
          by_cases hj : o ≤ j ∧ j < o + (ev σ y).cells.length
          · rw [if_pos hj] at hq
            rw [if_pos (by simp; omega)]
            exact hys.get hq
          · rw [if_neg hj] at hq
            rw [if_neg (by simp; omega)]
            obtain ⟨v, hv1, hv2⟩ := hB.cells j q hq
            refine ⟨v, ?_, hv2⟩
            simpa [World.cell?, hcs, hoff] using hv1
        · cases hst
      · cases hst
    · exact h.elim
  · exact h.elim

theorem o_indexAddr {t : TypeId} {x ix : Operand} (h : opVC P Φ ⟨d, .indexAddr t x ix, tp, pos, af, g⟩ σ H K) : Steps1 P n E σ H ⟨d, .indexAddr t x ix, tp, pos, af, g⟩ K := by
  intro β a w next Q hR hd hn
  simp only [opVC, opV] at h
  have hv := hR.ev x
  have hi := hR.ev ix
  split at h
  · rename_i ti k o m cap kk j ht hx hix
    obtain ⟨i, dd, z, hT⟩ := tof_spec ht
    rw [hx] at hv; rw [hix] at hi
    generalize hce : a.eval x = cv at hv
    generalize hie : a.eval ix = iv at hi
    cases hi
    cases hv with
    | sl _ _ _ _ c pl ad hp hc hle ha =>
    have hsh := hT.shape
    split at h
    · rename_i e hs
      rw [hs] at hsh
      have hd2 := shape_slice hsh; subst hd2
      split at h
      · rename_i ei he
        obtain ⟨ie, de, ze, hTe⟩ := tof_spec he
        obtain ⟨hb, h⟩ := h
        obtain rfl : ad = pl.off + o := by rcases ha with e | ⟨e, -⟩; exact e; omega
        refine wp_val (s := Instr.indexAt t (a.eval x) (a.eval ix)) hR hd rfl ?_ h hn
        rw [hce, hie]
        refine .of_run (v := .pointer (some ⟨pl.blk, pl.off + (o + j.toNat * ei.size), none⟩)) ?_ (.p _ _ pl hp)
        simp only [Instr.indexAt, asIntOf, Sem.run_bind, Sem.run_pure, Result.andThen_ok, run_underlying hT.under]
        simp [hb.1, hb.2, run_sizeOf' w hTe.info, hTe.size, add_eq, Nat.add_assoc]
      · exact h.elim
    · exact h.elim
  · rename_i ti k o kk j ht hx hix
    obtain ⟨i, dd, z, hT⟩ := tof_spec ht
    rw [hx] at hv; rw [hix] at hi
    generalize hce : a.eval x = cv at hv
    generalize hie : a.eval ix = iv at hi
    cases hi
    cases hv with
    | p _ _ pl hp =>
    have hsh := hT.shape
    split at h
    · rename_i m e hs
      rw [hs] at hsh
      have hd2 := shape_array hsh; subst hd2
      split at h
      · rename_i ei he
        obtain ⟨ie, de, ze, hTe⟩ := tof_spec he
        obtain ⟨hb, h⟩ := h
        refine wp_val (s := Instr.indexAt t (a.eval x) (a.eval ix)) hR hd rfl ?_ h hn
        rw [hce, hie]
        refine .of_run (v := .pointer (some ⟨pl.blk, pl.off + (o + j.toNat * ei.size), none⟩)) ?_ (.p _ _ pl hp)
        simp only [Instr.indexAt, asIntOf, Sem.run_bind, Sem.run_pure, Result.andThen_ok, run_underlying hT.under]
        simp [hb.1, hb.2, run_sizeOf' w hTe.info, hTe.size, add_eq, Nat.add_assoc, Instr.sureAddr]
      · exact h.elim
    · exact h.elim
  · exact h.elim

theorem o_index {t : TypeId} {x ix : Operand} (h : opVC P Φ ⟨d, .index t x ix, tp, pos, af, g⟩ σ H K) : Steps1 P n E σ H ⟨d, .index t x ix, tp, pos, af, g⟩ K := by
  intro β a w next Q hR hd hn
  simp only [opVC, opV] at h
  have hv := hR.ev x
  have hi := hR.ev ix
  split at h
  · rename_i ti cs kk j ht hx hix
    obtain ⟨i, dd, z, hT⟩ := tof_spec ht
    rw [hx] at hv; rw [hix] at hi
    generalize hce : a.eval x = cv at hv
    generalize hie : a.eval ix = iv at hi
    cases hi
    cases hv with
    | ag _ vs hvs =>
    have hsh := hT.shape
    split at h
    · rename_i m e hs
      rw [hs] at hsh
      have hd2 := shape_array hsh; subst hd2
      split at h
      · rename_i ei he
        obtain ⟨ie, de, ze, hTe⟩ := tof_spec he
        obtain ⟨hb, h⟩ := h
        split at h
        · rename_i y hy
          refine wp_val (s := Instr.index t (a.eval x) (a.eval ix)) hR hd rfl ?_ h hn
          rw [hce, hie]
          obtain ⟨v, w', r1, r2, r3⟩ := sound_part w he hvs hy
          refine ⟨v, w', ?_, r2, r3⟩
          simp only [Instr.index, asIntOf, Sem.run_bind, Sem.run_pure, Result.andThen_ok, run_underlying hT.under]
          simp [hb.1, hb.2, run_sizeOf' w hTe.info, hTe.size, r1]
        · exact h.elim
      · exact h.elim
    · exact h.elim
  · rename_i ti s kk j ht hx hix
    obtain ⟨i, dd, z, hT⟩ := tof_spec ht
    rw [hx] at hv; rw [hix] at hi
    generalize hce : a.eval x = cv at hv
    generalize hie : a.eval ix = iv at hi
    cases hi
    cases hv
    have hsh := hT.shape
    split at h
    · rename_i hs
      rw [hs] at hsh
      have hd2 := shape_string hsh; subst hd2
      obtain ⟨hb, h⟩ := h
      refine wp_val (s := Instr.index t (a.eval x) (a.eval ix)) hR hd rfl ?_ h hn
      rw [hce, hie]
      have hlt : j.toNat < s.size := by omega
      have hg : s[j.toNat]? = some (s.data.toList.getD j.toNat 0) := by
        rw [getElem?_pos s j.toNat hlt]
        congr 1
        show s.data[j.toNat] = _
        rw [List.getD_eq_getElem?_getD, Array.getElem?_toList, Array.getElem?_eq_getElem hlt]; rfl
      refine .of_run (v := .int .u8 (s.data.toList.getD j.toNat 0).toNat) ?_ (.i _ _)
      simp only [Instr.index, asIntOf, Sem.run_bind, Sem.run_pure, Result.andThen_ok, run_underlying hT.under]
      simp [hb.1, hg]
    · exact h.elim
  · exact h.elim

theorem sound_len {β : Map} {t : TypeId} {ti : TI} {x z : AV} {v : Value} (w : World) (ht : tof P t = some ti) (hx : VR β x v) (h : lenAV ti.shape x = some z) : Val P β z (Builtin.len_ #[t] 3 #[v]) w := by
  obtain ⟨i, d, z', hT⟩ := tof_spec ht
  have hsh := hT.shape
  have hu := hT.under
  unfold lenAV at h
  split at h
  · rename_i s e; rw [e] at hsh; have := shape_string hsh; subst this; cases hx; cases h
    exact .of_run (v := goInt s.size) (by simp [Builtin.len_, run_underlying hu]) (.i _ _)
  · rename_i e0 k o n c e; rw [e] at hsh; have := shape_slice hsh; subst this; cases hx; cases h
    exact .of_run (v := goInt n) (by simp [Builtin.len_, run_underlying hu]) (.i _ _)
  · rename_i e0 e; rw [e] at hsh; have := shape_slice hsh; subst this; cases hx; cases h
    exact .of_run (v := goInt 0) (by simp [Builtin.len_, run_underlying hu]) (.i _ _)
  · rename_i n e0 e; rw [e] at hsh; have := shape_array hsh; subst this; cases h
    exact .of_run (v := goInt n) (by simp [Builtin.len_, run_underlying hu]) (.i _ _)
  · cases h

theorem sound_max {β : Map} {x y z : AV} {v u : Value} (w : World) (hx : VR β x v) (hy : VR β y u) (h : maxAV x y = some z) : Val P β z (Builtin.max2 v u) w := by
  cases hx <;> cases hy <;> simp only [maxAV, reduceCtorEq] at h
  case i.i k a k' b =>
    split at h
    · rename_i e; subst e; cases h; exact .of_run (by simp [Builtin.max2]) (.i _ _)
    · cases h
  case f.f k a a' ha k' b b' hb =>
    split at h
    · rename_i e; subst e
      rw [← order_canon ha hb] at h
      cases ho : k.format.order a' b' with
      | none =>
        rw [ho] at h; cases h
        refine ⟨.float k ((Question.nanMinMax k true a' b').cut (w.tape w.drawn (.nanMinMax k true a' b'))), w.drew, by simp [Builtin.max2, ho, Question.forced], ⟨rfl, rfl, rfl, rfl⟩, .f _ _ _ (canon_of_nan (cut_nanMinMax k true a' b' _))⟩
      | some c =>
        rw [ho] at h
        have hna : (k.decode a').isNaN = false := by
          cases hda : k.decode a' with
          | nan s t =>
            have : k.format.order a' b' = none := by
              show (k.decode a').order (k.decode b') = none
              rw [hda]; rfl
            rw [this] at ho; cases ho
          | _ => rfl
        rw [canon_of_not hna] at ha
        subst ha
        cases c <;> simp only [Option.some.injEq] at h <;> subst h
        · exact .of_run (v := .float k b') (by simp [Builtin.max2, ho]) (.f _ _ _ hb)
        · refine .of_run (v := .float k (if (k.decode a').neg then b' else a')) (by simp [Builtin.max2, ho]) (.f _ _ _ ?_)
          split
          · exact hb
          · exact canon_of_not hna
        · exact .of_run (v := .float k a') (by simp [Builtin.max2, ho]) (.f _ _ _ (canon_of_not hna))
    · cases h

theorem sound_builtin {β : Map} {bi : Builtin} {xs : List AV} {vs : Array Value} {ts : Array TypeId} {tp : TypeId} {z : AV} (w : World) (hx : VRs β xs vs.toList) (h : builtinAV bi xs = some z) :
    ∃ s : Sem Value, (∀ cs, builtin bi ts tp cs vs = (do pure (.value (← s)))) ∧ Val P β z s w := by
  unfold builtinAV at h
  split at h
  · rename_i k x y
    cases h
    obtain ⟨l⟩ := vs
    cases hx with | cons _ v _ us hv ht => cases ht; cases hv with | c _ _ _ x' y' e e' =>
    exact ⟨_, fun _ => rfl, .of_run (v := .float k x') rfl (.f _ _ _ e)⟩
  · rename_i k x y
    cases h
    obtain ⟨l⟩ := vs
    cases hx with | cons _ v _ us hv ht => cases ht; cases hv with | c _ _ _ x' y' e e' =>
    exact ⟨_, fun _ => rfl, .of_run (v := .float k y') rfl (.f _ _ _ e')⟩
  · rename_i k x k' y
    split at h
    · rename_i e; subst e; cases h
      obtain ⟨l⟩ := vs
      cases hx with | cons _ v _ us hv ht => cases ht with | cons _ u _ us hu ht => cases ht; cases hv with | f _ _ x' e => cases hu with | f _ _ y' e' =>
      exact ⟨_, fun _ => rfl, .of_run (run_complex w _ _ _ _ _) (.c _ _ _ _ _ e e')⟩
    · cases h
  · rename_i x y
    obtain ⟨l⟩ := vs
    cases hx with
    | cons _ v _ us hv ht =>
    cases ht with
    | cons _ u _ us hu ht =>
    cases ht
    obtain ⟨r, w', h1, h2, h3⟩ := sound_max (P := P) w hv hu h
    exact ⟨_, fun _ => rfl, r, w', by simp [Builtin.max_, h1], h2, h3⟩
  · cases h

theorem run_sliceBounds (w : World) (isS : Bool) (len cap : Nat) (lo hi : Option Value) (l h : Nat)
    (hlo : lo = none ∧ l = 0 ∨ ∃ k, lo = some (.int k l)) (hhi : hi = none ∧ h = len ∨ ∃ k, hi = some (.int k h)) (hl : l ≤ h) (hh : h ≤ cap) :
    (Instr.sliceBounds isS len cap lo hi none).run P w = .ok (l, h, cap) w := by
  rcases hlo with ⟨rfl, rfl⟩ | ⟨k, rfl⟩ <;> rcases hhi with ⟨rfl, rfl⟩ | ⟨k', rfl⟩ <;>
    simp [Instr.sliceBounds, Instr.sliceBound, asIntOf, hl, hh]

/-- A bound's number. -/
theorem num_spec {β : Map} {lo : Option AV} {lo' : Option Value} {d l : Nat} {f : Nat → Option AV → Option Nat} (hf : f = fun (d : Nat) (o : Option AV) => match o with
      | none => some d
      | some (.i _ n) => if 0 ≤ n then some n.toNat else none
      | some _ => none) (hlo : ∀ y, lo = some y → ∃ u, lo' = some u ∧ VR β y u) (hlo0 : lo = none → lo' = none) (h : f d lo = some l) : lo' = none ∧ l = d ∨ ∃ k, lo' = some (.int k l) := by
  subst hf
  cases lo with
  | none => simp at h; exact .inl ⟨hlo0 rfl, h.symm⟩
  | some y =>
    obtain ⟨u, rfl, hv⟩ := hlo y rfl
    cases hv <;> simp only [reduceCtorEq] at h
    split at h
    · cases h
      rename_i k n hn
      refine .inr ⟨k, ?_⟩
      congr 2; omega
    · cases h

theorem sound_slice {β : Map} {t : TypeId} {x z : AV} {v : Value} {lo hi mx : Option AV} {lo' hi' mx' : Option Value} (w : World) (hx : VR β x v)
    (hlo : ∀ y, lo = some y → ∃ u, lo' = some u ∧ VR β y u) (hlo0 : lo = none → lo' = none) (hhi : ∀ y, hi = some y → ∃ u, hi' = some u ∧ VR β y u) (hhi0 : hi = none → hi' = none) (hmx0 : mx = none → mx' = none)
    (h : sliceAV P t x lo hi mx = some z) : Val P β z (Instr.sliceAt t v lo' hi' mx') w := by
  unfold sliceAV at h
  extract_lets num at h
  split at h
  · rename_i ti s ht
    obtain ⟨i, d, z', hT⟩ := tof_spec ht
    have hsh := hT.shape
    split at h
    · rename_i l hh e e1 e2
      rw [e] at hsh; have := shape_string hsh; subst this
      split at h
      · rename_i hle
        cases h; cases hx
        have h1 := num_spec (f := num) rfl hlo hlo0 e1
        have h2 := num_spec (f := num) rfl hhi hhi0 e2
        have hm := hmx0 rfl
        subst hm
        refine .of_run (v := .string (s.extract l hh)) ?_ (.s _)
        simp [Instr.sliceAt, Instr.slice, run_underlying hT.under, run_sliceBounds w false s.size s.size lo' hi' l hh h1 h2 hle.1 hle.2]
      · cases h
    · cases h
  · rename_i ti k o n cap ht
    obtain ⟨i, d, z', hT⟩ := tof_spec ht
    have hsh := hT.shape
    split at h
    · rename_i e l hh e0 e1 e2
      rw [e0] at hsh; have := shape_slice hsh; subst this
      split at h
      · rename_i ei he
        obtain ⟨ie, de, ze, hTe⟩ := tof_spec he
        split at h
        · rename_i hle
          cases h
          cases hx with | sl _ _ _ _ c pl ad hp hc hn ha =>
          have h1 := num_spec (f := num) rfl hlo hlo0 e1
          have h2 := num_spec (f := num) rfl hhi hhi0 e2
          have hm := hmx0 rfl
          subst hm
          refine .of_run (v := .slice (some ⟨pl.blk, if c = l then ad else ad + l * ei.size, none⟩) (hh - l) (c - l)) ?_ (.sl _ _ _ _ _ pl _ hp ?_ (by omega) ?_)
          · have hb := run_sliceBounds (P := P) w true n c lo' hi' l hh h1 h2 hle.1 (by omega)
            simp only [Instr.sliceAt, Instr.slice, Sem.run_bind, run_underlying hT.under, Result.andThen_ok, hb, run_sizeOf' w hTe.info, hTe.size, Sem.run_pure]
            split
            · rfl
            · simp [add_eq]
          · split
            · trivial
            · rename_i hne
              cases cap with
              | ex m => cases l with
                | zero => simpa [Cap.less, Cap.fits] using hc
                | succ l => simp only [Cap.fits] at hc; subst hc; rfl
              | own => cases l with
                | zero => simp only [Cap.less, Cap.fits, Nat.zero_mul, Nat.add_zero, Nat.sub_zero] at hc ⊢; exact hc
                | succ l => trivial
              | any => cases l <;> trivial
          · by_cases hll : l = hh
            · by_cases hl0 : l = 0
              · subst hl0
                simp only [Nat.zero_mul, Nat.add_zero, ne_eq, not_true_eq_false, and_false, if_false]
                rw [show (if c = 0 then ad else ad) = ad from by split <;> rfl]
                rcases ha with ha | ⟨ha, hb⟩
                · exact .inl ha
                · right; refine ⟨by omega, ?_⟩; subst hb; rfl
              · right; exact ⟨by omega, by rw [if_pos ⟨hll, hl0⟩]⟩
            · left
              rw [if_neg (by omega)]
              rcases ha with ha | ⟨ha, -⟩
              · omega
              · omega
        · cases h
      · cases h
    · cases h
  · rename_i ti ht
    obtain ⟨i, d, z', hT⟩ := tof_spec ht
    have hsh := hT.shape
    split at h
    · rename_i e e0 e1 e2
      rw [e0] at hsh; have := shape_slice hsh; subst this
      split at h
      · rename_i ei he
        obtain ⟨ie, de, ze, hTe⟩ := tof_spec he
        cases h; cases hx
        have h1 := num_spec (f := num) rfl hlo hlo0 e1
        have h2 := num_spec (f := num) rfl hhi hhi0 e2
        have hm := hmx0 rfl
        subst hm
        refine .of_run (v := .slice none 0 0) ?_ .ns
        simp [Instr.sliceAt, Instr.slice, run_underlying hT.under, run_sliceBounds w true 0 0 lo' hi' 0 0 h1 h2 (Nat.le_refl _) (Nat.le_refl _), run_sizeOf' w hTe.info]
      · cases h
    · cases h
  · cases h

end
end Go.Vc

/- Calls by contract. -/
namespace Go.Vc
open Go

variable {P : Program}

section
variable {β βl : Map} {ρ : List Nat} {base : Nat}
mutual
theorem VR.unren (hb : ∀ j pl, β (renN ρ base j) = some pl → βl j = some pl) : ∀ (x : AV) (v : Value), VR β (ren ρ base x) v → VR βl x v
  | .u, v, _ => .u v
  | .b _, _, h => by simp only [ren] at h; cases h; exact .b _
  | .i _ _, _, h => by simp only [ren] at h; cases h; exact .i _ _
  | .f _ _, _, h => by simp only [ren] at h; cases h; rename_i h; exact .f _ _ _ h
  | .c _ _ _, _, h => by simp only [ren] at h; cases h; rename_i h h'; exact .c _ _ _ _ _ h h'
  | .s _, _, h => by simp only [ren] at h; cases h; exact .s _
  | .p _ _, _, h => by simp only [ren] at h; cases h; rename_i h; exact .p _ _ _ (hb _ _ h)
  | .sl _ _ _ _, _, h => by simp only [ren] at h; cases h; rename_i h hn hc ha; exact .sl _ _ _ _ _ _ _ (hb _ _ h) hc hn ha
  | .np, _, h => by simp only [ren] at h; cases h; exact .np
  | .ns, _, h => by simp only [ren] at h; cases h; exact .ns
  | .ag xs, _, h => by simp only [ren] at h; cases h; rename_i h; exact .ag _ _ (VRs.unren hb xs _ h)
  | .tu xs, _, h => by simp only [ren] at h; cases h; rename_i h; exact .tu _ _ (VRs.unren hb xs _ h)
  | .fn _ xs, _, h => by simp only [ren] at h; cases h; rename_i h; exact .fn _ _ _ (VRs.unren hb xs _ h)
theorem VRs.unren (hb : ∀ j pl, β (renN ρ base j) = some pl → βl j = some pl) : ∀ (x : List AV) (v : List Value), VRs β (renL ρ base x) v → VRs βl x v
  | [], _, h => by simp only [renL] at h; cases h; exact .nil
  | x :: xs, _, h => by simp only [renL] at h; cases h; rename_i h t; exact .cons _ _ _ _ (VR.unren hb x _ h) (VRs.unren hb xs _ t)
end
mutual
theorem VR.ren' (hb : ∀ j pl, βl j = some pl → β (renN ρ base j) = some pl) : ∀ (x : AV) (v : Value), VR βl x v → VR β (ren ρ base x) v
  | .u, v, _ => .u v
  | .b _, _, h => by simp only [ren]; cases h; exact .b _
  | .i _ _, _, h => by simp only [ren]; cases h; exact .i _ _
  | .f _ _, _, h => by simp only [ren]; cases h; rename_i h; exact .f _ _ _ h
  | .c _ _ _, _, h => by simp only [ren]; cases h; rename_i h h'; exact .c _ _ _ _ _ h h'
  | .s _, _, h => by simp only [ren]; cases h; exact .s _
  | .p _ _, _, h => by simp only [ren]; cases h; rename_i h; exact .p _ _ _ (hb _ _ h)
  | .sl _ _ _ _, _, h => by simp only [ren]; cases h; rename_i h hn hc ha; exact .sl _ _ _ _ _ _ _ (hb _ _ h) hc hn ha
  | .np, _, h => by simp only [ren]; cases h; exact .np
  | .ns, _, h => by simp only [ren]; cases h; exact .ns
  | .ag xs, _, h => by simp only [ren]; cases h; rename_i h; exact .ag _ _ (VRs.ren' hb xs _ h)
  | .tu xs, _, h => by simp only [ren]; cases h; rename_i h; exact .tu _ _ (VRs.ren' hb xs _ h)
  | .fn _ xs, _, h => by simp only [ren]; cases h; rename_i h; exact .fn _ _ _ (VRs.ren' hb xs _ h)
theorem VRs.ren' (hb : ∀ j pl, βl j = some pl → β (renN ρ base j) = some pl) : ∀ (x : List AV) (v : List Value), VRs βl x v → VRs β (renL ρ base x) v
  | [], _, h => by simp only [renL]; cases h; exact .nil
  | x :: xs, _, h => by simp only [renL]; cases h; rename_i h t; exact .cons _ _ _ _ (VR.ren' hb x _ h) (VRs.ren' hb xs _ t)
end
end

theorem renL_get (ρ : List Nat) (base : Nat) : ∀ (xs : List AV) (i : Nat), (renL ρ base xs)[i]? = (xs[i]?).map (ren ρ base)
  | [], i => by simp [renL]
  | x :: xs, 0 => by simp [renL]
  | x :: xs, i + 1 => by simp [renL, renL_get ρ base xs i]
theorem renL_length (ρ : List Nat) (base : Nat) (xs : List AV) : (renL ρ base xs).length = xs.length := by
  induction xs with
  | nil => rfl
  | cons x xs ih => simp [renL, ih]

theorem fits_spec {ρ : List Nat} {base : Nat} {H : Hp} : ∀ (ks : List Nat) (bs : Hp), fitsR ρ base H ks bs → ks.length = bs.length ∧
    ∀ (j k : Nat) (bl : Blk), ks[j]? = some k → bs[j]? = some bl → ∃ bk : Blk, H[k]? = some bk ∧ bk.cells = renL ρ base bl.cells ∧ bk.ty = bl.ty ∧ (bl.ro = false → bk.ro = false ∧ ρ.count k = 1)
  | [], [], _ => ⟨rfl, fun j k bl h => by simp at h⟩
  | k :: ks, bl :: bs, h => by
    obtain ⟨h1, h2⟩ := h
    obtain ⟨r1, r2⟩ := fits_spec ks bs h2
    refine ⟨by simp [r1], fun j k' bl' hk hb => ?_⟩
    cases j with
    | zero => simp at hk hb; subst hk; subst hb; exact h1
    | succ j => exact r2 j k' bl' (by simpa using hk) (by simpa using hb)
  | [], _ :: _, h => h.elim
  | _ :: _, [], h => h.elim

theorem count_one {ρ : List Nat} {k j j' : Nat} (hc : ρ.count k = 1) (h : ρ[j]? = some k) (h' : ρ[j']? = some k) : j = j' := by
  induction ρ generalizing j j' with
  | nil => simp at h
  | cons x xs ih =>
    rw [List.count_cons] at hc
    cases j with
    | zero =>
      cases j' with
      | zero => rfl
      | succ j' =>
        simp at h h'
        subst h
        have : 0 < xs.count x := List.count_pos_iff.2 (List.mem_of_getElem? h')
        simp at hc; omega
    | succ j =>
      cases j' with
      | zero =>
        simp at h h'
        subst h'
        have : 0 < xs.count x := List.count_pos_iff.2 (List.mem_of_getElem? h)
        simp at hc; omega
      | succ j' =>
        simp at h h'
        have h1 : 0 < xs.count k := List.count_pos_iff.2 (List.mem_of_getElem? h)
        split at hc
        · omega
        · rw [ih (by omega) h h']

theorem graftR_not {ρ : List Nat} {base k : Nat} : ∀ (ks : List Nat) (bs bs' H : Hp), (∀ (j : Nat) (b : Blk), ks[j]? = some k → bs[j]? = some b → b.ro = true) → k < H.length → (graftR ρ base ks bs bs' H)[k]? = H[k]?
  | [], [], bs', H, _, hk => by simp only [graftR]; rw [List.getElem?_append_left hk]
  | [], _ :: _, _, _, _, _ => rfl
  | _ :: _, [], _, _, _, _ => rfl
  | _ :: _, _ :: _, [], _, _, _ => rfl
  | k' :: ks, b :: bs, b' :: bs', H, h, hk => by
    have hr := graftR_not (ρ := ρ) (base := base) (k := k) ks bs bs'
    simp only [graftR]
    by_cases hro : b.ro = true
    · rw [if_pos hro]
      exact hr H (fun j c h1 h2 => h (j + 1) c (by simpa using h1) (by simpa using h2)) hk
    · rw [if_neg hro, hr _ (fun j c h1 h2 => h (j + 1) c (by simpa using h1) (by simpa using h2)) (by simpa using hk)]
      rw [List.getElem?_set_ne]
      intro e; subst e
      exact hro (h 0 b (by simp) (by simp))

theorem graftR_at {ρ : List Nat} {base k : Nat} : ∀ (ks : List Nat) (bs bs' H : Hp) (j : Nat) (b b' : Blk), ks[j]? = some k → bs[j]? = some b → b.ro = false → bs'[j]? = some b' → (∀ j', ks[j']? = some k → j' = j) → k < H.length →
    (graftR ρ base ks bs bs' H)[k]? = some (renB ρ base b')
  | [], _, _, _, _, _, _, h, _, _, _, _, _ => by simp at h
  | _ :: _, [], _, _, _, _, _, _, h, _, _, _, _ => by simp at h
  | _ :: _, _ :: _, [], _, _, _, _, _, _, _, h, _, _ => by simp at h
  | k' :: ks, c :: bs, c' :: bs', H, 0, b, b', h1, h2, h3, h4, h5, hk => by
    simp at h1 h2 h4
    subst h1; subst h2; subst h4
    simp only [graftR]
    rw [if_neg (by rw [h3]; simp), graftR_not ks bs bs' _ (fun j b hj _ => ?_) (by simpa using hk)]
    · rw [List.getElem?_set_self hk]
    · have := h5 (j + 1) (by simpa using hj); omega
  | k' :: ks, c :: bs, c' :: bs', H, j + 1, b, b', h1, h2, h3, h4, h5, hk => by
    simp only [graftR]
    refine graftR_at ks bs bs' _ j b b' (by simpa using h1) (by simpa using h2) h3 (by simpa using h4) (fun j' hj' => ?_) (by split <;> simpa using hk)
    have := h5 (j' + 1) (by simpa using hj'); omega

theorem graftR_new {ρ : List Nat} {base : Nat} : ∀ (ks : List Nat) (bs bs' H : Hp) (i : Nat), ks.length = bs.length → ks.length ≤ bs'.length → (graftR ρ base ks bs bs' H)[H.length + i]? = (bs'[ks.length + i]?).map (renB ρ base) ∧
    (graftR ρ base ks bs bs' H).length = H.length + (bs'.length - ks.length)
  | [], [], bs', H, i, _, _ => by simp only [graftR]; refine ⟨?_, by simp⟩; rw [List.getElem?_append_right (by omega)]; simp
  | [], _ :: _, _, _, _, h, _ => by simp at h
  | _ :: _, [], _, _, _, h, _ => by simp at h
  | _ :: _, _ :: _, [], _, _, _, h => by simp at h
  | k' :: ks, c :: bs, c' :: bs', H, i, h1, h2 => by
    have hr := graftR_new (ρ := ρ) (base := base) ks bs bs' (if c.ro then H else H.set k' (renB ρ base c')) i (by simpa using h1) (by simpa using h2)
    have hl : (if c.ro then H else H.set k' (renB ρ base c')).length = H.length := by split <;> simp
    rw [hl] at hr
    simp only [graftR]
    refine ⟨?_, ?_⟩
    · rw [hr.1]; congr 1; simp only [List.length_cons]; rw [show ks.length + 1 + i = (ks.length + i) + 1 from by omega]; simp
    · rw [hr.2]; simp

end Go.Vc

/- A call by contract is sound. -/
namespace Go.Vc
open Go

variable {P : Program}

theorem BR.ren' {β βl : Map} {ρ : List Nat} {base : Nat} {w : World} {pl : Place} {bl : Blk} (hb : ∀ j pl, βl j = some pl → β (renN ρ base j) = some pl) (h : BR P βl w pl bl) : BR P β w pl (renB ρ base bl) := by
  refine ⟨fun i x hx => ?_, h.lt, fun hr => ?_⟩
  · simp only [renB, renL_get, Option.map_eq_some_iff] at hx
    obtain ⟨y, hy, rfl⟩ := hx
    obtain ⟨v, h1, h2⟩ := h.cells i y hy
    exact ⟨v, h1, VR.ren' hb y v h2⟩
  · obtain ⟨h0, cs, h1, h2, h3⟩ := h.own hr
    exact ⟨h0, cs, h1, by simp only [renB, renL_length]; exact h2, h3⟩

/-- The callee's map. -/
def sub (β : Map) (ρ : List Nat) : Map := fun j => (ρ[j]?).bind β

theorem sub_un {β : Map} {H : Hp} {w : World} (h : HR P β H w) (ρ : List Nat) : ∀ j pl, β (renN ρ H.length j) = some pl → sub β ρ j = some pl := by
  intro j pl hp
  unfold renN at hp
  unfold sub
  cases hj : ρ[j]? with
  | some k => rw [hj] at hp; simpa using hp
  | none => rw [hj] at hp; simp only at hp; rw [h.dom _ (by omega)] at hp; cases hp

theorem HR.sub {β : Map} {H Hl : Hp} {w : World} {ρ : List Nat} (h : HR P β H w) (hf : fits ρ H.length H Hl) : HR P (sub β ρ) Hl w := by
  obtain ⟨hlen, hf⟩ := fits_spec _ _ hf
  have hget : ∀ j bl, Hl[j]? = some bl → ∃ k, ρ[j]? = some k := fun j bl hj => by
    have := (List.getElem?_eq_some_iff.1 hj).1
    exact ⟨ρ[j]'(by omega), List.getElem?_eq_getElem (by omega)⟩
  refine ⟨fun j hj => ?_, fun j bl hj => ?_, fun j j' bl bl' pl pl' hj hj' hne hr hr' hp hp' => ?_⟩
  · unfold Vc.sub; rw [List.getElem?_eq_none (by omega)]; rfl
  · obtain ⟨k, hk⟩ := hget j bl hj
    obtain ⟨bk, h1, h2, h3, h4⟩ := hf j k bl hk hj
    obtain ⟨pl, h5, h6⟩ := h.at_ k bk h1
    refine ⟨pl, by unfold Vc.sub; rw [hk]; exact h5, ⟨fun i x hx => ?_, h6.lt, fun hr => ?_⟩⟩
    · obtain ⟨v, r1, r2⟩ := h6.cells i (ren ρ H.length x) (by rw [h2, renL_get, hx]; rfl)
      exact ⟨v, r1, VR.unren (sub_un h ρ) x v r2⟩
    · obtain ⟨h0, cs, r1, r2, r3⟩ := h6.own (h4 hr).1
      refine ⟨h0, cs, by rw [← h3]; exact r1, ?_, by rw [← h3]; exact r3⟩
      rw [h2, renL_length] at r2; exact r2
  · obtain ⟨k, hk⟩ := hget j bl hj
    obtain ⟨k', hk'⟩ := hget j' bl' hj'
    obtain ⟨bk, h1, h2, h3, h4⟩ := hf j k bl hk hj
    obtain ⟨bk', h1', h2', h3', h4'⟩ := hf j' k' bl' hk' hj'
    unfold Vc.sub at hp hp'
    rw [hk] at hp; rw [hk'] at hp'
    refine h.sep k k' bk bk' pl pl' h1 h1' (fun e => ?_) (h4 hr).1 ?_ hp hp'
    · subst e; exact hne (count_one (h4 hr).2 hk hk')
    · rcases hr' with hr' | hr'
      · exact .inl (h4' hr').1
      · right; rw [h2']; intro e; apply hr'
        have := congrArg List.length e
        rw [renL_length] at this; exact List.eq_nil_of_length_eq_zero (by simpa using this)

theorem wr_sub {β : Map} {H Hl : Hp} {ρ : List Nat} (hf : fits ρ H.length H Hl) {b : Nat} (h : wr (sub β ρ) Hl b) : wr β H b := by
  obtain ⟨hlen, hf⟩ := fits_spec _ _ hf
  obtain ⟨j, bl, pl, h1, h2, h3, h4⟩ := h
  unfold Vc.sub at h3
  cases hk : ρ[j]? with
  | none => rw [hk] at h3; cases h3
  | some k =>
    rw [hk] at h3
    obtain ⟨bk, r1, r2, r3, r4⟩ := hf j k bl hk h1
    exact ⟨k, bk, pl, r1, (r4 h2).1, h3, h4⟩

/-- The caller's map behind the call. -/
def over (β β' : Map) (n m : Nat) : Map := fun k => if k < n then β k else β' (m + (k - n))

section
variable {n : Nat} {E : Entry} {β : Map} {σ : Env} {H Hl Hl' : Hp} {a : Act} {w w' : World} {ρ : List Nat} {r : AV} {e : Ending}

/-- What stands at a place of the caller's heap behind the call. -/
theorem graft_cases (hf : fits ρ H.length H Hl) (hl : Hl.length ≤ Hl'.length) {k : Nat} {bl : Blk} (h : (graft ρ H Hl Hl')[k]? = some bl) :
    (∃ j b', renN ρ H.length j = k ∧ Hl'[j]? = some b' ∧ bl = renB ρ H.length b' ∧ ((Hl.length ≤ j ∧ H.length ≤ k) ∨ (k < H.length ∧ ∃ b, ρ[j]? = some k ∧ Hl[j]? = some b ∧ b.ro = false))) ∨
    (k < H.length ∧ H[k]? = some bl ∧ ∀ (j : Nat) (b : Blk), ρ[j]? = some k → Hl[j]? = some b → b.ro = true) := by
  obtain ⟨hlen, hs⟩ := fits_spec _ _ hf
  unfold graft at h
  rcases Nat.lt_or_ge k H.length with hk | hk
  · by_cases hex : ∃ (j : Nat) (b : Blk), ρ[j]? = some k ∧ Hl[j]? = some b ∧ b.ro = false
    · obtain ⟨j, b, h1, h2, h3⟩ := hex
      have hj := (List.getElem?_eq_some_iff.1 h2).1
      have hb' : Hl'[j]? = some (Hl'[j]'(by omega)) := List.getElem?_eq_getElem (by omega)
      obtain ⟨bk, r1, r2, r3, r4⟩ := hs j k b h1 h2
      rw [graftR_at ρ Hl Hl' H j b _ h1 h2 h3 hb' (fun j' hj' => count_one (r4 h3).2 hj' h1) hk] at h
      cases h
      exact .inl ⟨j, _, by unfold renN; rw [h1], hb', rfl, .inr ⟨hk, b, h1, h2, h3⟩⟩
    · have hall : ∀ (j : Nat) (b : Blk), ρ[j]? = some k → Hl[j]? = some b → b.ro = true := fun j b h1 h2 => by
        cases hro : b.ro with
        | true => rfl
        | false => exact absurd ⟨j, b, h1, h2, hro⟩ hex
      rw [graftR_not ρ Hl Hl' H hall hk] at h
      exact .inr ⟨hk, h, hall⟩
  · have hn := (graftR_new (ρ := ρ) (base := H.length) ρ Hl Hl' H (k - H.length) hlen (by omega)).1
    rw [show H.length + (k - H.length) = k from by omega] at hn
    rw [hn] at h
    simp only [Option.map_eq_some_iff] at h
    obtain ⟨b', h1, rfl⟩ := h
    refine .inl ⟨_, b', ?_, h1, rfl, .inl ⟨by omega, hk⟩⟩
    unfold renN; rw [List.getElem?_eq_none (by omega)]; simp only; omega

theorem RS.call (hR : RS P n E β σ H a w) (hf : fits ρ H.length H Hl) (hP : Post P (sub β ρ) Hl w r Hl' e w') :
    ∃ (β' : Map) (v : Value), e = .returned v ∧ RS P n E β' σ (graft ρ H Hl Hl') a w' ∧ VR β' (ren ρ H.length r) v := by
  obtain ⟨βc, v, rfl, hag, hHR, hv, hfr, hwr, hnew, hll⟩ := hP
  obtain ⟨hlen, hs⟩ := fits_spec _ _ hf
  have hb1 : ∀ k pl, β k = some pl → over β βc H.length ρ.length k = some pl := fun k pl hk => by
    unfold over; rw [if_pos (hR.heap.lt hk)]; exact hk
  have hb2 : ∀ j pl, βc j = some pl → over β βc H.length ρ.length (renN ρ H.length j) = some pl := fun j pl hj => by
    unfold renN
    cases hk : ρ[j]? with
    | some k =>
      have hjl := (List.getElem?_eq_some_iff.1 hk).1
      rw [hag j (by omega)] at hj
      unfold Vc.sub at hj; rw [hk] at hj
      exact hb1 k pl hj
    | none =>
      have : ρ.length ≤ j := by simpa using hk
      unfold over
      simp only
      rw [if_neg (by omega), show ρ.length + (H.length + (j - ρ.length) - H.length) = j from by omega]; exact hj
  -- a block of the callee's stands where the callee's map says
  have hA : ∀ j k b', renN ρ H.length j = k → Hl'[j]? = some b' → over β βc H.length ρ.length k = βc j := fun j k b' hk hj => by
    obtain ⟨pl, h1, -⟩ := hHR.at_ j b' hj
    rw [h1, ← hk]; exact hb2 j pl h1
  have hwrl : ∀ b, wr (Vc.sub β ρ) Hl b → wr β H b := fun b h => wr_sub hf h
  -- who is not replaced lies apart from what the callee wrote
  have hap : ∀ (k : Nat) (bl : Blk) (pl : Place), H[k]? = some bl → (bl.ro = false ∨ bl.cells ≠ []) → (∀ (j : Nat) (b : Blk), ρ[j]? = some k → Hl[j]? = some b → b.ro = true) → β k = some pl → ¬ wr (Vc.sub β ρ) Hl pl.blk := by
    intro k bl pl hk hlive hall hp hw
    obtain ⟨j, b, pl', h1, h2, h3, h4⟩ := hw
    unfold Vc.sub at h3
    cases hk' : ρ[j]? with
    | none => rw [hk'] at h3; cases h3
    | some k' =>
      rw [hk'] at h3
      obtain ⟨bk, r1, r2, r3, r4⟩ := hs j k' b hk' h1
      by_cases hkk : k' = k
      · subst hkk; have := hall j b hk' h1; rw [h2] at this; cases this
      · exact hR.heap.sep k' k bk bl pl' pl r1 hk hkk (r4 h2).1 hlive h3 hp h4
  have hplt : ∀ (k : Nat) (bl : Blk) (pl : Place), H[k]? = some bl → β k = some pl → pl.blk < w.heap.size := fun k bl pl hk hp => by
    obtain ⟨pl', h1, h2⟩ := hR.heap.at_ k bl hk
    rw [hp] at h1; cases h1; exact h2.lt
  have hlen' := (graftR_new (ρ := ρ) (base := H.length) ρ Hl Hl' H 0 hlen (by omega)).2
  -- a callee's block that may be written lies apart from who is not replaced
  have hAB : ∀ (j : Nat) (b' : Blk) (pl : Place) (k' : Nat) (bl' : Blk) (pl' : Place), Hl'[j]? = some b' → b'.ro = false → βc j = some pl → H[k']? = some bl' → (bl'.ro = false ∨ bl'.cells ≠ []) → (∀ (j : Nat) (b : Blk), ρ[j]? = some k' → Hl[j]? = some b → b.ro = true) → β k' = some pl' → pl.blk ≠ pl'.blk := by
    intro j b' pl k' bl' pl' h1 h2 h3 h4 h5 h6 h7 h8
    rcases hwr pl.blk ⟨j, b', pl, h1, h2, h3, rfl⟩ with h | h
    · exact hap k' bl' pl' h4 h5 h6 h7 (h8 ▸ h)
    · have := hplt k' bl' pl' h4 h7; omega
  refine ⟨over β βc H.length ρ.length, v, rfl, ⟨hR.size, hR.defers, fun t => (hR.tmp t).mono hb1, ⟨fun k hk => ?_, fun k bl hk => ?_, fun k k' bl bl' pl pl' hk hk' hne hr hr' hp hp' => ?_⟩, fun k hk => ?_, ?_, ?_, fun b hb => ?_⟩, VR.ren' hb2 r v hv⟩
  · unfold graft at hk
    rw [hlen'] at hk
    unfold over; rw [if_neg (by omega)]; exact hHR.dom _ (by omega)
  · rcases graft_cases hf hll hk with ⟨j, b', h1, h2, rfl, h3⟩ | ⟨h1, h2, h3⟩
    · obtain ⟨pl, r1, r2⟩ := hHR.at_ j b' h2
      exact ⟨pl, by rw [hA j k b' h1 h2]; exact r1, r2.ren' hb2⟩
    · obtain ⟨pl, r1, r2⟩ := hR.heap.at_ k bl h2
      refine ⟨pl, hb1 k pl r1, ?_⟩
      by_cases hlive : bl.ro = false ∨ bl.cells ≠ []
      · exact r2.of_block hb1 (hfr.block _ r2.lt (hap k bl pl h2 hlive h3 r1)) hfr.size
      · refine ⟨fun i x hi => ?_, Nat.lt_of_lt_of_le r2.lt hfr.size, fun hro => absurd (.inl hro) hlive⟩
        have : bl.cells = [] := Classical.byContradiction fun e => hlive (.inr e)
        rw [this] at hi; simp at hi
  · rcases graft_cases hf hll hk with ⟨j, b, h1, h2, rfl, h3⟩ | ⟨h1, h2, h3⟩
    · rw [hA j k b h1 h2] at hp
      rcases graft_cases hf hll hk' with ⟨j', b', h1', h2', rfl, h3'⟩ | ⟨h1', h2', h3'⟩
      · rw [hA j' k' b' h1' h2'] at hp'
        refine hHR.sep j j' b b' pl pl' h2 h2' (fun e => ?_) hr ?_ hp hp'
        · subst e; exact hne (h1.symm.trans h1')
        · rcases hr' with hr' | hr'
          · exact .inl hr'
          · right; intro e; apply hr'; simp [renB, e, renL]
      · unfold over at hp'; rw [if_pos h1'] at hp'
        exact hAB j b pl k' bl' pl' h2 hr hp h2' hr' h3' hp'
    · unfold over at hp; rw [if_pos h1] at hp
      rcases graft_cases hf hll hk' with ⟨j', b', h1', h2', rfl, h3'⟩ | ⟨h1', h2', h3'⟩
      · have hp2 := hp'
        rw [hA j' k' b' h1' h2'] at hp'
        rcases h3' with ⟨h4, h5⟩ | ⟨h4, b, h5, h6, h7⟩
        · have hro : b'.ro = false := by
            rcases hnew j' b' h4 h2' with h | h
            · exact h
            · rcases hr' with hr' | hr'
              · exact hr'
              · exact absurd (by simp [renB, h, renL]) hr'
          exact fun e => hAB j' b' pl' k bl pl h2' hro hp' h2 (.inl hr) h3 hp e.symm
        · obtain ⟨bk, r1, r2, r3, r4⟩ := hs j' k' b h5 h6
          unfold over at hp2; rw [if_pos h4] at hp2
          exact hR.heap.sep k k' bl bk pl pl' h2 r1 hne hr (.inl (r4 h7).1) hp hp2
      · unfold over at hp'; rw [if_pos h1'] at hp'
        exact hR.heap.sep k k' bl bl' pl pl' h2 h2' hne hr hr' hp hp'
  · unfold over; rw [if_pos (Nat.lt_of_lt_of_le hk hR.len)]; exact hR.keep k hk
  · unfold graft; rw [hlen']; have := hR.len; omega
  · refine ⟨hfr.os.trans hR.fr.os, hfr.tape.trans hR.fr.tape, hfr.output.trans hR.fr.output, Nat.le_trans hR.fr.size hfr.size, fun b hlt hn => ?_⟩
    have := hR.fr.size
    rw [hfr.block b (by omega) (fun hw => ?_)]
    · exact hR.fr.block b hlt hn
    · rcases hR.wrt b (hwrl b hw) with h | h
      · exact hn h
      · omega
  · obtain ⟨k, bl, pl, h1, h2, h3, rfl⟩ := hb
    rcases graft_cases hf hll h1 with ⟨j, b, r1, r2, rfl, r3⟩ | ⟨r1, r2, r3⟩
    · rw [hA j k b r1 r2] at h3
      rcases hwr pl.blk ⟨j, b, pl, r2, h2, h3, rfl⟩ with h | h
      · exact hR.wrt _ (hwrl _ h)
      · right; exact Nat.le_trans hR.fr.size h
    · unfold over at h3; rw [if_pos r1] at h3
      exact hR.wrt _ ⟨k, bl, pl, r2, h2, h3, rfl⟩
end

section
variable {n : Nat} {E : Entry} {σ : Env} {H : Hp} {K : Env → Hp → Prop} {d : Option Nat} {tp : TypeId} {pos : String} {af : Array Edge} {g : Option (Nat × Bool)} {Φ : Contract}

theorem o_call {x : Operand} {as : Array Operand} {ts : Array TypeId} (hΦ : ∀ f la H r H', Φ f la H r H' → CallsTo P f la H r H')
    (h : opVC P Φ ⟨d, .call { callee := .value x, args := as, argTypes := ts }, tp, pos, af, g⟩ σ H K) : Steps1 P n E σ H ⟨d, .call { callee := .value x, args := as, argTypes := ts }, tp, pos, af, g⟩ K := by
  intro β a w next Q hR hd hn
  simp only [opVC, opV] at h
  split at h
  · rename_i f cap hx
    have hv := hR.ev x
    rw [hx] at hv
    generalize hce : a.eval x = cv at hv
    cases hv with
    | fn _ _ cs hcs =>
    obtain ⟨ρ, Hl, Hl', la, r, h1, h2, h3, h4⟩ := h
    have hargs : VRs β (as.toList.map (ev σ) ++ cap) ((as.map a.eval) ++ cs).toList := by
      have := (hR.evs as.toList).append hcs
      simpa using this
    rw [← h2] at hargs
    have hC := hΦ _ _ _ _ _ h1 (sub β ρ) w _ (hR.heap.sub h3) (VRs.unren (sub_un hR.heap ρ) _ _ hargs)
    unfold Oper.wp
    have hrun : (execOp a.eval ⟨d, .call { callee := .value x, args := as, argTypes := ts }, tp, pos, af, g⟩).run P w = (callFunc f (as.map a.eval ++ cs)).run P w := by
      simp [execOp, resolve, hce, Deferred.ofValue, invoke]
    rw [hrun]
    have hend : ∀ e w', Post P (sub β ρ) Hl w r Hl' e w' → ∃ v, e = .returned v ∧ next (a.put d v) w' := fun e w' hP => by
      obtain ⟨β', v, rfl, r1, r2⟩ := hR.call h3 hP
      exact ⟨v, rfl, hn _ _ _ _ _ (r1.put hd r2) h4⟩
    unfold Invokes at hC
    split at hC
    · rename_i f' us w' he
      rw [he, Oper.upon_enter]
      refine hC.mono fun e w' hP => ?_
      obtain ⟨v, rfl, hnx⟩ := hend e w' hP
      exact hnx
    · rename_i v w' he
      rw [he, Oper.upon_value]
      obtain ⟨v', hvv, hnx⟩ := hend _ _ hC
      cases hvv
      exact hnx
    · exact hC.elim
  · exact h.elim
end
end Go.Vc

/- Appends are sound. -/
namespace Go.Vc
open Go

variable {P : Program}

theorem kill_get {H : Hp} {k j : Nat} {e : TypeId} {bl b : Blk} (h : (H.set k ⟨e, true, []⟩ ++ [bl])[j]? = some b) :
    (j < H.length ∧ j ≠ k ∧ H[j]? = some b) ∨ (j = k ∧ k < H.length ∧ b = ⟨e, true, []⟩) ∨ (j = H.length ∧ b = bl) := by
  rcases Nat.lt_or_ge j H.length with hl | hl
  · rw [List.getElem?_append_left (by simpa using hl)] at h
    rcases set_get h with ⟨rfl, rfl, h3⟩ | ⟨h1, h2⟩
    · exact .inr (.inl ⟨rfl, h3, rfl⟩)
    · exact .inl ⟨hl, h1, h2⟩
  · rw [List.getElem?_append_right (by simpa using hl)] at h
    simp only [List.length_set] at h
    have : j - H.length = 0 := by
      have := (List.getElem?_eq_some_iff.1 h).1; simp at this; omega
    rw [this] at h; simp at h
    exact .inr (.inr ⟨by omega, h.symm⟩)

section
variable {n : Nat} {E : Entry} {β : Map} {σ : Env} {H : Hp} {a : Act} {w w' : World}

/-- A block goes on under a new number. -/
theorem RS.move (h : RS P n E β σ H a w) {k : Nat} {bl : Blk} {pl : Place} (hb : H[k]? = some bl) (hr : bl.ro = false) (hp : β k = some pl) (e : TypeId) :
    RS P n E (at_ β H.length pl) σ (H.set k ⟨e, true, []⟩ ++ [bl]) a w := by
  have hx := at_ext h.heap pl
  have hB : BR P β w pl bl := by obtain ⟨pl', h1, h2⟩ := h.heap.at_ k bl hb; rw [hp] at h1; cases h1; exact h2
  have hold : ∀ j, j < H.length → at_ β H.length pl j = β j := fun j hj => by unfold at_; rw [if_neg (by omega)]
  have hnew : at_ β H.length pl H.length = some pl := by simp [at_]
  refine ⟨h.size, h.defers, fun t => (h.tmp t).mono hx, ⟨fun j hj => ?_, fun j b hj => ?_, fun j j' b b' q q' hj hj' hne hro hlive hq hq' => ?_⟩, fun j hj => ?_, ?_, h.fr, fun b hb' => ?_⟩
  · simp at hj; unfold at_; rw [if_neg (by omega)]; exact h.heap.dom j (by omega)
  · rcases kill_get hj with ⟨h1, h2, h3⟩ | ⟨rfl, h2, rfl⟩ | ⟨rfl, rfl⟩
    · obtain ⟨q, r1, r2⟩ := h.heap.at_ j b h3
      exact ⟨q, by rw [hold j h1]; exact r1, r2.of_block hx rfl (Nat.le_refl _)⟩
    · exact ⟨pl, by rw [hold _ h2]; exact hp, ⟨fun i x hi => by simp at hi, hB.lt, fun hro => by cases hro⟩⟩
    · exact ⟨pl, hnew, hB.of_block hx rfl (Nat.le_refl _)⟩
  · rcases kill_get hj with ⟨h1, h2, h3⟩ | ⟨rfl, h2, rfl⟩ | ⟨rfl, rfl⟩
    · rw [hold j h1] at hq
      rcases kill_get hj' with ⟨h1', h2', h3'⟩ | ⟨rfl, h2', rfl⟩ | ⟨rfl, rfl⟩
      · rw [hold j' h1'] at hq'; exact h.heap.sep j j' b b' q q' h3 h3' hne hro hlive hq hq'
      · rcases hlive with hlive | hlive
        · cases hlive
        · exact absurd rfl hlive
      · rw [hnew] at hq'; cases hq'
        exact h.heap.sep j k b b' q pl h3 hb h2 hro (.inl hr) hq hp
    · cases hro
    · rw [hnew] at hq; cases hq
      rcases kill_get hj' with ⟨h1', h2', h3'⟩ | ⟨rfl, h2', rfl⟩ | ⟨rfl, rfl⟩
      · rw [hold j' h1'] at hq'; exact h.heap.sep k j' b b' pl q' hb h3' (Ne.symm h2') hr hlive hp hq'
      · rcases hlive with hlive | hlive
        · cases hlive
        · exact absurd rfl hlive
      · exact absurd rfl hne
  · rw [hold j (Nat.lt_of_lt_of_le hj h.len)]; exact h.keep j hj
  · simp; have := h.len; omega
  · obtain ⟨j, b', q, hj, hro, hq, rfl⟩ := hb'
    rcases kill_get hj with ⟨h1, h2, h3⟩ | ⟨rfl, h2, rfl⟩ | ⟨rfl, rfl⟩
    · rw [hold j h1] at hq; exact h.wrt _ ⟨j, b', q, h3, hro, hq, rfl⟩
    · cases hro
    · rw [hnew] at hq; cases hq; exact h.wrt _ ⟨k, b', pl, hb, hro, hp, rfl⟩

/-- A block is not to be met any more. -/
theorem RS.kill (h : RS P n E β σ H a w) {k : Nat} {e : TypeId} (hk : k < H.length) : RS P n E β σ (H.set k ⟨e, true, []⟩) a w := by
  refine ⟨h.size, h.defers, h.tmp, ⟨fun j hj => h.heap.dom j (by simpa using hj), fun j b hj => ?_, fun j j' b b' q q' hj hj' hne hro hlive hq hq' => ?_⟩, h.keep, by simpa using h.len, h.fr, fun b hb' => ?_⟩
  · rcases set_get hj with ⟨rfl, rfl, _⟩ | ⟨_, hj⟩
    · obtain ⟨pl, h1, h2⟩ := h.heap.at_ j _ (List.getElem?_eq_getElem hk)
      exact ⟨pl, h1, ⟨fun i x hi => by simp at hi, h2.lt, fun hro => by cases hro⟩⟩
    · exact h.heap.at_ j b hj
  · rcases set_get hj with ⟨rfl, rfl, _⟩ | ⟨_, hj⟩
    · cases hro
    · rcases set_get hj' with ⟨rfl, rfl, _⟩ | ⟨_, hj'⟩
      · rcases hlive with hlive | hlive
        · cases hlive
        · exact absurd rfl hlive
      · exact h.heap.sep j j' b b' q q' hj hj' hne hro hlive hq hq'
  · obtain ⟨j, b', q, hj, hro, hq, rfl⟩ := hb'
    rcases set_get hj with ⟨rfl, rfl, _⟩ | ⟨_, hj⟩
    · cases hro
    · exact h.wrt _ ⟨j, b', q, hj, hro, hq, rfl⟩

theorem Same.drew (w : World) : Same w w.drew := ⟨rfl, rfl, rfl, rfl⟩

/-- The cells that are appended. -/
theorem source {size : Nat} {x : AV} {v : Value} {m : Nat} {new : List AV} (hH : HR P β H w) (hx : VR β x v) (h : srcAV H size x = some (m, new)) :
    (v = .slice none 0 0 ∧ m = 0 ∧ new = []) ∨ ∃ (ad : Addr) (c : Nat) (news : List Value), v = .slice (some ad) m c ∧ VRs β new news ∧ news.length = m * size ∧ (∀ j u, news[j]? = some u → w.cell? (ad.add j) = some u) ∧ (∀ u ∈ news, u.oneCell' = true) := by
  unfold srcAV at h
  split at h
  · cases h; cases hx; exact .inl ⟨rfl, rfl, rfl⟩
  · rename_i k o m' cap
    split at h
    · rename_i bl hb
      split at h
      · rename_i hc
        cases h
        cases hx with | sl _ _ _ _ c pl ad hp hcap hn ha =>
        obtain ⟨pl', h1, h2⟩ := hH.at_ k bl hb
        rw [hp] at h1; cases h1
        obtain ⟨news, r1, r2, r3⟩ := h2.stretch o (m * size) hc.1
        refine .inr ⟨_, c, news, rfl, r1, r2, fun j u hj => ?_, r1.oneCell hc.2⟩
        rcases ha with ha | ⟨ha, -⟩
        · subst ha; rw [add_eq]; exact r3 j u hj
        · subst ha; rw [Nat.zero_mul] at r2; rw [List.eq_nil_of_length_eq_zero r2] at hj; simp at hj
      · cases h
    · cases h
  · cases h

theorem sound_append (h : RS P n E β σ H a w) {t ty : TypeId} {s x z : AV} {vs vx : Value} {H' : Hp} {by_ : Nat} (hs : VR β s vs) (hx : VR β x vx) (hA : appendAV P H t s x = some (z, H', by_)) (hb : by_ ≤ 140737488355328) :
    ∃ (β' : Map) (v : Value) (w' : World), (Builtin.append_ #[t, t] ty #[vs, vx]).run P w = .ok v w' ∧ RS P n E β' σ H' a w' ∧ VR β' z v := by
  unfold appendAV at hA
  split at hA
  · rename_i ti ht
    obtain ⟨i, d, zz, hT⟩ := tof_spec ht
    have hsh := hT.shape
    split at hA
    · rename_i e he0
      rw [he0] at hsh; have := shape_slice hsh; subst this
      split at hA
      · rename_i ei hei
        obtain ⟨ie, de, ze, hTe⟩ := tof_spec hei
        split at hA
        · cases hA
        · rename_i m new hsrc
          have hso := source h.heap hx hsrc
          have hsz : ze.cells.size = ei.size := hTe.zsize
          have hone : ∀ ti, tof P e = some ti → ti = ei := fun ti' h' => by rw [hei] at h'; cases h'; rfl
          have hgrown : ∀ (xs : List AV) (us : List Value) (k old : Nat), VRs β xs us → us.length = k * ei.size → k ≤ maxLen →
              ∀ {H1 : Hp}, RS P n E β σ H1 a w → H1.length = H.length →
              RS P n E (at_ β H.length ⟨w.heap.size, 0, grownCap w k old e⟩) σ (H1 ++ [⟨e, false, xs⟩]) a (w.drew.alloc (.cells (us.toArray ++ Builtin.zeroCells ze.cells (grownCap w k old e - k)) e)) := by
            intro xs us k old hv hl hk H1 hR1 hH1
            have hge := grownCap_ge w k old e
            have := (hR1.same (Same.drew w)).alloc (e := e) (xs := xs) (cs := us.toArray ++ Builtin.zeroCells ze.cells (grownCap w k old e - k)) (m := grownCap w k old e) (fun j y hj => by
              obtain ⟨v, h1, h2⟩ := hv.get hj
              have hjl := (List.getElem?_eq_some_iff.1 h1).1
              exact ⟨v, by rw [Array.getElem?_append_left (by simpa using hjl)]; simpa using h1, h2⟩) (by simp [hv.length]) (fun ti' h' => by
              rw [hone ti' h']
              simp only [Array.size_append, List.size_toArray, size_zeroCells, hsz, hl, ← Nat.add_mul]
              congr 1; omega) (grownCap_le_maxLen w k old e hk)
            rw [hH1] at this
            exact this
          split at hA
          · split at hA
            · rename_i hm
              subst hm
              cases hA; cases hs
              rcases hso with ⟨rfl, -, -⟩ | ⟨ad, c, news, rfl, r1, r2, r3, r4⟩
              · exact ⟨β, .slice none 0 0, w, run_append_owned_none w 0 t ty e ie ie.size hT.under hTe.info _ 0 [] (World.ownsRow_nil w 0 e ie.size), h, .ns⟩
              · refine ⟨β, .slice none 0 0, w, ?_, h, .ns⟩
                simp [Builtin.append_, run_underlying hT.under, sizeOf, typeInfo, hTe.info, Builtin.lenOf, Builtin.firstCells, loadCells, loadCellsFrom]
            · rename_i hm
              cases hA; cases hs
              rcases hso with ⟨-, h0, -⟩ | ⟨ad, c, news, rfl, r1, r2, r3, r4⟩
              · exact absurd h0 hm
              · have hb1 : m * ei.bytes ≤ m * max 1 ei.bytes := Nat.mul_le_mul_left _ (Nat.le_max_right _ _)
                have hb2 : m * 1 ≤ m * max 1 ei.bytes := Nat.mul_le_mul_left _ (Nat.le_max_left _ _)
                have hr := run_append_nil (P := P) w t ty e ie ze hT.under hTe.info hTe.zero ad m c news (by rw [hTe.size]; exact r2) r3 (by omega) (by omega) (by rw [hTe.bytes]; omega)
                exact ⟨_, _, _, hr, hgrown new news m 0 r1 r2 (by simp only [maxLen]; omega) h rfl, .sl _ _ _ _ _ ⟨w.heap.size, 0, grownCap w m 0 e⟩ 0 (by simp [at_]) ⟨rfl, rfl, rfl⟩ (grownCap_ge w m 0 e) (.inl rfl)⟩
          · rename_i k l
            split at hA
            · rename_i bl hbl
              split at hA
              · rename_i hc
                obtain ⟨hro, hty, hcl, hne⟩ := hc
                cases hA
                cases hs with | sl _ _ _ _ c pl ad hp hcap hn ha =>
                obtain ⟨hc1, -, hoff⟩ := hcap
                have hB : BR P β w pl bl := by obtain ⟨pl', h1, h2⟩ := h.heap.at_ k bl hbl; rw [hp] at h1; cases h1; exact h2
                obtain ⟨-, cs, hcs, hle, hsz', hmx⟩ := hB.own hro
                have hcs' := hsz' ei (by rw [hty]; exact hei)
                have had : ad = 0 := by
                  rcases ha with ha | ⟨-, ha⟩
                  · omega
                  · cases ha
                subst had
                obtain ⟨ty', ro', cells'⟩ := bl
                simp only at hro hty hcl hcs hle hsz'
                subst hro; subst hty
                have hb1 : (l + m) * ei.bytes ≤ (l + m) * max 1 ei.bytes := Nat.mul_le_mul_left _ (Nat.le_max_right _ _)
                have hb2 : (l + m) * 1 ≤ (l + m) * max 1 ei.bytes := Nat.mul_le_mul_left _ (Nat.le_max_left _ _)
                have hklt := (List.getElem?_eq_some_iff.1 hbl).1
                have holds : VRs β cells' (cs.toList.take (l * ei.size)) := by
                  refine .of_get (by simp; omega) fun j y u hy hu => ?_
                  obtain ⟨v, h1, h2⟩ := hB.cells j y hy
                  have hjl := (List.getElem?_eq_some_iff.1 hy).1
                  have : v = u := by
                    rw [List.getElem?_take, if_pos (by omega)] at hu
                    simp only [World.cell?, hcs, hoff, Nat.zero_add] at h1
                    simp at h1 hu
                    rw [h1] at hu; exact Option.some.inj hu
                  subst this; exact h2
                have hol : (cs.toList.take (l * ei.size)).length = l * ei.size := by simp; omega
                rcases hso with ⟨rfl, rfl, rfl⟩ | ⟨ad, c', news, rfl, r1, r2, r3, r4⟩
                · refine ⟨at_ β H.length pl, _, w, run_append_owned_none w 0 t ty ty' ie ei.size hT.under hTe.info _ l (cs.toList.take (l * ei.size)) ⟨hol, .inr ⟨pl.blk, c, cs, rfl, Nat.zero_le _, hcs, hn, by omega, by rw [hcs', hc1], rfl⟩⟩, ?_, .sl _ _ _ _ _ pl 0 (by simp [at_]) ⟨hc1, rfl, hoff⟩ (by omega) (.inl (by omega))⟩
                  simpa using h.move hbl rfl hp ty'
                · by_cases hroom : l + m ≤ c
                  · have hfit : l * ei.size + news.length ≤ cs.size := by rw [r2, hcs', ← Nat.add_mul, ← hc1]; exact Nat.mul_le_mul_right _ hroom
                    have hr := run_append_room (P := P) w t ty ty' ie hT.under hTe.info pl.blk l c cs hcs ad m c' news (by rw [hTe.size]; exact r2) r3 r4 hroom (by rw [hTe.size]; exact hfit)
                    have hst := h.stored (w' := w.setRow pl.blk (cs.toList.take (l * ie.size) ++ news ++ cs.toList.drop (l * ie.size + news.length)).toArray) hbl rfl hp (cells := cells' ++ new) (setRow_heap w pl.blk cs _ ty' _ hcs) ⟨fun ti' h' => by
                        rw [hone ti' h', ← hcs', hTe.size]; simp; omega, hmx⟩ (by
                        rw [hTe.size]; have := r1.length; simp; omega) (fun j y hj => by
                        obtain ⟨v, q1, q2⟩ := (holds.append r1).get hj
                        refine ⟨v, ?_, q2⟩
                        have hjl := (List.getElem?_eq_some_iff.1 q1).1
                        rw [hTe.size]
                        rw [List.getElem?_toArray, List.getElem?_append_left hjl]; exact q1) (fun b' hb' => setRow_other w pl.blk b' _ hb') (by simp) rfl rfl rfl
                    have hmv := hst.move (k := k) (bl := ⟨ty', false, cells' ++ new⟩) (by rw [List.getElem?_set_self hklt]) rfl hp ty'
                    rw [List.set_set, List.length_set] at hmv
                    exact ⟨_, _, _, hr, hmv, .sl _ _ _ _ _ pl 0 (by simp [at_]) ⟨hc1, rfl, hoff⟩ hroom (.inl (by omega))⟩
                  · have hr := run_append_grow (P := P) w t ty ty' ie ze hT.under hTe.info hTe.zero ⟨pl.blk, 0, none⟩ l c (cs.toList.take (l * ei.size)) (by rw [hTe.size]; exact hol) (fun j v hj => by
                        have hjl := (List.getElem?_eq_some_iff.1 hj).1
                        rw [List.getElem?_take, if_pos (by omega)] at hj
                        rw [add_eq]; simp [World.cell?, hcs]; simpa using hj) ad m c' news (by rw [hTe.size]; exact r2) r3 (by omega) (by omega) (growslice_fits (by omega) (by rw [hTe.bytes]; omega))
                    have hgr := hgrown (cells' ++ new) (cs.toList.take (l * ei.size) ++ news) (l + m) c (holds.append r1) (by rw [List.length_append, hol, r2, Nat.add_mul]) (by simp only [maxLen]; omega) (h.kill (e := ty') hklt) (by simp)
                    rw [← List.append_toArray] at hgr
                    exact ⟨_, _, _, hr, hgr, .sl _ _ _ _ _ ⟨w.heap.size, 0, grownCap w (l + m) c ty'⟩ 0 (by simp [at_]) ⟨rfl, rfl, rfl⟩ (grownCap_ge w (l + m) c ty') (.inl rfl)⟩
              · cases hA
            · cases hA
          · cases hA
      · cases hA
    · cases hA
  · cases hA
end
end Go.Vc

/- Every operation's step is sound; outcomes. -/
set_option linter.unusedSimpArgs false
namespace Go.Vc
open Go

variable {P : Program}

section
variable {n : Nat} {E : Entry} {σ : Env} {H : Hp} {K : Env → Hp → Prop} {d : Option Nat} {tp : TypeId} {pos : String} {af : Array Edge} {g : Option (Nat × Bool)} {Φ : Contract}

theorem map_some {β : Map} {a : Act} {w : World} (hR : RS P n E β σ H a w) (lo : Option Operand) : (∀ y, lo.map (ev σ) = some y → ∃ u, lo.map a.eval = some u ∧ VR β y u) ∧ (lo.map (ev σ) = none → lo.map a.eval = none) := by
  cases lo with
  | none => exact ⟨fun y h => by simp at h, fun _ => rfl⟩
  | some x => exact ⟨fun y h => by simp at h; subst h; exact ⟨_, rfl, hR.ev x⟩, fun h => by simp at h⟩

theorem o_slice {t : TypeId} {x : Operand} {lo hi mx : Option Operand} (h : opVC P Φ ⟨d, .slice t x lo hi mx, tp, pos, af, g⟩ σ H K) : Steps1 P n E σ H ⟨d, .slice t x lo hi mx, tp, pos, af, g⟩ K := by
  intro β a w next Q hR hd hn
  simp only [opVC, opV] at h
  split at h
  · rename_i z hz
    exact wp_val (s := Instr.sliceAt t (a.eval x) (lo.map a.eval) (hi.map a.eval) (mx.map a.eval)) hR hd rfl
      (sound_slice w (hR.ev x) (map_some hR lo).1 (map_some hR lo).2 (map_some hR hi).1 (map_some hR hi).2 (map_some hR mx).2 hz) h hn
  · exact h.elim

theorem list1 {α : Type} {as : Array α} {x : α} (h : as.toList = [x]) : as = #[x] := by
  apply Array.ext'; simpa using h
theorem list2 {α : Type} {as : Array α} {x y : α} (h : as.toList = [x, y]) : as = #[x, y] := by
  apply Array.ext'; simpa using h

theorem o_builtin {bi : Builtin} {as : Array Operand} {ts : Array TypeId} (h : opVC P Φ ⟨d, .call { callee := .builtin bi, args := as, argTypes := ts }, tp, pos, af, g⟩ σ H K) :
    Steps1 P n E σ H ⟨d, .call { callee := .builtin bi, args := as, argTypes := ts }, tp, pos, af, g⟩ K := by
  intro β a w next Q hR hd hn
  simp only [opVC, opV] at h
  split at h
  · rename_i x t has hts
    have := list1 has; subst this
    have := list1 hts; subst this
    split at h
    · rename_i ti ht
      split at h
      · rename_i z hz
        refine wp_val (s := Builtin.len_ #[t] tp #[a.eval x]) hR hd (by simp [execOp, resolve, invoke, builtin]) ?_ h hn
        obtain ⟨v, w', h1, h2, h3⟩ := sound_len (P := P) w ht (hR.ev x) hz
        exact ⟨v, w', by rw [← h1]; simp [Builtin.len_], h2, h3⟩
      · exact h.elim
    · exact h.elim
  · rename_i s x t t' has hts
    have := list2 has; subst this
    have := list2 hts; subst this
    split at h
    · rename_i he
      subst he
      split at h
      · rename_i z H' by_ hA
        obtain ⟨hb, h⟩ := h
        obtain ⟨β', v, w', h1, h2, h3⟩ := sound_append hR (ty := tp) (hR.ev s) (hR.ev x) hA hb
        unfold Oper.wp
        have hrun : (execOp a.eval ⟨d, .call { callee := .builtin .append, args := #[s, x], argTypes := #[t, t] }, tp, pos, af, g⟩).run P w = .ok (.value v) w' := by
          simp [execOp, resolve, invoke, builtin, h1]
        rw [hrun]
        exact hn _ _ _ _ _ (h2.put hd h3) h
      · exact h.elim
    · exact h.elim
  · rename_i bi as' ts' h1 h2
    split at h
    · rename_i z hz
      have hv := hR.evs as.toList
      obtain ⟨s, hs, hval⟩ := sound_builtin (P := P) (vs := as.map a.eval) (ts := ts) (tp := tp) w (by simpa using hv) hz
      exact wp_val (s := s) hR hd (by simp [execOp, resolve, invoke, hs]) hval h hn
    · exact h.elim

theorem o_all {o : Oper} (hΦ : ∀ f la H r H', Φ f la H r H' → CallsTo P f la H r H') (h : opVC P Φ o σ H K) : Steps1 P n E σ H o K := by
  obtain ⟨d, op, tp, pos, af, g⟩ := o
  cases op with
  | move x => exact o_move h
  | assign x => exact o_assign h
  | pick => exact o_pick h
  | alloc => exact o_alloc h
  | box => exact o_box h
  | build => exact o_build h
  | buildSlice => exact o_buildSlice h
  | load => exact o_load h
  | makeSlice => exact o_makeSlice h
  | store => exact o_store h
  | nilCheck => exact o_nilCheck h
  | binOp => exact o_bin h
  | unOp => exact o_un h
  | convert => exact o_convert h
  | fieldAddr => exact o_fieldAddr h
  | field => exact o_field h
  | indexAddr => exact o_indexAddr h
  | index => exact o_index h
  | slice => exact o_slice h
  | extract => exact o_extract h
  | makeFunc f first cap =>
    cases f with
    | func f => exact o_makeFunc h
    | _ => exact h.elim
  | call c =>
    obtain ⟨cal, as, ts⟩ := c
    cases cal with
    | builtin => exact o_builtin h
    | value => exact o_call hΦ h
    | _ => exact h.elim
  | _ => exact h.elim
end

/-! ### outcomes -/
section
variable {Φ : Contract} {o : Op} {σ τ : Env} {H : Hp} {κ : AV → Hp → Prop}

/-- An operation's outcome is one. -/
theorem opV_one (h : opV P Φ o σ H κ) : ∃ v H', opV P Φ o σ H (fun x G => x = v ∧ G = H') ∧ κ v H' := by
  have h0 := h
  unfold opV at h
  extract_lets put at h
  split at h <;> (try simp only [put] at h) <;> (repeat' split at h) <;> first
    | exact h.elim
    | (refine ⟨_, _, ?_, h⟩; simp only [opV, and_self, and_true, true_and, if_true, if_false, Bool.false_eq_true, *]; first | done | exact ⟨rfl, rfl⟩)
    | (obtain ⟨h1, h⟩ := h; refine ⟨_, _, ?_, h⟩; simp only [opV, and_self, and_true, true_and, if_true, if_false, Bool.false_eq_true, *]; first | done | exact h1)
    | exact h.2.elim
    | (subst_vars; obtain ⟨h1, h⟩ := h; refine ⟨_, _, ?_, h⟩; simp only [opV, and_self, and_true, true_and, if_true, *]; done)
    | (obtain ⟨h1, h2, h⟩ := h; exact ⟨_, _, by unfold opV; exact ⟨h1, h2, rfl, rfl⟩, h⟩)
    | (obtain ⟨ρ, Hl, Hl', la, r, h1, h2, h3, h4⟩ := h; refine ⟨_, _, ?_, h4⟩; simp only [opV, and_self, and_true, true_and, if_true, if_false, Bool.false_eq_true, *]; exact ⟨ρ, Hl, Hl', la, r, h1, h2, h3, rfl, rfl⟩)
    | (obtain ⟨⟨h1, h2⟩, h⟩ := h; subst h1; refine ⟨_, _, ?_, h⟩; simp only [opV, and_self, and_true, true_and, if_true, if_false, Bool.false_eq_true, *]; first | done | exact h2)
    | skip

theorem opV_mono {κ' : AV → Hp → Prop} (h : opV P Φ o σ H κ) (hk : ∀ v G, κ v G → κ' v G) : opV P Φ o σ H κ' := by
  unfold opV at h
  extract_lets put at h
  split at h <;> (try simp only [put] at h) <;> (repeat' split at h) <;> first
    | exact h.elim
    | (have h := hk _ _ h; simp only [opV, and_self, and_true, true_and, if_true, if_false, Bool.false_eq_true, *]; done)
    | exact h.2.elim
    | (subst_vars; obtain ⟨h1, h⟩ := h; have h := hk _ _ h; simp only [opV, and_self, and_true, true_and, if_true, if_false, Bool.false_eq_true, *]; first | done | exact h1)
    | (obtain ⟨h1, h2, h⟩ := h; unfold opV; exact ⟨h1, h2, hk _ _ h⟩)
    | (obtain ⟨ρ, Hl, Hl', la, r, h1, h2, h3, h4⟩ := h; simp only [opV, and_self, and_true, true_and, if_true, if_false, Bool.false_eq_true, *]; exact ⟨ρ, Hl, Hl', la, r, h1, h2, h3, hk _ _ h4⟩)
    | (obtain ⟨⟨h1, h2⟩, h⟩ := h; subst h1; have h := hk _ _ h; simp only [opV, and_self, and_true, true_and, if_true, if_false, Bool.false_eq_true, *]; first | done | exact h2)
    | skip

/-- It hangs on its operands alone. -/
theorem opV_congr (h : ∀ x ∈ o.operands, ev σ x = ev τ x) : opV P Φ o σ H κ = opV P Φ o τ H κ := by
  cases o with
  | move x => simp only [opV, h x (by simp [Op.operands])]
  | assign x => simp only [opV, h x (by simp [Op.operands])]
  | pick c x y => simp only [opV, h c (by simp [Op.operands]), h x (by simp [Op.operands]), h y (by simp [Op.operands])]
  | alloc => rfl
  | box e x => simp only [opV, h x (by simp [Op.operands])]
  | build t parts =>
    have : (parts.toList.map fun q => (q.1, ev σ q.2)) = parts.toList.map fun q => (q.1, ev τ q.2) := List.map_congr_left fun q hq => by
      rw [h q.2 (by simp [Op.operands]; exact ⟨q.1, by simpa using hq⟩)]
    simp only [opV, this]
  | buildSlice t len parts =>
    have : (parts.toList.map fun q => (q.1, ev σ q.2)) = parts.toList.map fun q => (q.1, ev τ q.2) := List.map_congr_left fun q hq => by
      rw [h q.2 (by simp [Op.operands]; exact ⟨q.1, by simpa using hq⟩)]
    simp only [opV, this]
  | load t x => simp only [opV, h x (by simp [Op.operands])]
  | makeSlice t x y => simp only [opV, h x (by simp [Op.operands]), h y (by simp [Op.operands])]
  | store t x y => simp only [opV, h x (by simp [Op.operands]), h y (by simp [Op.operands])]
  | nilCheck x => simp only [opV, h x (by simp [Op.operands])]
  | binOp op t x y ty => simp only [opV, h x (by simp [Op.operands]), h y (by simp [Op.operands])]
  | unOp op t x => simp only [opV, h x (by simp [Op.operands])]
  | convert s t x => simp only [opV, h x (by simp [Op.operands])]
  | fieldAddr t x j => simp only [opV, h x (by simp [Op.operands])]
  | field t x j => simp only [opV, h x (by simp [Op.operands])]
  | indexAddr t x y => simp only [opV, h x (by simp [Op.operands]), h y (by simp [Op.operands])]
  | index t x y => simp only [opV, h x (by simp [Op.operands]), h y (by simp [Op.operands])]
  | slice t x lo hi mx =>
    have h1 : lo.map (ev σ) = lo.map (ev τ) := by cases lo with | none => rfl | some y => simp [h y (by simp [Op.operands])]
    have h2 : hi.map (ev σ) = hi.map (ev τ) := by cases hi with | none => rfl | some y => simp [h y (by simp [Op.operands])]
    have h3 : mx.map (ev σ) = mx.map (ev τ) := by cases mx with | none => rfl | some y => simp [h y (by simp [Op.operands])]
    simp only [opV, h x (by simp [Op.operands]), h1, h2, h3]
  | extract x j => simp only [opV, h x (by simp [Op.operands])]
  | makeFunc f first cap =>
    have : cap.toList.map (ev σ) = cap.toList.map (ev τ) := List.map_congr_left fun q hq => h q (by simp [Op.operands]; exact .inr (by simpa using hq))
    cases f <;> simp only [opV, this]
  | call c =>
    obtain ⟨cal, as, ts⟩ := c
    have : as.toList.map (ev σ) = as.toList.map (ev τ) := List.map_congr_left fun q hq => h q (by simp [Op.operands, Call.operands]; exact .inr (by simpa using hq))
    cases cal with
    | builtin bi =>
      simp only [opV]
      split
      · rename_i x t e1 e2
        rw [e1] at this; simp at this; rw [this]
      · rename_i x y t t' e1 e2
        rw [e1] at this; simp at this; rw [this.1, this.2]
      · rw [this]
    | value g => simp only [opV, this, h g (by simp [Op.operands, Call.operands])]
    | invoke => rfl
  | _ => rfl

/-- What touches no blocks does the same over any. -/
theorem opV_N (hN : opN o = true) (G : Hp) (h : opV P Φ o σ H κ) : opV P Φ o σ G (fun v G' => G' = G ∧ κ v H) := by
  have h0 := h
  unfold opV at h
  extract_lets put at h
  split at h <;> (try simp only [put] at h) <;> (repeat' split at h) <;> first
    | exact h.elim
    | exact h.2.elim
    | (simp only [opN, Bool.false_eq_true] at hN; done)
    | (simp only [opV, and_self, and_true, true_and, if_true, if_false, Bool.false_eq_true, *]; done)
    | (obtain ⟨h1, h⟩ := h; simp only [opV, and_self, and_true, true_and, if_true, *]; first | done | exact h1)
    | (exfalso; simp [opN] at hN; done)
    | skip
end

end Go.Vc

/- Regions: in the order of the text, and in every order. -/
namespace Go.Vc
open Go

variable {P : Program} {Φ : Contract} {n : Nat} {E : Entry}

theorem yielded_of {β : Map} {σ : Env} {H : Hp} {a : Act} {w : World} (hR : RS P n E β σ H a w) {ops : Array Oper} {j d : Nat} {x : Bool} (hj : (ops[j]?).bind (·.dst) = some d) (hx : σ d = .b x) : yielded ops a.tmps j = some x := by
  have hv := hR.tmp d
  rw [hx] at hv
  generalize hg : a.tmps.getD d undef = v at hv
  cases hv
  have hd : a.tmps[d]? = some (.bool x) := by
    rw [Array.getD_eq_getD_getElem?] at hg
    cases h : a.tmps[d]? with
    | none => rw [h] at hg; exact absurd hg (by simp [undef])
    | some u => rw [h] at hg; simpa using hg
  unfold yielded
  rw [hj]
  simp [hd]

section
variable {ops : Array Oper} {o : Oper} {σ τ : Env} {H : Hp} {κ κ' : AV → Hp → Prop}
theorem gV_mono (h : gV P Φ ops o σ H κ) (hk : ∀ v G, κ v G → κ' v G) : gV P Φ ops o σ H κ' := by
  unfold gV guardVC at h ⊢
  split at h
  · exact opV_mono h hk
  · split at h
    · split at h
      · exact ⟨fun e => opV_mono (h.1 e) hk, fun e => hk _ _ (h.2 e)⟩
      · exact h.elim
    · exact h.elim

theorem gV_one (h : gV P Φ ops o σ H κ) : ∃ v H', gV P Φ ops o σ H (fun x G => x = v ∧ G = H') ∧ κ v H' := by
  unfold gV guardVC at h ⊢
  split at h
  · exact opV_one h
  · rename_i j want hg
    split at h
    · split at h
      · rename_i x hx
        by_cases e : x = want
        · obtain ⟨v, H', h1, h2⟩ := opV_one (h.1 e)
          exact ⟨v, H', ⟨fun _ => h1, fun e' => absurd (e.symm.trans e') (by cases want <;> simp)⟩, h2⟩
        · have e' : x = !want := by cases x <;> cases want <;> simp_all
          exact ⟨.u, H, ⟨fun e2 => absurd e2 e, fun _ => ⟨rfl, rfl⟩⟩, h.2 e'⟩
      · exact h.elim
    · exact h.elim

theorem gV_N (hN : opN o.op = true) (G : Hp) (h : gV P Φ ops o σ H κ) : gV P Φ ops o σ G (fun v G' => G' = G ∧ κ v H) := by
  unfold gV guardVC at h ⊢
  split at h
  · exact opV_N hN G h
  · split at h
    · split at h
      · exact ⟨fun e => opV_N hN G (h.1 e), fun e => ⟨rfl, h.2 e⟩⟩
      · exact h.elim
    · exact h.elim

theorem ev_of {x : Operand} (h : ∀ t, x = .tmp t → σ t = τ t) : ev σ x = ev τ x := by
  cases x with
  | tmp t => exact h t rfl
  | _ => rfl

theorem gV_congr (h : ∀ t ∈ looks ops o, σ t = τ t) : gV P Φ ops o σ H κ = gV P Φ ops o τ H κ := by
  have hop : ∀ κ, opV P Φ o.op σ H κ = opV P Φ o.op τ H κ := fun κ => opV_congr fun x hx => ev_of fun t ht => h t (by
    subst ht
    unfold looks Oper.looksAt
    refine List.mem_append.2 (.inl (List.mem_filterMap.2 ⟨.tmp t, by simpa using hx, rfl⟩)))
  unfold gV guardVC
  rw [hop]
  split
  · rfl
  · rename_i j want hg
    split
    · rename_i d hd
      have : σ d = τ d := h d (by
        unfold looks Oper.looksAt
        refine List.mem_append.2 (.inr ?_)
        rw [hg]; simp [hd])
      rw [this]
    · rfl
end

/-- A guarded step is sound. -/
theorem g_sound (hΦ : ∀ f la H r H', Φ f la H r H' → CallsTo P f la H r H') {ops : Array Oper} {o : Oper} {β : Map} {σ : Env} {H : Hp} {a : Act} {w : World} {κ : AV → Hp → Prop} {next : Act → World → Prop} {Q : Exit → Act → World → Prop}
    (h : gV P Φ ops o σ H κ) (hR : RS P n E β σ H a w) (hd : ∀ k, o.dst = some k → k < n) (hn : ∀ v β' H' a' w', RS P n E β' (upd σ o.dst v) H' a' w' → κ v H' → next a' w') :
    if Region.wanted o (yielded ops a.tmps) then o.wp P a w next Q ∨ (o.asks P a w ∧ LetsOut Q) else next (a.put o.dst undef) w := by
  have hyes : opV P Φ o.op σ H κ → o.wp P a w next Q := fun hop => by
    obtain ⟨v, H', h1, h2⟩ := opV_one hop
    exact o_all hΦ (K := fun s G => s = upd σ o.dst v ∧ G = H') (opV_mono h1 fun x G hx => by obtain ⟨rfl, rfl⟩ := hx; exact ⟨rfl, rfl⟩) β a w next Q hR hd fun β' σ' H'' a' w' hR' hK => by
        obtain ⟨rfl, rfl⟩ := hK
        exact hn v β' _ a' w' hR' h2
  unfold gV guardVC at h
  split at h
  · rename_i hg
    rw [if_pos (by simp [Region.wanted, hg])]
    exact .inl (hyes h)
  · rename_i j want hg
    split at h
    · rename_i d hj
      split at h
      · rename_i x hx
        have hy := yielded_of hR hj hx
        by_cases hxw : x = want
        · rw [if_pos (by simp [Region.wanted, hg, hy, hxw])]
          exact .inl (hyes (h.1 hxw))
        · rw [if_neg (by simp [Region.wanted, hg, hy, hxw])]
          have := h.2 (by cases x <;> cases want <;> simp_all)
          exact hn .u β H _ w (hR.put hd (.u _)) this
      · exact h.elim
    · exact h.elim

theorem wpOp_of {hΦ : ∀ f la H r H', Φ f la H r H' → CallsTo P f la H r H'} {ops : Array Oper} {i : Nat} {o : Oper} (ho : ops[i]? = some o) {β : Map} {σ : Env} {H : Hp} {a : Act} {w : World} {κ : AV → Hp → Prop} {next : Act → World → Prop} {Q : Exit → Act → World → Prop}
    (h : gV P Φ ops o σ H κ) (hR : RS P n E β σ H a w) (hd : ∀ k, o.dst = some k → k < n) (hn : ∀ v β' H' a' w', RS P n E β' (upd σ o.dst v) H' a' w' → κ v H' → next a' w') : wpOp P ops Q i next a w := by
  unfold wpOp
  simp only [ho]
  exact g_sound hΦ h hR hd hn

theorem ops_sound (hΦ : ∀ f la H r H', Φ f la H r H' → CallsTo P f la H r H') {ops : Array Oper} {Q : Exit → Act → World → Prop} {K : Env → Hp → Prop} (hQ : ∀ β σ H a w, RS P n E β σ H a w → K σ H → Q .normal a w) :
    ∀ (l : List Oper) (k : Nat), (∀ j, l[j]? = ops[k + j]?) → (∀ o ∈ l, ∀ d, o.dst = some d → d < n) → ∀ β σ H a w, opsVC P Φ ops l σ H K → RS P n E β σ H a w → wpOps P ops Q (List.range' k l.length) a w
  | [], _, _, _, β, σ, H, a, w, h, hR => hQ _ _ _ _ _ hR h
  | o :: l, k, hl, hd, β, σ, H, a, w, h, hR => by
    rw [List.length_cons, List.range'_succ, wpOps_cons]
    have ho : ops[k]? = some o := by simpa using (hl 0).symm
    exact wpOp_of (hΦ := hΦ) ho (κ := fun v H' => opsVC P Φ ops l (upd σ o.dst v) H' K) h hR (hd o (by simp)) fun v β' H' a' w' hR' hK =>
      ops_sound hΦ hQ l (k + 1) (fun j => by have := hl (j + 1); simpa [Nat.add_assoc, Nat.add_comm 1 j] using this) (fun o ho => hd o (by simp [ho])) β' _ H' a' w' hK hR'

/-! ### what stands ahead -/
theorem mask_bit (g : Nat → Nat) (x : Nat) : ∀ (js : List Nat) (m : Nat), (js.foldl (fun m j => m ||| (2 ^ j ||| g j)) m).testBit x = true ↔ m.testBit x = true ∨ ∃ j ∈ js, x = j ∨ (g j).testBit x = true
  | [], m => by simp
  | j :: js, m => by
    rw [List.foldl_cons, mask_bit g x js]
    simp only [Nat.testBit_or, Bool.or_eq_true, Nat.testBit_two_pow, decide_eq_true_eq, List.mem_cons, exists_eq_or_imp]
    constructor
    · rintro ((h | h | h) | h)
      · exact .inl h
      · exact .inr (.inl (.inl h.symm))
      · exact .inr (.inl (.inr h))
      · exact .inr (.inr h)
    · rintro (h | (h | h) | h)
      · exact .inl (.inl h)
      · exact .inl (.inr (.inl h.symm))
      · exact .inl (.inr (.inr h))
      · exact .inr h

def maskOf (acc : List Nat) (o : Oper) : Nat := (pres o).foldl (fun m j => m ||| (2 ^ j ||| acc.getD j 0)) 0

theorem preM_fold : ∀ (l : List Oper) (acc : List Nat), let r := l.foldl (fun acc o => acc ++ [maskOf acc o]) acc
    r.length = acc.length + l.length ∧ (∀ i, i < acc.length → r[i]? = acc[i]?) ∧ ∀ i o, l[i]? = some o → r[acc.length + i]? = some (maskOf (r.take (acc.length + i)) o)
  | [], acc => by simp
  | o :: l, acc => by
    obtain ⟨h1, h2, h3⟩ := preM_fold l (acc ++ [maskOf acc o])
    simp only [List.foldl_cons]
    generalize hr : l.foldl (fun acc o => acc ++ [maskOf acc o]) (acc ++ [maskOf acc o]) = r at *
    simp only [List.length_append, List.length_singleton] at h1 h2 h3
    refine ⟨by simp [h1]; omega, fun i hi => ?_, fun i o' ho' => ?_⟩
    · rw [h2 i (by omega), List.getElem?_append_left hi]
    · cases i with
      | zero =>
        simp at ho'; subst ho'
        rw [Nat.add_zero, h2 acc.length (by omega)]
        simp only [List.getElem?_append_right (Nat.le_refl _), Nat.sub_self]
        have : r.take acc.length = acc := by
          apply List.ext_getElem?
          intro i
          rw [List.getElem?_take]
          split
          · rename_i hi; rw [h2 i (by omega), List.getElem?_append_left hi]
          · rw [List.getElem?_eq_none (by omega)]
        rw [this]; rfl
      | succ i =>
        have := h3 i o' (by simpa using ho')
        rw [show acc.length + (i + 1) = acc.length + 1 + i from by omega]; exact this

theorem preM_get (l : List Oper) {i : Nat} {o : Oper} (ho : l[i]? = some o) : (preM l)[i]? = some (maskOf ((preM l).take i) o) := by
  have := (preM_fold l []).2.2 i o ho
  simpa [preM, maskOf] using this

theorem behind_iff (l : List Oper) {i j : Nat} {o : Oper} (ho : l[i]? = some o) : behind (preM l) i j = true ↔ ∃ k ∈ pres o, j = k ∨ (k < i ∧ behind (preM l) k j = true) := by
  unfold behind
  rw [List.getD_eq_getElem?_getD, preM_get l ho]
  simp only [Option.getD_some, maskOf]
  rw [mask_bit (fun j => ((preM l).take i).getD j 0)]
  simp only [Nat.zero_testBit, Bool.false_eq_true, false_or]
  refine exists_congr fun k => and_congr_right fun _ => or_congr_right ?_
  rw [List.getD_eq_getElem?_getD, List.getElem?_take]
  by_cases hk : k < i
  · simp [hk]
  · simp [hk]

/-- Who is behind a listed one's forerunners is listed. -/
theorem behind_listed (l : List Oper) {L : Nat → Prop} (hL : ∀ i o, l[i]? = some o → L i → ∀ j ∈ pres o, L j) : ∀ (i : Nat) (o : Oper), l[i]? = some o → (∀ j ∈ pres o, L j) → ∀ j, behind (preM l) i j = true → L j := by
  intro i
  induction i using Nat.strongRecOn with
  | _ i ih =>
    intro o ho hp j hj
    obtain ⟨k, hk, h | ⟨hlt, h⟩⟩ := (behind_iff l ho).1 hj
    · subst h; exact hp j hk
    · have hkl := (List.getElem?_eq_some_iff.1 ho).1
      have hok : l[k]? = some (l[k]'(by omega)) := List.getElem?_eq_getElem (by omega)
      exact ih k hlt _ hok (hL k _ hok (hp k hk)) j h

/-! ### the check -/
structure PairOK (ops : Array Oper) (pm lk : List Nat) (j : Nat) (x : Oper) (i : Nat) (y : Oper) : Prop where
  reads : ∀ d, x.dst = some d → d ∈ looks ops y → behind pm i j = true
  writes : ∀ d, y.dst = some d → d ∈ looks ops x → behind pm i j = true
  mem : isM lk j x = true → isM lk i y = true → behind pm i j = true
  dup : ∀ d, x.dst = some d → y.dst ≠ some d

theorem pair_spec {ops : Array Oper} {pm lk : List Nat} {j i : Nat} {x y : Oper} (h : (pairOK ops pm lk j x i y && dupOK x y) = true) : PairOK ops pm lk j x i y := by
  rw [Bool.and_eq_true] at h
  obtain ⟨h, h'⟩ := h
  unfold pairOK at h
  rw [Bool.or_eq_true] at h
  refine ⟨fun d hd hm => ?_, fun d hd hm => ?_, fun h1 h2 => ?_, fun d hd => ?_⟩
  · rcases h with h | h
    · exact h
    · simp [hd, hm] at h
  · rcases h with h | h
    · exact h
    · simp [hd, hm] at h
  · rcases h with h | h
    · exact h
    · simp [h1, h2] at h
  · unfold dupOK at h'; simp [hd] at h'; exact h'

theorem row_spec {ops : Array Oper} {pm lk : List Nat} {i : Nat} {y : Oper} : ∀ (xs : List Oper) (k : Nat), rowOK ops pm lk i y k xs = true → ∀ j x, xs[j]? = some x → k + j < i → PairOK ops pm lk (k + j) x i y
  | [], _, _, j, x, hx, _ => by simp at hx
  | z :: xs, k, h, j, x, hx, hlt => by
    simp only [rowOK, Bool.and_eq_true] at h
    cases j with
    | zero =>
      simp at hx; subst hx
      rw [if_pos (by omega)] at h
      exact pair_spec (by rw [Bool.and_eq_true]; simpa using h.1)
    | succ j =>
      have := row_spec xs (k + 1) h.2 j x (by simpa using hx) (by omega)
      rw [show k + (j + 1) = k + 1 + j from by omega]; exact this

theorem all_spec {ops : Array Oper} {pm lk : List Nat} {all : List Oper} : ∀ (ys : List Oper) (k : Nat), allOK ops pm lk all k ys = true → ∀ i y, ys[i]? = some y → pm.getD (k + i) 0 < 2 ^ (k + i) ∧ rowOK ops pm lk (k + i) y 0 all = true
  | [], _, _, i, y, hy => by simp at hy
  | z :: ys, k, h, i, y, hy => by
    simp only [allOK, Bool.and_eq_true, decide_eq_true_eq] at h
    cases i with
    | zero => simp at hy; subst hy; exact ⟨h.1.1, h.1.2⟩
    | succ i =>
      have := all_spec ys (k + 1) h.2 i y (by simpa using hy)
      rw [show k + (i + 1) = k + 1 + i from by omega]; exact this

theorem reg_spec {l : List Oper} {lk : List Nat} (h : regOK l lk = true) : (∀ i o j, l[i]? = some o → behind (preM l) i j = true → j < i) ∧ ∀ j i x y, j < i → l[j]? = some x → l[i]? = some y → PairOK l.toArray (preM l) lk j x i y := by
  refine ⟨fun i o j ho hj => ?_, fun j i x y hlt hx hy => ?_⟩
  · have := (all_spec l 0 h i o ho).1
    rw [Nat.zero_add] at this
    unfold behind at hj
    rcases Nat.lt_or_ge j i with h' | h'
    · exact h'
    · rw [Nat.testBit_lt_two_pow (Nat.lt_of_lt_of_le this (Nat.pow_le_pow_right (by omega) h'))] at hj; cases hj
  · have := row_spec l 0 (by simpa using (all_spec l 0 h i y hy).2) j x hx (by omega)
    simpa using this

end Go.Vc

/- A region that draws its order: every order leads to the same end. -/
namespace Go.Vc
open Go

variable {P : Program} {Φ : Contract} {n : Nat} {E : Entry}

def isR (lk : List Nat) (i : Nat) (o : Oper) : Bool := !opN o.op && isL lk i o

/-- What the order of the text shows of one operation. -/
structure Fact (P : Program) (Φ : Contract) (ops : Array Oper) (lk : List Nat) (S : Nat → Env) (HH : Nat → Hp) (V : Nat → AV) (i : Nat) (o : Oper) : Prop where
  step : gV P Φ ops o (S i) (HH i) fun x g => x = V i ∧ g = HH (i + 1)
  env : S (i + 1) = upd (S i) o.dst (V i)
  still : isM lk i o = false → HH (i + 1) = HH i

theorem opsD_run {ops : Array Oper} {pm lk : List Nat} {K : Env → Hp → Prop} : ∀ (rest : List Oper) (i : Nat) (hs : List (Nat × Hp)) (ps : List (Nat × Oper × Env × AV)) (σ : Env) (H : Hp), opsD P Φ ops pm lk i rest hs ps σ H K →
    ∃ (S : Nat → Env) (HH : Nat → Hp) (V : Nat → AV), S i = σ ∧ HH i = H ∧ K (S (i + rest.length)) (HH (i + rest.length)) ∧ ∀ j o, rest[j]? = some o → Fact P Φ ops lk S HH V (i + j) o ∧
      (isR lk (i + j) o = true → (∀ h ∈ hs, behind pm (i + j) h.1 = false → again P Φ ops o (S (i + j)) (V (i + j)) h.2) ∧
        ∀ k x, k < j → rest[k]? = some x → isM lk (i + k) x = true → behind pm (i + j) (i + k) = false → again P Φ ops o (S (i + j)) (V (i + j)) (HH (i + k))) ∧
      (isM lk (i + j) o = true → (∀ p ∈ ps, behind pm (i + j) p.1 = false → again P Φ ops p.2.1 p.2.2.1 p.2.2.2 (HH (i + j + 1))) ∧
        ∀ k x, k < j → rest[k]? = some x → isR lk (i + k) x = true → behind pm (i + j) (i + k) = false → again P Φ ops x (S (i + k)) (V (i + k)) (HH (i + j + 1)))
  | [], i, hs, ps, σ, H, h => ⟨fun _ => σ, fun _ => H, fun _ => .u, rfl, rfl, h, fun j o hj => by simp at hj⟩
  | o :: rest, i, hs, ps, σ, H, h => by
    obtain ⟨v, H', h1, h2⟩ := gV_one h
    -- the rest of the run
    have key : ∃ (hs' : List (Nat × Hp)) (ps' : List (Nat × Oper × Env × AV)), opsD P Φ ops pm lk (i + 1) rest hs' ps' (upd σ o.dst v) H' K ∧ (∀ h ∈ hs, h ∈ hs') ∧ (∀ p ∈ ps, p ∈ ps') ∧ (isM lk i o = false → H' = H) ∧
        (isR lk i o = true → (∀ h ∈ hs, behind pm i h.1 = false → again P Φ ops o σ v h.2) ∧ (i, o, σ, v) ∈ ps') ∧
        (isM lk i o = true → (∀ p ∈ ps, behind pm i p.1 = false → again P Φ ops p.2.1 p.2.2.1 p.2.2.2 H') ∧ (i, H) ∈ hs') := by
      by_cases hN : opN o.op = true
      · rw [if_pos hN] at h2
        refine ⟨hs, ps, h2, fun _ h => h, fun _ h => h, fun _ => ?_, fun h => by simp [isR, hN] at h, fun h => by simp [isM, hN] at h⟩
        obtain ⟨_, _, _, hc⟩ := gV_one (gV_N hN H h1)
        exact hc.2.2.symm
      · rw [if_neg hN] at h2
        by_cases hL : isL lk i o = true
        · rw [if_pos hL] at h2
          obtain ⟨e, h3, h4⟩ := h2
          exact ⟨hs, _, h4, fun _ h => h, fun _ h => List.mem_cons_of_mem _ h, fun _ => e, fun _ => ⟨h3, List.mem_cons_self⟩, fun h => by simp [isM, hL] at h⟩
        · rw [if_neg hL] at h2
          obtain ⟨h3, h4⟩ := h2
          exact ⟨_, ps, h4, fun _ h => List.mem_cons_of_mem _ h, fun _ h => h, fun h => by simp [isM, hL] at h; exact absurd h hN, fun h => by simp [isR, hL] at h, fun _ => ⟨h3, List.mem_cons_self⟩⟩
    obtain ⟨hs', ps', k1, k2, k3, k4, k5, k6⟩ := key
    obtain ⟨S, HH, V, r1, r2, r3, r4⟩ := opsD_run rest (i + 1) hs' ps' _ _ k1
    obtain ⟨S2, S0, S1⟩ : ∃ S2 : Nat → Env, S2 i = σ ∧ ∀ m, i < m → S2 m = S m := ⟨fun j => if j = i then σ else S j, if_pos rfl, fun m hm => if_neg (by omega)⟩
    obtain ⟨H2, H0, H1⟩ : ∃ H2 : Nat → Hp, H2 i = H ∧ ∀ m, i < m → H2 m = HH m := ⟨fun j => if j = i then H else HH j, if_pos rfl, fun m hm => if_neg (by omega)⟩
    obtain ⟨V2, V0, V1⟩ : ∃ V2 : Nat → AV, V2 i = v ∧ ∀ m, i < m → V2 m = V m := ⟨fun j => if j = i then v else V j, if_pos rfl, fun m hm => if_neg (by omega)⟩
    refine ⟨S2, H2, V2, S0, H0, ?_, fun j x hx => ?_⟩
    · simp only [List.length_cons]
      rw [S1 _ (by omega), H1 _ (by omega), show i + (rest.length + 1) = i + 1 + rest.length from by omega]; exact r3
    · cases j with
      | zero =>
        simp at hx; subst hx
        simp only [Nat.add_zero]
        refine ⟨⟨?_, ?_, fun h => ?_⟩, fun h => ⟨fun p hp hb => ?_, fun k x hk => by omega⟩, fun h => ⟨fun p hp hb => ?_, fun k x hk => by omega⟩⟩
        · rw [S0, H0, V0, H1 _ (by omega), r2]; exact h1
        · rw [S0, V0, S1 _ (by omega)]; exact r1
        · rw [H0, H1 _ (by omega), r2]; exact k4 h
        · rw [S0, V0]; exact (k5 h).1 p hp hb
        · rw [H1 _ (by omega), r2]; exact (k6 h).1 p hp hb
      | succ j =>
        have hx' : rest[j]? = some x := by simpa using hx
        obtain ⟨f, g1, g2⟩ := r4 j x hx'
        have e : i + (j + 1) = i + 1 + j := by omega
        rw [e]
        refine ⟨⟨?_, ?_, fun h => ?_⟩, fun h => ⟨fun p hp hb => ?_, fun k y hk hy hm hb => ?_⟩, fun h => ⟨fun p hp hb => ?_, fun k y hk hy hm hb => ?_⟩⟩
        · rw [S1 _ (by omega), H1 _ (by omega), V1 _ (by omega), H1 _ (by omega)]; exact f.step
        · rw [S1 _ (by omega), S1 _ (by omega), V1 _ (by omega)]; exact f.env
        · rw [H1 _ (by omega), H1 _ (by omega)]; exact f.still h
        · rw [S1 _ (by omega), V1 _ (by omega)]; exact (g1 h).1 p (k2 p hp) hb
        · rw [S1 _ (by omega), V1 _ (by omega)]
          cases k with
          | zero =>
            simp at hy; subst hy
            simp only [Nat.add_zero] at hb hm ⊢
            rw [H0]
            exact (g1 h).1 (i, H) (k6 hm).2 hb
          | succ k =>
            rw [H1 _ (by omega), show i + (k + 1) = i + 1 + k from by omega]
            rw [show i + (k + 1) = i + 1 + k from by omega] at hm hb
            exact (g1 h).2 k y (by omega) (by simpa using hy) hm hb
        · rw [H1 _ (by omega)]; exact (g2 h).1 p (k3 p hp) hb
        · rw [H1 _ (by omega)]
          cases k with
          | zero =>
            simp at hy; subst hy
            simp only [Nat.add_zero] at hb hm ⊢
            rw [S0, V0]
            exact (g2 h).1 (i, o, σ, v) (k5 hm).2 hb
          | succ k =>
            rw [S1 _ (by omega), V1 _ (by omega), show i + (k + 1) = i + 1 + k from by omega]
            rw [show i + (k + 1) = i + 1 + k from by omega] at hm hb
            exact (g2 h).2 k y (by omega) (by simpa using hy) hm hb

section flat
variable {l : List Oper} {lk : List Nat} {S : Nat → Env} {HH : Nat → Hp} {V : Nat → AV} {K : Env → Hp → Prop}

def lst (listed : Array Bool) (i : Nat) : Prop := listed.getD i false = true

open Classical in
/-- What the places hold when some are done. -/
noncomputable def σL (l : List Oper) (S : Nat → Env) (V : Nat → AV) (listed : Array Bool) : Env := fun t =>
  if h : ∃ i, lst listed i ∧ ∃ o, l[i]? = some o ∧ o.dst = some t then V (Classical.choose h) else S 0 t

theorem σL_in (hu : ∀ (j i : Nat) (x y : Oper), j < i → l[j]? = some x → l[i]? = some y → ∀ d, x.dst = some d → y.dst ≠ some d) {listed : Array Bool} {i t : Nat} {o : Oper} (hi : lst listed i) (ho : l[i]? = some o) (ht : o.dst = some t) : σL l S V listed t = V i := by
  have h : ∃ i, lst listed i ∧ ∃ o, l[i]? = some o ∧ o.dst = some t := ⟨i, hi, o, ho, ht⟩
  unfold σL
  rw [dif_pos h]
  obtain ⟨h1, o', h2, h3⟩ := Classical.choose_spec h
  congr 1
  rcases Nat.lt_trichotomy (Classical.choose h) i with hlt | heq | hgt
  · exact absurd ht (hu _ _ _ _ hlt h2 ho _ h3)
  · exact heq
  · exact absurd h3 (hu _ _ _ _ hgt ho h2 _ ht)

theorem σL_out {listed : Array Bool} {t : Nat} (h : ∀ i o, lst listed i → l[i]? = some o → o.dst ≠ some t) : σL l S V listed t = S 0 t := by
  unfold σL
  rw [dif_neg]
  rintro ⟨i, h1, o, h2, h3⟩
  exact h i o h1 h2 h3

theorem S_out (hS : ∀ i o, l[i]? = some o → S (i + 1) = upd (S i) o.dst (V i)) {t : Nat} : ∀ k, k ≤ l.length → (∀ i o, i < k → l[i]? = some o → o.dst ≠ some t) → S k t = S 0 t
  | 0, _, _ => rfl
  | k + 1, hk, h => by
    have ho : l[k]? = some (l[k]'(by omega)) := List.getElem?_eq_getElem (by omega)
    rw [hS k _ ho]
    unfold upd
    rw [if_neg (fun e => h k _ (by omega) ho e.symm)]
    exact S_out hS k (by omega) fun i o hi => h i o (by omega)

theorem S_in (hu : ∀ (j i : Nat) (x y : Oper), j < i → l[j]? = some x → l[i]? = some y → ∀ d, x.dst = some d → y.dst ≠ some d) (hS : ∀ i o, l[i]? = some o → S (i + 1) = upd (S i) o.dst (V i)) {t i : Nat} {o : Oper} (ho : l[i]? = some o) (ht : o.dst = some t) : ∀ k, k ≤ l.length → i < k → S k t = V i
  | 0, _, h => by omega
  | k + 1, hk, h => by
    have hok : l[k]? = some (l[k]'(by omega)) := List.getElem?_eq_getElem (by omega)
    rw [hS k _ hok]
    unfold upd
    rcases Nat.eq_or_lt_of_le (Nat.le_of_lt_succ h) with e | e
    · subst e
      rw [hok] at ho; cases ho
      rw [if_pos ht.symm]
    · rw [if_neg (fun e' => hu i k _ _ e ho hok _ ht e'.symm)]
      exact S_in hu hS ho ht k (by omega) e

/-- The next that may change blocks. -/
theorem next_M (l : List Oper) (lk : List Nat) (i : Nat) (hi : i ≤ l.length) : ∃ j, i ≤ j ∧ j ≤ l.length ∧ (j = l.length ∨ ∃ o, l[j]? = some o ∧ isM lk j o = true) ∧ ∀ k o, i ≤ k → k < j → l[k]? = some o → isM lk k o = false := by
  generalize hd : l.length - i = d
  induction d generalizing i with
  | zero => exact ⟨i, Nat.le_refl _, hi, .inl (by omega), fun k o h1 h2 => by omega⟩
  | succ d ih =>
    have ho : l[i]? = some (l[i]'(by omega)) := List.getElem?_eq_getElem (by omega)
    by_cases hm : isM lk i (l[i]'(by omega)) = true
    · exact ⟨i, Nat.le_refl _, hi, .inr ⟨_, ho, hm⟩, fun k o h1 h2 => by omega⟩
    · obtain ⟨j, h1, h2, h3, h4⟩ := ih (i + 1) (by omega) (by omega)
      refine ⟨j, by omega, h2, h3, fun k o hk1 hk2 hk => ?_⟩
      rcases Nat.eq_or_lt_of_le hk1 with e | e
      · subst e; rw [ho] at hk; cases hk; simpa using hm
      · exact h4 k o e hk2 hk

theorem HH_const (hF : ∀ i o, l[i]? = some o → isM lk i o = false → HH (i + 1) = HH i) {i : Nat} : ∀ j, i ≤ j → j ≤ l.length → (∀ k o, i ≤ k → k < j → l[k]? = some o → isM lk k o = false) → HH j = HH i
  | 0, h, _, _ => by rw [show i = 0 from by omega]
  | j + 1, h, hl, hk => by
    rcases Nat.eq_or_lt_of_le h with e | e
    · rw [e]
    · have ho : l[j]? = some (l[j]'(by omega)) := List.getElem?_eq_getElem (by omega)
      rw [hF j _ ho (hk j _ (by omega) (by omega) ho)]
      exact HH_const hF j (by omega) (by omega) fun k o h1 h2 => hk k o h1 (by omega)

/-- The last before that may change blocks. -/
theorem last_M (l : List Oper) (lk : List Nat) (i : Nat) : ∀ j, j ≤ l.length → (∀ k o, i < k → k < j → l[k]? = some o → isM lk k o = false) ∨ ∃ k o, i < k ∧ k < j ∧ l[k]? = some o ∧ isM lk k o = true ∧ ∀ k' o', k < k' → k' < j → l[k']? = some o' → isM lk k' o' = false
  | 0, _ => .inl fun k o _ h => by omega
  | j + 1, hj => by
    have ho : l[j]? = some (l[j]'(by omega)) := List.getElem?_eq_getElem (by omega)
    by_cases hij : i < j
    · by_cases hm : isM lk j (l[j]'(by omega)) = true
      · exact .inr ⟨j, _, hij, by omega, ho, hm, fun k' o' h1 h2 => by omega⟩
      · rcases last_M l lk i j (by omega) with h | ⟨k, o, h1, h2, h3, h4, h5⟩
        · refine .inl fun k o h1 h2 h3 => ?_
          rcases Nat.eq_or_lt_of_le (Nat.le_of_lt_succ h2) with e | e
          · subst e; rw [ho] at h3; cases h3; simpa using hm
          · exact h k o h1 e h3
        · refine .inr ⟨k, o, h1, by omega, h3, h4, fun k' o' h6 h7 h8 => ?_⟩
          rcases Nat.eq_or_lt_of_le (Nat.le_of_lt_succ h7) with e | e
          · subst e; rw [ho] at h8; cases h8; simpa using hm
          · exact h5 k' o' h6 e h8
    · exact .inl fun k o h1 h2 => by omega

/-- What holds between the steps. -/
structure Inv (P : Program) (n : Nat) (E : Entry) (l : List Oper) (lk : List Nat) (S : Nat → Env) (HH : Nat → Hp) (V : Nat → AV) (listed : Array Bool) (a : Act) (w : World) : Prop where
  size : listed.size = l.length
  closed : ∀ i o, l[i]? = some o → lst listed i → ∀ j ∈ pres o, lst listed j
  here : ∃ j, j ≤ l.length ∧ (j = l.length ∨ ∃ o, l[j]? = some o ∧ isM lk j o = true ∧ ¬ lst listed j) ∧ (∀ k o, k < j → l[k]? = some o → isM lk k o = true → lst listed k) ∧ ∃ β, RS P n E β (σL l S V listed) (HH j) a w

theorem lst_set {listed : Array Bool} {i j : Nat} (hi : i < listed.size) : lst (listed.setIfInBounds i true) j ↔ j = i ∨ lst listed j := by
  unfold lst
  simp only [Array.getD_eq_getD_getElem?, Array.getElem?_setIfInBounds]
  by_cases h : i = j
  · subst h; simp [hi]
  · simp [h, Ne.symm h]

theorem pres_mem {o : Oper} {e : Edge} (he : e ∈ o.after) (hb : Region.binds .any e = true) : e.on ∈ pres o := by
  unfold pres
  exact List.mem_map.2 ⟨e, List.mem_filter.2 ⟨by simpa using he, hb⟩, rfl⟩
theorem of_pres {o : Oper} {j : Nat} (h : j ∈ pres o) : ∃ e ∈ o.after, Region.binds .any e = true ∧ e.on = j := by
  unfold pres at h
  obtain ⟨e, h1, h2⟩ := List.mem_map.1 h
  obtain ⟨h3, h4⟩ := List.mem_filter.1 h1
  exact ⟨e, by simpa using h3, h4, h2⟩


theorem flat_sound (hΦ : ∀ f la H r H', Φ f la H r H' → CallsTo P f la H r H') {Q : Exit → Act → World → Prop} (hQ : ∀ β σ H a w, RS P n E β σ H a w → K σ H → Q .normal a w) (hreg : regOK l lk = true) (hdst : ∀ o ∈ l, ∀ d, o.dst = some d → d < n)
    (hF : ∀ i o, l[i]? = some o → Fact P Φ l.toArray lk S HH V i o ∧
      (isR lk i o = true → ∀ k x, k < i → l[k]? = some x → isM lk k x = true → behind (preM l) i k = false → again P Φ l.toArray o (S i) (V i) (HH k)) ∧
      (isM lk i o = true → ∀ k x, k < i → l[k]? = some x → isR lk k x = true → behind (preM l) i k = false → again P Φ l.toArray x (S k) (V k) (HH (i + 1)))) (hK : K (S l.length) (HH l.length)) :
    ∀ (fuel : Nat) (listed : Array Bool) (a : Act) (w : World), Inv P n E l lk S HH V listed a w → listed.toList.count false ≤ fuel → wpAny P .any l.toArray Q fuel listed a w := by
  obtain ⟨hbk, hpair⟩ := reg_spec hreg
  have hu : ∀ (j i : Nat) (x y : Oper), j < i → l[j]? = some x → l[i]? = some y → ∀ d, x.dst = some d → y.dst ≠ some d := fun j i x y h1 h2 h3 => (hpair j i x y h1 h2 h3).dup
  have hS : ∀ i o, l[i]? = some o → S (i + 1) = upd (S i) o.dst (V i) := fun i o ho => (hF i o ho).1.env
  have hstill : ∀ i o, l[i]? = some o → isM lk i o = false → HH (i + 1) = HH i := fun i o ho => (hF i o ho).1.still
  -- all is done where nothing is ready
  have hfull : ∀ (listed : Array Bool), listed.size = l.length → Region.ready .any l.toArray listed = [] → ∀ i, i < l.length → lst listed i := by
    intro listed hsz hr i
    induction i using Nat.strongRecOn with
    | _ i ih =>
      intro hi
      have ho : l[i]? = some (l[i]'hi) := List.getElem?_eq_getElem hi
      by_cases hl : lst listed i
      · exact hl
      · exfalso
        have : i ∈ Region.ready .any l.toArray listed := mem_ready.2 ⟨by
          unfold lst at hl
          rw [Array.getD_eq_getD_getElem?] at hl ⊢
          rw [Array.getElem?_eq_getElem (by omega)] at hl ⊢
          simpa using hl, l[i]'hi, by simp, fun e he hb => by
            have hj : e.on < i := hbk i _ e.on ho ((behind_iff l ho).2 ⟨e.on, pres_mem he hb, .inl rfl⟩)
            exact ih e.on hj (by omega)⟩
        rw [hr] at this; cases this
  have hdone : ∀ (listed : Array Bool) (a : Act) (w : World), Inv P n E l lk S HH V listed a w → (∀ i, i < l.length → lst listed i) → Q .normal a w := by
    intro listed a w hI hall
    obtain ⟨j, h1, h2, -, β, hR⟩ := hI.here
    have hj : j = l.length := by
      rcases h2 with h | ⟨o, ho, -, hn⟩
      · exact h
      · exact absurd (hall j (List.getElem?_eq_some_iff.1 ho).1) hn
    subst hj
    have : σL l S V listed = S l.length := by
      funext t
      by_cases hex : ∃ (i : Nat) (o : Oper), l[i]? = some o ∧ o.dst = some t
      · obtain ⟨i, o, ho, ht⟩ := hex
        have hi := (List.getElem?_eq_some_iff.1 ho).1
        rw [σL_in hu (hall i hi) ho ht, S_in hu hS ho ht l.length (Nat.le_refl _) hi]
      · rw [σL_out fun i o _ ho ht => hex ⟨i, o, ho, ht⟩, S_out hS l.length (Nat.le_refl _) fun i o _ ho ht => hex ⟨i, o, ho, ht⟩]
    rw [this] at hR
    exact hQ _ _ _ _ _ hR hK
  intro fuel
  induction fuel with
  | zero =>
    intro listed a w hI hc
    have hall : ∀ i, i < l.length → lst listed i := fun i hi => by
      have h0 : ∀ b ∈ listed.toList, b = true := fun b hb => by
        cases b with
        | true => rfl
        | false => have := List.count_pos_iff.2 hb; omega
      unfold lst
      rw [Array.getD_eq_getD_getElem?, Array.getElem?_eq_getElem (by rw [hI.size]; exact hi)]
      exact h0 _ (by simp)
    refine ⟨?_, hdone listed a w hI hall⟩
    rw [List.eq_nil_iff_forall_not_mem]
    intro i hi
    obtain ⟨h1, o, h2, -⟩ := mem_ready.1 hi
    have hil : i < l.length := by have := (Array.getElem?_eq_some_iff.1 h2).1; simpa using this
    have := hall i hil
    unfold lst at this
    rw [Array.getD_eq_getD_getElem?] at this h1
    rw [Array.getElem?_eq_getElem (by rw [hI.size]; exact hil)] at this h1
    simp at this h1; rw [this] at h1; cases h1
  | succ fuel ih =>
    intro listed a w hI hc
    refine ⟨fun hr => hdone listed a w hI (hfull listed hI.size hr), fun i hi => ?_⟩
    obtain ⟨hun, o, ho, hedge⟩ := mem_ready.1 hi
    have ho' : l[i]? = some o := by simpa using ho
    have hil : i < l.length := (List.getElem?_eq_some_iff.1 ho').1
    have hnl : ¬ lst listed i := by
      unfold lst
      rw [Array.getD_eq_getD_getElem?] at hun ⊢
      rw [Array.getElem?_eq_getElem (by rw [hI.size]; exact hil)] at hun ⊢
      simpa using hun
    have hpre : ∀ j ∈ pres o, lst listed j := fun j hj => by
      obtain ⟨e, h1, h2, h3⟩ := of_pres hj
      subst h3; exact hedge e h1 h2
    have hbl : ∀ j, behind (preM l) i j = true → lst listed j := behind_listed l hI.closed i o ho' hpre
    -- who is behind it is not listed
    have hnb : ∀ k x, l[k]? = some x → behind (preM l) k i = true → ¬ lst listed k := fun k x hk hb hlk => hnl (behind_listed l hI.closed k x hk (hI.closed k x hk hlk) i hb)
    obtain ⟨j, hj1, hj2, hj3, β, hR⟩ := hI.here
    have hlook : ∀ t ∈ looks l.toArray o, S i t = σL l S V listed t := by
      intro t ht
      by_cases hex : ∃ (d : Nat) (x : Oper), l[d]? = some x ∧ x.dst = some t
      · obtain ⟨d, x, hx, hxt⟩ := hex
        have hdl := (List.getElem?_eq_some_iff.1 hx).1
        rcases Nat.lt_trichotomy d i with hlt | heq | hgt
        · have hb := (hpair d i x o hlt hx ho').reads t hxt ht
          rw [σL_in hu (hbl d hb) hx hxt, S_in hu hS hx hxt i (by omega) hlt]
        · subst heq
          rw [hx] at ho'; cases ho'
          rw [S_out hS d (by omega) fun k y hk hy hyt => hu k d y _ hk hy hx t hyt hxt, σL_out]
          intro k y hk hy hyt
          rcases Nat.lt_trichotomy k d with h | h | h
          · exact hu k d y _ h hy hx t hyt hxt
          · subst h; exact hnl hk
          · exact hu d k _ y h hx hy t hxt hyt
        · have hb := (hpair i d o x hgt ho' hx).writes t hxt ht
          rw [S_out hS i (by omega) fun k y hk hy hyt => hu k d y x (by omega) hy hx t hyt hxt, σL_out]
          intro k y hk hy hyt
          rcases Nat.lt_trichotomy k d with h | h | h
          · exact hu k d y x h hy hx t hyt hxt
          · subst h; exact hnb k x hx hb hk
          · exact hu d k x y h hx hy t hxt hyt
      · rw [S_out hS i (by omega) fun k y _ hy hyt => hex ⟨k, y, hy, hyt⟩, σL_out fun k y _ hy hyt => hex ⟨k, y, hy, hyt⟩]
    -- the step over the blocks as they are
    have hstep : ∃ G, gV P Φ l.toArray o (S i) (HH j) (fun x g => x = V i ∧ g = G) ∧ ((isM lk i o = true ∧ j = i ∧ G = HH (i + 1)) ∨ (isM lk i o = false ∧ G = HH j)) := by
      obtain ⟨hf, hr, hm⟩ := hF i o ho'
      by_cases hN : opN o.op = true
      · refine ⟨HH j, gV_mono (gV_N hN (HH j) hf.step) fun x g hx => ⟨hx.2.1, hx.1⟩, .inr ⟨by simp [isM, hN], rfl⟩⟩
      · by_cases hL : isL lk i o = true
        · have hRi : isR lk i o = true := by simp [isR, hN, hL]
          have hMi : isM lk i o = false := by simp [isM, hL]
          refine ⟨HH j, ?_, .inr ⟨hMi, rfl⟩⟩
          rcases Nat.lt_or_ge j i with hlt | hge
          · rcases hj2 with h | ⟨x, hx, hxm, hxl⟩
            · omega
            · refine hr hRi j x hlt hx hxm ?_
              cases hb : behind (preM l) i j with
              | false => rfl
              | true => exact absurd (hbl j hb) hxl
          · rcases last_M l lk i j hj1 with h | ⟨k, x, h1, h2, h3, h4, h5⟩
            · have : HH j = HH i := HH_const hstill j hge hj1 fun k y hk1 hk2 hy => by
                rcases Nat.eq_or_lt_of_le hk1 with e | e
                · subst e; rw [hy] at ho'; cases ho'; exact hMi
                · exact h k y e hk2 hy
              rw [this]
              have := hf.step
              rw [hf.still hMi] at this; exact this
            · have hkl : lst listed k := hj3 k x h2 h3 h4
              have : HH j = HH (k + 1) := HH_const hstill j (by omega) hj1 fun k' y hk1 hk2 hy => h5 k' y (by omega) hk2 hy
              rw [this]
              refine (hF k x h3).2.2 h4 i o h1 ho' hRi ?_
              cases hb : behind (preM l) k i with
              | false => rfl
              | true => exact absurd hkl (hnb k x h3 hb)
        · have hMi : isM lk i o = true := by simp [isM, hL]; simpa using hN
          have hji : j = i := by
            rcases Nat.lt_trichotomy j i with h | h | h
            · rcases hj2 with h' | ⟨x, hx, hxm, hxl⟩
              · omega
              · exact absurd (hbl j ((hpair j i x o h hx ho').mem hxm hMi)) hxl
            · exact h
            · exact absurd (hj3 i o h ho' hMi) hnl
          subst hji
          exact ⟨_, hf.step, .inl ⟨hMi, rfl, rfl⟩⟩
    obtain ⟨G, hg, hG⟩ := hstep
    rw [gV_congr hlook] at hg
    refine wpOp_of (hΦ := hΦ) ho hg hR (fun d hd => hdst o (List.mem_of_getElem? ho') d hd) fun v β' H' a' w' hR' hv => ?_
    obtain ⟨rfl, rfl⟩ := hv
    have hsz : i < listed.size := by rw [hI.size]; exact hil
    refine ih _ _ _ ⟨by simp [hI.size], fun k x hk hkl m hm => ?_, ?_⟩ ?_
    · rw [lst_set hsz] at hkl ⊢
      rcases hkl with rfl | hkl
      · rw [hk] at ho'; cases ho'; exact .inr (hpre m hm)
      · exact .inr (hI.closed k x hk hkl m hm)
    · have hσ : upd (σL l S V listed) o.dst (V i) = σL l S V (listed.setIfInBounds i true) := by
        funext t
        unfold upd
        by_cases ht : some t = o.dst
        · rw [if_pos ht, σL_in hu ((lst_set hsz).2 (.inl rfl)) ho' ht.symm]
        · rw [if_neg ht]
          by_cases hex : ∃ (d : Nat) (x : Oper), lst listed d ∧ l[d]? = some x ∧ x.dst = some t
          · obtain ⟨d, x, h1, h2, h3⟩ := hex
            rw [σL_in hu h1 h2 h3, σL_in hu ((lst_set hsz).2 (.inr h1)) h2 h3]
          · rw [σL_out fun d x h1 h2 h3 => hex ⟨d, x, h1, h2, h3⟩, σL_out]
            intro d x h1 h2 h3
            rcases (lst_set hsz).1 h1 with rfl | h1
            · rw [h2] at ho'; cases ho'; exact ht h3.symm
            · exact hex ⟨d, x, h1, h2, h3⟩
      rw [hσ] at hR'
      rcases hG with ⟨hMi, hji, rfl⟩ | ⟨hMi, rfl⟩
      · subst hji
        obtain ⟨j', q1, q2, q3, q4⟩ := next_M l lk (j + 1) (by omega)
        refine ⟨j', q2, ?_, fun k x hk hx hxm => ?_, β', ?_⟩
        · rcases q3 with h | ⟨x, hx, hxm⟩
          · exact .inl h
          · refine .inr ⟨x, hx, hxm, fun hl => ?_⟩
            rcases (lst_set hsz).1 hl with e | hl
            · omega
            · exact hnb j' x hx ((hpair j j' o x (by omega) ho' hx).mem hMi hxm) hl
        · rw [lst_set hsz]
          rcases Nat.lt_trichotomy k j with h | h | h
          · exact .inr (hj3 k x h hx hxm)
          · exact .inl h
          · have := q4 k x (by omega) hk hx; rw [this] at hxm; cases hxm
        · rw [HH_const hstill j' q1 q2 q4]; exact hR'
      · refine ⟨j, hj1, ?_, fun k x hk hx hxm => ?_, β', hR'⟩
        · rcases hj2 with h | ⟨x, hx, hxm, hxl⟩
          · exact .inl h
          · refine .inr ⟨x, hx, hxm, fun hl => ?_⟩
            rcases (lst_set hsz).1 hl with e | hl
            · subst e; rw [hx] at ho'; cases ho'; rw [hMi] at hxm; cases hxm
            · exact hxl hl
        · rw [lst_set hsz]; exact .inr (hj3 k x hk hx hxm)
    · have hget : listed.toList[i]'(by simpa using hsz) = false := by
        have := hun
        rw [Array.getD_eq_getD_getElem?, Array.getElem?_eq_getElem hsz] at this
        simpa using this
      have hcs : (listed.setIfInBounds i true).toList.count false + 1 = listed.toList.count false := by
        rw [Array.toList_setIfInBounds, List.count_set (by simpa using hsz)]
        have hp : 0 < listed.toList.count false := List.count_pos_iff.2 (by rw [← hget]; exact List.getElem_mem _)
        rw [hget]
        show _ - 1 + 0 + 1 = _
        omega
      omega

/-- A region that draws its order is sound. -/
theorem draw_sound (hΦ : ∀ f la H r H', Φ f la H r H' → CallsTo P f la H r H') (hmix : P.follows .mixedOrders = true) {id : Nat} {ops : Array Oper} {Q : Exit → Act → World → Prop} (hQ : ∀ β σ H a w, RS P n E β σ H a w → K σ H → Q .normal a w) (hreg : regOK ops.toList lk = true) (hdst : ∀ o ∈ ops.toList, ∀ d, o.dst = some d → d < n)
    {β : Map} {σ : Env} {H : Hp} {a : Act} {w : World} (h : opsD P Φ ops (preM ops.toList) lk 0 ops.toList [] [] σ H K) (hR : RS P n E β σ H a w) : (Code.region id ops true).wp P Q a w := by
  obtain ⟨l⟩ := ops
  obtain ⟨S, HH, V, h1, h2, h3, h4⟩ := opsD_run l 0 [] [] σ H h
  simp only [Nat.zero_add] at h3 h4
  refine wp_region_any hmix ?_
  have hR' : RS P n E β σ H a { w with drawn := w.drawn + 1 } := hR.same ⟨rfl, rfl, rfl, rfl⟩
  have hnone : ∀ i, ¬ lst (Array.replicate l.length false) i := fun i => by
    unfold lst
    rw [Array.getD_eq_getD_getElem?]
    by_cases hi : i < l.length
    · rw [Array.getElem?_eq_getElem (by simpa using hi)]; simp
    · rw [Array.getElem?_eq_none (by simpa using hi)]; simp
  have hsz : (l.toArray).size = l.length := by simp
  show wpAny P .any l.toArray Q l.toArray.size (Array.replicate l.toArray.size false) a { w with drawn := w.drawn + 1 }
  rw [hsz]
  refine flat_sound (S := S) (HH := HH) (V := V) (lk := lk) (K := K) hΦ hQ hreg hdst (fun i o ho => ?_) h3 _ _ _ _ ⟨by simp, fun i o _ hl => absurd hl (hnone i), ?_⟩ (by simp)
  · obtain ⟨f, g1, g2⟩ := h4 i o ho
    exact ⟨f, fun hr k x hk hx => (g1 hr).2 k x hk hx, fun hm k x hk hx => (g2 hm).2 k x hk hx⟩
  · obtain ⟨j, q1, q2, q3, q4⟩ := next_M l lk 0 (Nat.zero_le _)
    refine ⟨j, q2, ?_, fun k o hk ho hm => ?_, β, ?_⟩
    · rcases q3 with h | ⟨o, ho, hm⟩
      · exact .inl h
      · exact .inr ⟨o, ho, hm, hnone j⟩
    · have := q4 k o (Nat.zero_le _) hk ho; rw [this] at hm; cases hm
    · have e1 : σL l S V (Array.replicate l.length false) = σ := by
        funext t
        rw [σL_out fun i o hl => absurd hl (hnone i), h1]
      have e2 : HH j = H := by
        rw [← h2]
        exact HH_const (fun i o ho => (h4 i o ho).1.still) j q1 q2 q4
      rw [e1, e2]; exact hR'
end flat
end Go.Vc

/- Whole bodies: what the generator asks of a function makes its contract. -/
namespace Go.Vc
open Go

variable {P : Program} {Φ : Contract} {n : Nat} {E : Entry}

/-- The end of a piece of code. -/
def QK (P : Program) (n : Nat) (E : Entry) (K : Ex → Env → Hp → Prop) : Exit → Act → World → Prop
  | .normal, a, w => ∃ β σ H, RS P n E β σ H a w ∧ K .normal σ H
  | .exit id, a, w => ∃ β σ H, RS P n E β σ H a w ∧ K (.exit id) σ H
  | .ret, a, w => ∃ β σ H, RS P n E β σ H a w ∧ K .ret σ H
  | _, _, _ => False

theorem least {p : Nat → Prop} (h : ∃ n, p n) : ∃ n, p n ∧ ∀ m, p m → n ≤ m := by
  obtain ⟨n, hn⟩ := h
  induction n using Nat.strongRecOn with
  | _ n ih =>
    by_cases hm : ∃ m, m < n ∧ p m
    · obtain ⟨m, h1, h2⟩ := hm; exact ih m h1 h2
    · exact ⟨n, hn, fun m hpm => Nat.le_of_not_lt fun hlt => hm ⟨m, hlt, hpm⟩⟩

theorem wp_loop' {c : Code} {Q : Exit → Act → World → Prop} (J : Nat → Act → World → Prop) {a : Act} {w : World} (h0 : ∃ m, J m a w)
    (round : ∀ m a w, J m a w → c.wp P (Exit.then (fun a' w' => ∃ k, k < m ∧ J k a' w') Q) a w) : (Code.loop c).wp P Q a w := by
  classical
  let μ : Act → World → Nat := fun a w => if h : ∃ m, J m a w then Classical.choose (least h) else 0
  have hμ : ∀ a w, (∃ m, J m a w) → J (μ a w) a w ∧ ∀ m, J m a w → μ a w ≤ m := fun a w h => by
    show J (dite _ _ _) a w ∧ ∀ m, J m a w → (dite _ _ _) ≤ m
    rw [dif_pos h]; exact Classical.choose_spec (least h)
  refine wp_loop (fun a w => ∃ m, J m a w) μ h0 fun a w hI => ?_
  refine wp_mono (round (μ a w) a w (hμ a w hI).1) fun e a' w' hq => ?_
  cases e with
  | normal =>
    obtain ⟨k, h1, h2⟩ := hq
    exact ⟨⟨k, h2⟩, Nat.lt_of_le_of_lt ((hμ a' w' ⟨k, h2⟩).2 k h2) h1⟩
  | _ => exact hq

theorem vc_sound (hΦ : ∀ f la H r H', Φ f la H r H' → CallsTo P f la H r H') (hmix : P.follows .mixedOrders = true) : ∀ (c : Code) (K : Ex → Env → Hp → Prop) (β : Map) (σ : Env) (H : Hp) (a : Act) (w : World), dstOK n c = true → vc P Φ c σ H K → RS P n E β σ H a w → c.wp P (QK P n E K) a w
  | .skip, K, β, σ, H, a, w, _, h, hR => wp_skip ⟨β, σ, H, hR, h⟩
  | .exit id, K, β, σ, H, a, w, _, h, hR => wp_exit ⟨β, σ, H, hR, h⟩
  | .ret, K, β, σ, H, a, w, _, h, hR => wp_ret ⟨β, σ, H, hR, h⟩
  | .region id ops false, K, β, σ, H, a, w, hd, h, hR => by
    have hd' : ∀ o ∈ ops.toList, ∀ d, o.dst = some d → d < n := fun o ho d hod => by
      have := List.all_eq_true.1 hd o ho
      simpa [hod] using this
    have := ops_sound (n := n) (E := E) hΦ (Q := QK P n E K) (K := K .normal) (fun β σ H a w h1 h2 => ⟨β, σ, H, h1, h2⟩) ops.toList 0 (by simp) hd' β σ H a w h hR
    refine wp_region ?_
    rw [List.range_eq_range']
    simpa using this
  | .region id ops true, K, β, σ, H, a, w, hd, h, hR => by
    have hd' : ∀ o ∈ ops.toList, ∀ d, o.dst = some d → d < n := fun o ho d hod => by
      have := List.all_eq_true.1 hd o ho
      simpa [hod] using this
    obtain ⟨lk, h1, h2⟩ := h
    exact draw_sound hΦ hmix (fun β σ H a w h1 h2 => ⟨β, σ, H, h1, h2⟩) h1 hd' h2 hR
  | .seq x y, K, β, σ, H, a, w, hd, h, hR => by
    simp only [dstOK, Bool.and_eq_true] at hd
    refine wp_seq (wp_mono (vc_sound hΦ hmix x _ β σ H a w hd.1 h hR) fun e a' w' hq => ?_)
    cases e with
    | normal =>
      obtain ⟨β', σ', H', h1, h2⟩ := hq
      exact vc_sound hΦ hmix y K β' σ' H' a' w' hd.2 h2 h1
    | _ => exact hq
  | .cond c x y, K, β, σ, H, a, w, hd, h, hR => by
    simp only [dstOK, Bool.and_eq_true] at hd
    simp only [vc] at h
    split at h
    · rename_i t hc
      have hv := hR.ev c
      rw [hc] at hv
      generalize hce : a.eval c = cv at hv
      cases hv
      exact wp_cond_split hce (fun e => vc_sound hΦ hmix x K β σ H a w hd.1 (h.1 e) hR) (fun e => vc_sound hΦ hmix y K β σ H a w hd.2 (h.2 e) hR)
    · exact h.elim
  | .block id c, K, β, σ, H, a, w, hd, h, hR => by
    refine wp_block (wp_mono (vc_sound hΦ hmix c _ β σ H a w hd h hR) fun e a' w' hq => ?_)
    cases e with
    | normal =>
      obtain ⟨β', σ', H', h1, h2⟩ := hq
      exact ⟨β', σ', H', h1, by simpa using h2⟩
    | exit id' =>
      obtain ⟨β', σ', H', h1, h2⟩ := hq
      simp only [Exit.inBlock]
      by_cases e : id' = id
      · rw [if_pos e]; rw [if_pos (by rw [e])] at h2; exact ⟨β', σ', H', h1, h2⟩
      · rw [if_neg e]; rw [if_neg (by simpa using e)] at h2; exact ⟨β', σ', H', h1, h2⟩
    | ret =>
      obtain ⟨β', σ', H', h1, h2⟩ := hq
      exact ⟨β', σ', H', h1, by simpa using h2⟩
    | _ => exact hq
  | .loop c, K, β, σ, H, a, w, hd, h, hR => by
    obtain ⟨I, ⟨m0, h0⟩, hstep⟩ := h
    refine wp_loop' (fun m a w => ∃ β σ H, RS P n E β σ H a w ∧ I σ H m) ⟨m0, β, σ, H, hR, h0⟩ fun m a w ⟨β, σ, H, hR, hI⟩ => ?_
    refine wp_mono (vc_sound hΦ hmix c _ β σ H a w hd (hstep σ H m hI) hR) fun e a' w' hq => ?_
    cases e with
    | normal =>
      obtain ⟨β', σ', H', h1, k, h2, h3⟩ := hq
      exact ⟨k, h2, β', σ', H', h1, h3⟩
    | _ => exact hq
  | .rangeFunc .., _, _, _, _, _, _, _, h, _ => h.elim
  | .scope _, _, _, _, _, _, _, _, h, _ => h.elim
  | .label _, _, _, _, _, _, _, _, h, _ => h.elim
  | .goto _, _, _, _, _, _, _, _, h, _ => h.elim
  | .refuse _, _, _, _, _, _, _, _, h, _ => h.elim

theorem resAll_run {β : Map} {σ : Env} {H : Hp} {a : Act} {w : World} (hR : RS P n E β σ H a w) {F : ResultVar → Sem Value} (h1 : ∀ t, F (.tmp t) = pure (a.tmps.getD t undef)) (h2 : ∀ b t, F (.cell b t) = (do loadVar t (← asAddr (a.tmps.getD b undef)))) :
    ∀ (rs : List ResultVar) (xs : List AV), resAll P σ H rs = some xs → ∃ vs : List Value, (rs.mapM F).run P w = .ok vs w ∧ VRs β xs vs
  | [], xs, h => by simp [resAll] at h; subst h; exact ⟨[], by simp, .nil⟩
  | r :: rs, xs, h => by
    simp only [resAll] at h
    split at h
    · rename_i x ys h3 h4
      cases h
      obtain ⟨vs, r1, r2⟩ := resAll_run hR h1 h2 rs ys h4
      unfold resOne at h3
      split at h3
      · rename_i t
        cases h3
        exact ⟨_ :: vs, by simp only [List.mapM_cons, h1, Sem.run_bind, Sem.run_pure, Result.andThen_ok, r1], .cons _ _ _ _ (hR.tmp t) r2⟩
      · rename_i b t
        split at h3
        · rename_i k o hk
          have hv := hR.tmp b
          rw [hk] at hv
          generalize hce : a.tmps.getD b undef = cv at hv
          cases hv with
          | p _ _ pl hp =>
          obtain ⟨v, q1, q2⟩ := load_run hR.heap hp h3
          exact ⟨v :: vs, by simp only [List.mapM_cons, h2, Sem.run_bind, hce, asAddr, Sem.run_pure, Result.andThen_ok, q1, r1], .cons _ _ _ _ q2 r2⟩
        · cases h3
    · cases h

theorem results_run {β : Map} {σ : Env} {H : Hp} {a : Act} {w : World} (hR : RS P n E β σ H a w) {fn : Func} {x : AV} (h : resVC P fn σ H = some x) : ∃ v, (results fn a.tmps).run P w = .ok v w ∧ VR β x v := by
  unfold results
  rw [Array.mapM_eq_mapM_toList, map_eq_pure_bind]
  have key := fun xs h => resAll_run hR (F := fun | .tmp t => pure (a.tmps.getD t undef) | .cell b t => do loadVar t (← asAddr (a.tmps.getD b undef))) (fun _ => rfl) (fun _ _ => rfl) fn.results.toList xs h
  unfold resVC at h
  split at h
  · rename_i y h1
    cases h
    obtain ⟨vs, r1, r2⟩ := key _ h1
    cases r2 with
    | cons _ v _ us hv ht =>
    cases ht
    refine ⟨v, ?_, hv⟩
    simp only [Sem.run_bind, Sem.run_pure]
    erw [r1]
    rfl
  · rename_i ys hne h1
    cases h
    obtain ⟨vs, r1, r2⟩ := key _ h1
    have hl := r2.length
    have : vs.length ≠ 1 := fun e => by
      rw [e] at hl
      match ys, hl with
      | [y], _ => exact hne y rfl
    refine ⟨.tuple vs.toArray, ?_, .tu _ _ (by simpa using r2)⟩
    simp only [Sem.run_bind, Sem.run_pure]
    erw [r1]
    simp only [Result.andThen_ok]
    rw [dif_neg (by simpa using this)]
  · cases h

/-- THE END: a function's contract from what is shown of its body. -/
theorem body_to (hΦ : ∀ f la H r H', Φ f la H r H' → CallsTo P f la H r H') (hmix : P.follows .mixedOrders = true) {f : FuncId} {fn : Func} {args : List AV} {H : Hp} {r : AV} {H' : Hp} (hf : P.funcs[f]? = some fn) (hok : fnOK fn args.length = true)
    (h : bodyVC P Φ fn args H r H') : BodyTo P f args H r H' := by
  unfold bodyVC at h
  split at h
  · rename_i c hb
    simp only [fnOK, hb, Bool.and_eq_true] at hok
    obtain ⟨⟨hd, hle⟩, -⟩ := hok
    have hle := Nat.le_of_ble_eq_true hle
    intro β w vs hH hv
    have hvl := hv.length
    simp only [Array.length_toList] at hvl
    refine calls_of_wp hf hb ?_
    have hR : RS P fn.ntmps ⟨β, H, w⟩ β (env0 args) H { tmps := vs ++ Array.replicate (fn.ntmps - vs.size) undef, defers := [] } w := by
      refine ⟨by simp; omega, rfl, fun t => ?_, hH, fun _ _ => rfl, Nat.le_refl _, .refl _ _, fun b hb => .inl hb⟩
      unfold env0
      rw [List.getD_eq_getElem?_getD]
      cases hx : args[t]? with
      | none => exact .u _
      | some x =>
        obtain ⟨v, h1, h2⟩ := hv.get hx
        have h3 : vs[t]? = some v := by simpa using h1
        have hlt := (Array.getElem?_eq_some_iff.1 h3).1
        simp only [Option.getD_some]
        rw [Array.getD_eq_getD_getElem?, Array.getElem?_append_left hlt, h3]
        exact h2
    refine wp_mono (vc_sound hΦ hmix c _ β _ H _ w hd h hR) fun e a' w' hq => ?_
    have hend : ∀ ex, (∃ β' σ G, RS P fn.ntmps ⟨β, H, w⟩ β' σ G a' w' ∧ (ex = Ex.ret ∨ ex = .normal) ∧ ∃ τ, resVC P fn σ G = some (ren τ G.length r) ∧ kept H.length τ G H') →
        a'.defers = [] ∧ ∃ v, (results fn a'.tmps).run P w' = .ok v w' ∧ Post P β H w r H' (.returned v) w' := by
      rintro ex ⟨β', σ, G, hR', -, τ, h1, h2, h3, h4⟩
      obtain ⟨v, r1, r2⟩ := results_run hR' h1
      refine ⟨hR'.defers, v, r1, sub β' τ, v, rfl, fun k hk => ?_, hR'.heap.sub h4, VR.unren (sub_un hR'.heap τ) _ _ r2, hR'.fr, fun b hb => hR'.wrt b (wr_sub h4 hb), fun k bl hk hbl => ?_, ?_⟩
      · have : τ[k]? = some k := by
          have e : (τ.take H.length)[k]? = (List.range H.length)[k]? := by rw [h2]
          rw [List.getElem?_take, if_pos hk] at e
          rw [e]; simp [hk]
        unfold sub; rw [this]
        exact hR'.keep k hk
      · have hm : bl ∈ H'.drop H.length := by
          refine List.mem_of_getElem? (i := k - H.length) ?_
          rw [List.getElem?_drop, show H.length + (k - H.length) = k from by omega]; exact hbl
        have := List.all_eq_true.1 h3 bl hm
        cases hro : bl.ro with
        | false => exact .inl rfl
        | true => right; simpa [hro] using this
      · have e1 := (fits_spec _ _ h4).1
        have e2 := congrArg List.length h2
        simp at e2
        show H.length ≤ H'.length
        omega
    cases e with
    | normal =>
      obtain ⟨β', σ, G, h1, h2⟩ := hq
      exact hend _ ⟨β', σ, G, h1, h2⟩
    | ret =>
      obtain ⟨β', σ, G, h1, h2⟩ := hq
      exact hend _ ⟨β', σ, G, h1, h2⟩
    | exit id =>
      obtain ⟨β', σ, G, h1, h2, -⟩ := hq
      rcases h2 with h2 | h2 <;> cases h2
    | _ => exact hq.elim
  · exact h.elim

theorem calls_to (hmix : P.follows .mixedOrders = true) {f : FuncId} {fn : Func} {args : List AV} {H : Hp} {r : AV} {H' : Hp} (hf : P.funcs[f]? = some fn) (hok : fnOK fn args.length = true)
    (h : bodyVC P (CallsTo P) fn args H r H') : CallsTo P f args H r H' := by
  have hb := body_to (fun _ _ _ _ _ h => h) hmix hf hok h
  unfold fnOK at hok
  simp only [Bool.and_eq_true] at hok
  cases hc : fn.body with
  | none => rw [hc] at hok; cases hok.1.1
  | some c => exact hb.calls hf (by simpa using hok.2) hc

end Go.Vc

/- More steps: guards and conditions that are not known by computing, whole numbers, loops' places, drawing regions. -/
namespace Go.Vc
open Go

section
variable {P : Program} {Φ : Contract} {ops : Array Oper} {rest : List Oper} {σ : Env} {H : Hp} {K : Env → Hp → Prop} {d : Option Nat} {tp : TypeId} {pos : String} {af : Array Edge}

theorem s_want2 {op : Op} {j e : Nat} {want x : Bool} (hj : (ops[j]?).bind (·.dst) = some e) (hv : σ e = .b x) (hx : x = want)
    (h : opsVC P Φ ops (⟨d, op, tp, pos, af, none⟩ :: rest) σ H K) : opsVC P Φ ops (⟨d, op, tp, pos, af, some (j, want)⟩ :: rest) σ H K := s_want hj (by rw [hv, hx]) h
theorem s_skip2 {op : Op} {j e : Nat} {want x : Bool} (hj : (ops[j]?).bind (·.dst) = some e) (hv : σ e = .b x) (hx : x = !want)
    (h : opsVC P Φ ops rest (upd σ d .u) H K) : opsVC P Φ ops (⟨d, op, tp, pos, af, some (j, want)⟩ :: rest) σ H K := s_skip hj (by rw [hv, hx]) h
theorem s_pickT {c x y : Operand} {t : Bool} {v : AV} (hc : ev σ c = .b t) (ht : t = true) (hv : ev σ x = v) (h : opsVC P Φ ops rest (upd σ d v) H K) :
    opsVC P Φ ops (⟨d, .pick c x y, tp, pos, af, none⟩ :: rest) σ H K := by
  subst ht; exact s_pick hc hv h
theorem s_pickF {c x y : Operand} {t : Bool} {v : AV} (hc : ev σ c = .b t) (ht : t = false) (hv : ev σ y = v) (h : opsVC P Φ ops rest (upd σ d v) H K) :
    opsVC P Φ ops (⟨d, .pick c x y, tp, pos, af, none⟩ :: rest) σ H K := by
  subst ht; exact s_pick hc (by simpa using hv) h
/-- A call that names no block of the caller's. -/
theorem s_call0 {g : Operand} {as : Array Operand} {ts : Array TypeId} {f : FuncId} {cap args : List AV} {r : AV} (hg : ev σ g = .fn f cap)
    (ha : as.toList.map (ev σ) ++ cap = args) (hc : Φ f args [] r []) (hr : renL [] H.length args = args) (hv : ren [] H.length r = r)
    (h : opsVC P Φ ops rest (upd σ d r) H K) :
    opsVC P Φ ops (⟨d, .call { callee := .value g, args := as, argTypes := ts }, tp, pos, af, none⟩ :: rest) σ H K :=
  s_call [] hg ha hc hr trivial hv (by simp [graft, graftR]) h
/-- Places that are pinned. -/
def pin (σ : Env) : List (Nat × AV) → Env
  | [] => σ
  | (t, v) :: l => upd (pin σ l) (some t) v
def pinned (σ : Env) : List (Nat × AV) → Prop
  | [] => True
  | (t, v) :: l => σ t = v ∧ pinned σ l
theorem pin_self {σ : Env} : ∀ l : List (Nat × AV), pinned σ l → σ = pin σ l
  | [], _ => rfl
  | (t, v) :: l, h => by
    have ih := pin_self l h.2
    funext s
    unfold pin upd
    by_cases e : s = t
    · subst e; rw [if_pos rfl]; exact h.1
    · rw [if_neg (by simpa using e), ← ih]

/-! ### whole numbers -/
theorem wrap64 {a : Int} (h : -9223372036854775808 ≤ a ∧ a ≤ 9223372036854775807) : IntKind.i64.wrap a = a := by rw [IntKind.wrap_i64]; omega
theorem i_add {sh : Option Shape} {a b : Int} (h : -9223372036854775808 ≤ a + b ∧ a + b ≤ 9223372036854775807) : bin .add sh (.i .i64 a) (.i .i64 b) = some (.i .i64 (a + b)) := by
  simp [bin, intBin, wrap64 h]
theorem i_sub {sh : Option Shape} {a b : Int} (h : -9223372036854775808 ≤ a - b ∧ a - b ≤ 9223372036854775807) : bin .sub sh (.i .i64 a) (.i .i64 b) = some (.i .i64 (a - b)) := by
  simp [bin, intBin, wrap64 h]
theorem i_mul {sh : Option Shape} {a b : Int} (h : -9223372036854775808 ≤ a * b ∧ a * b ≤ 9223372036854775807) : bin .mul sh (.i .i64 a) (.i .i64 b) = some (.i .i64 (a * b)) := by
  simp [bin, intBin, wrap64 h]
theorem i_rem {sh : Option Shape} {k : IntKind} {a b : Int} (h : b ≠ 0) : bin .rem sh (.i k a) (.i k b) = some (.i k (a.tmod b)) := by
  simp [bin, intBin, h]
theorem i_quo {sh : Option Shape} {a b : Int} (h : b ≠ 0) (h' : -9223372036854775808 ≤ a.tdiv b ∧ a.tdiv b ≤ 9223372036854775807) : bin .quo sh (.i .i64 a) (.i .i64 b) = some (.i .i64 (a.tdiv b)) := by
  simp [bin, intBin, h, wrap64 h']
end

/-! ### regions that draw -/
section
variable {P : Program} {Φ : Contract} {ops : Array Oper} {pm lk : List Nat} {i : Nat} {o : Oper} {rest : List Oper} {hs : List (Nat × Hp)} {ps : List (Nat × Oper × Env × AV)} {σ σ' : Env} {H H' : Hp} {K : Env → Hp → Prop}

theorem d_nil (h : K σ H) : opsD P Φ ops pm lk i [] hs ps σ H K := h

theorem gV_of {κ : AV → Hp → Prop} {K1 : Env → Hp → Prop} (hv : opsVC P Φ ops [o] σ H K1) (h : ∀ v G, K1 (upd σ o.dst v) G → κ v G) : gV P Φ ops o σ H κ :=
  gV_mono (κ := fun v G => K1 (upd σ o.dst v) G) hv h

theorem upd_at {d : Nat} {v : AV} : upd σ (some d) v d = v := by simp [upd]

/-- No block is touched. -/
theorem d_n (hN : opN o.op = true) (hv : opsVC P Φ ops [o] σ H fun s G => s = σ' ∧ G = H) (h : opsD P Φ ops pm lk (i + 1) rest hs ps σ' H K) : opsD P Φ ops pm lk i (o :: rest) hs ps σ H K :=
  gV_of hv fun v G hk => by obtain ⟨rfl, rfl⟩ := hk; rw [if_pos hN]; exact h

/-- Blocks are looked at. -/
theorem d_l {d : Nat} {v : AV} (hd : o.dst = some d) (hN : opN o.op = false) (hL : isL lk i o = true) (hv : opsVC P Φ ops [o] σ H fun s G => s d = v ∧ G = H)
    (hob : ∀ h ∈ hs, behind pm i h.1 = false → again P Φ ops o σ v h.2) (h : opsD P Φ ops pm lk (i + 1) rest hs ((i, o, σ, v) :: ps) (upd σ (some d) v) H K) : opsD P Φ ops pm lk i (o :: rest) hs ps σ H K :=
  gV_of hv fun v' G hk => by
    rw [hd, upd_at] at hk
    obtain ⟨rfl, rfl⟩ := hk
    rw [if_neg (by rw [hN]; simp), if_pos hL, hd]
    exact ⟨rfl, hob, h⟩

/-- Blocks may change. -/
theorem d_m (hN : opN o.op = false) (hL : isL lk i o = false) (hv : opsVC P Φ ops [o] σ H fun s G => s = σ' ∧ G = H')
    (hob : ∀ p ∈ ps, behind pm i p.1 = false → again P Φ ops p.2.1 p.2.2.1 p.2.2.2 H') (h : opsD P Φ ops pm lk (i + 1) rest ((i, H) :: hs) ps σ' H' K) : opsD P Φ ops pm lk i (o :: rest) hs ps σ H K :=
  gV_of hv fun v' G hk => by
    obtain ⟨rfl, rfl⟩ := hk
    rw [if_neg (by rw [hN]; simp), if_neg (by rw [hL]; simp)]
    exact ⟨hob, h⟩

theorem again_of {d : Nat} {v : AV} (hd : o.dst = some d) (hv : opsVC P Φ ops [o] σ H fun s G => s d = v ∧ G = H) : again P Φ ops o σ v H :=
  gV_of hv fun v' G hk => by rw [hd, upd_at] at hk; exact hk

theorem ob_nil {α : Type} {A : α → Prop} : ∀ p ∈ ([] : List α), A p := fun _ h => by cases h
theorem ob_cons {α : Type} {A : α → Prop} {p : α} {l : List α} (h : A p) (t : ∀ p ∈ l, A p) : ∀ q ∈ p :: l, A q := fun q hq => by
  rcases List.mem_cons.1 hq with rfl | hq
  · exact h
  · exact t q hq
end
end Go.Vc

/- Functions of the model's own: square roots, bits, whole parts. -/
namespace Go.Vc
open Go

variable {P : Program}

theorem post_pure {β : Map} {w w' : World} {r : AV} {v : Value} (hH : HR P β [] w) (hs : Same w w') (hv : VR β r v) : Post P β [] w r [] (.returned v) w' :=
  ⟨β, v, rfl, fun _ _ => rfl, hH.same hs, hv, .same hs, fun b ⟨k, bl, pl, hk, _⟩ => by simp at hk, fun k bl _ hk => by simp at hk, Nat.le_refl _⟩

theorem ext_to {f : FuncId} {fn : Func} {e : Array Value → Sem Value} {args : List AV} {r : AV} (hf : P.funcs[f]? = some fn) (hname : (fn.name == "runtime.NumGoroutine") = false) (hb : fn.body.isNone = true) (hn : Extern.findNext fn = none) (he : Extern.find fn = some e)
    (h : ∀ (β : Map) (w : World) (vs : Array Value), VRs β args vs.toList → Val P β r (e vs) w) : CallsTo P f args [] r [] := by
  intro β w vs hH hv
  obtain ⟨v, w', h1, h2, h3⟩ := h β w vs hv
  unfold Invokes
  rw [run_callFunc_extern hf hname hb hn he, h1]
  exact post_pure hH h2 h3

theorem vrs1 {β : Map} {x : AV} {vs : Array Value} (h : VRs β [x] vs.toList) : ∃ v, vs = #[v] ∧ VR β x v := by
  obtain ⟨l⟩ := vs
  cases h with | cons _ v _ us hv ht => cases ht; exact ⟨v, rfl, hv⟩

def fsqrt (x : Nat) : Nat := (FloatKind.f64.format.sqrt x).getD (qnan .f64)

theorem root_eqv {n : Nat} {d d' : Ieee.Datum} (h : Eqv d d') : d.root n = d'.root n := by
  rcases h with rfl | ⟨h1, h2⟩
  · rfl
  · cases d <;> simp [Ieee.Datum.isNaN] at h1
    cases d' <;> simp [Ieee.Datum.isNaN] at h2
    rfl
theorem root_notNaN {n : Nat} {d r : Ieee.Datum} (h : d.root n = some r) : r.isNaN = false := by
  unfold Ieee.Datum.root at h
  split at h
  · cases h
  · split at h
    · cases h
    · cases h; rfl
  · split at h
    · cases h; rfl
    · split at h
      · cases h
      · cases h; rfl

theorem sqrt_to {f : FuncId} {fn : Func} (hf : P.funcs[f]? = some fn) (hname : (fn.name == "runtime.NumGoroutine") = false) (hb : fn.body.isNone = true) (hn : Extern.findNext fn = none) (he : Extern.find fn = some Extern.MathSqrt.sqrt) (x : Nat) :
    CallsTo P f [.f .f64 x] [] (.f .f64 (fsqrt x)) [] := by
  refine ext_to hf hname hb hn he fun β w vs hv => ?_
  obtain ⟨v, rfl, h⟩ := vrs1 hv
  cases h with | f _ _ y hy =>
  have e : FloatKind.f64.format.sqrt y = FloatKind.f64.format.sqrt x := by
    show (((FloatKind.f64.decode y).root _).map _) = (((FloatKind.f64.decode x).root _).map _)
    rw [root_eqv (eqv_of hy)]
  unfold fsqrt
  have hq : Extern.MathSqrt.sqrt #[.float .f64 y] = (match FloatKind.f64.format.sqrt y with
    | some r => pure (.float .f64 r)
    | none => do pure (.float .f64 (← choose (.nanBits .f64 y y)))) := rfl
  rw [e] at hq
  rw [hq]
  cases hs : FloatKind.f64.format.sqrt x with
  | some r =>
    refine .of_run (v := .float .f64 r) rfl (.f _ _ _ ?_)
    have hr : ((FloatKind.f64.decode x).root (FloatKind.f64.format.fractionBits + 2)).map FloatKind.f64.format.write = some r := hs
    rw [Option.map_eq_some_iff] at hr
    obtain ⟨dd, h1, h2⟩ := hr
    subst h2
    exact canon_of_not (encode_notNaN .f64 (root_notNaN h1))
  | none =>
    refine ⟨.float .f64 ((Question.nanBits .f64 y y).cut (w.tape w.drawn (.nanBits .f64 y y))), w.drew, by simp [Question.forced], Same.drew w, .f _ _ _ (canon_of_nan (cut_nanBits _ _ _ _))⟩

theorem bits64_to {f : FuncId} {fn : Func} (hf : P.funcs[f]? = some fn) (hname : (fn.name == "runtime.NumGoroutine") = false) (hb : fn.body.isNone = true) (hn : Extern.findNext fn = none) (he : Extern.find fn = some Extern.MathFloatBits.float64bits) (x : Nat) (hx : (FloatKind.f64.decode x).isNaN = false) :
    CallsTo P f [.f .f64 x] [] (.i .u64 x) [] := by
  refine ext_to hf hname hb hn he fun β w vs hv => ?_
  obtain ⟨v, rfl, h⟩ := vrs1 hv
  cases h with | f _ _ y hy =>
  have hn' := nan_iff hy
  rw [hx] at hn'
  rw [canon_of_not hn'.symm] at hy
  subst hy
  exact .of_run (v := .int .u64 y) rfl (.i _ _)

theorem bits32_to {f : FuncId} {fn : Func} (hf : P.funcs[f]? = some fn) (hname : (fn.name == "runtime.NumGoroutine") = false) (hb : fn.body.isNone = true) (hn : Extern.findNext fn = none) (he : Extern.find fn = some Extern.MathFloatBits.float32bits) (x : Nat) (hx : (FloatKind.f32.decode x).isNaN = false) :
    CallsTo P f [.f .f32 x] [] (.i .u32 x) [] := by
  refine ext_to hf hname hb hn he fun β w vs hv => ?_
  obtain ⟨v, rfl, h⟩ := vrs1 hv
  cases h with | f _ _ y hy =>
  have hn' := nan_iff hy
  rw [hx] at hn'
  rw [canon_of_not hn'.symm] at hy
  subst hy
  exact .of_run (v := .int .u32 y) rfl (.i _ _)

theorem frombits64_to {f : FuncId} {fn : Func} (hf : P.funcs[f]? = some fn) (hname : (fn.name == "runtime.NumGoroutine") = false) (hb : fn.body.isNone = true) (hn : Extern.findNext fn = none) (he : Extern.find fn = some Extern.MathFloatBits.float64frombits) (n : Int) :
    CallsTo P f [.i .u64 n] [] (.f .f64 (canon .f64 n.toNat)) [] := by
  refine ext_to hf hname hb hn he fun β w vs hv => ?_
  obtain ⟨v, rfl, h⟩ := vrs1 hv
  cases h
  exact .of_run (v := .float .f64 n.toNat) rfl (.f _ _ _ rfl)

theorem frombits32_to {f : FuncId} {fn : Func} (hf : P.funcs[f]? = some fn) (hname : (fn.name == "runtime.NumGoroutine") = false) (hb : fn.body.isNone = true) (hn : Extern.findNext fn = none) (he : Extern.find fn = some Extern.MathFloatBits.float32frombits) (n : Int) :
    CallsTo P f [.i .u32 n] [] (.f .f32 (canon .f32 n.toNat)) [] := by
  refine ext_to hf hname hb hn he fun β w vs hv => ?_
  obtain ⟨v, rfl, h⟩ := vrs1 hv
  cases h
  exact .of_run (v := .float .f32 n.toNat) rfl (.f _ _ _ rfl)

def fwhole (way : Ieee.Toward) (x : Nat) : Nat := FloatKind.f64.encode ((FloatKind.f64.decode x).integral way)

theorem whole_to {f : FuncId} {fn : Func} {name : String} {way : Ieee.Toward} (hf : P.funcs[f]? = some fn) (hname : (fn.name == "runtime.NumGoroutine") = false) (hb : fn.body.isNone = true) (hn : Extern.findNext fn = none) (he : Extern.find fn = some (Extern.MathFloor.toIntegral name way)) (x : Nat) (hx : (FloatKind.f64.decode x).isNaN = false) :
    CallsTo P f [.f .f64 x] [] (.f .f64 (fwhole way x)) [] := by
  refine ext_to hf hname hb hn he fun β w vs hv => ?_
  obtain ⟨v, rfl, h⟩ := vrs1 hv
  cases h with | f _ _ y hy =>
  have hn' := nan_iff hy
  rw [hx] at hn'
  rw [canon_of_not hn'.symm] at hy
  subst hy
  have hi : ((FloatKind.f64.decode y).integral way).isNaN = false := by
    cases hd : FloatKind.f64.decode y with
    | nan s t => rw [hd] at hx; cases hx
    | _ => rfl
  refine .of_run (v := .float .f64 (fwhole way y)) ?_ (.f _ _ _ (canon_of_not (encode_notNaN .f64 hi)))
  have hq : Extern.MathFloor.toIntegral name way #[.float .f64 y] = (match FloatKind.f64.decode y with
    | .nan s t =>
      if FloatKind.f64.format.quiet t = t then pure (.float .f64 y) else do
      let kept ← choose (.extern "math.Floor,Ceil,Trunc,RoundToEven.signallingNaN kept" 2)
      pure (.float .f64 (if kept == 1 then y else FloatKind.f64.encode (.nan s (FloatKind.f64.format.quiet t))))
    | d => pure (.float .f64 (FloatKind.f64.encode (d.integral way)))) := rfl
  rw [hq]
  unfold fwhole
  cases hd : FloatKind.f64.decode y with
  | nan s t => rw [hd] at hx; cases hx
  | infinity s => rfl
  | number s m i => rfl

end Go.Vc

/- Ends of bodies: blocks that name no other. -/
namespace Go.Vc
open Go

mutual
/-- No block is named. -/
def AV.flat : AV → Bool
  | .p .. | .sl .. => false
  | .ag xs | .tu xs | .fn _ xs => AV.flats xs
  | _ => true
def AV.flats : List AV → Bool
  | [] => true
  | x :: xs => x.flat && AV.flats xs
end

mutual
theorem ren_flat (ρ : List Nat) (base : Nat) : ∀ x : AV, x.flat = true → ren ρ base x = x
  | .u, _ | .b _, _ | .i _ _, _ | .f _ _, _ | .c _ _ _, _ | .s _, _ | .np, _ | .ns, _ => by simp only [ren]
  | .p _ _, h | .sl _ _ _ _, h => by simp [AV.flat] at h
  | .ag xs, h => by simp only [ren]; rw [renL_flat ρ base xs (by simpa [AV.flat] using h)]
  | .tu xs, h => by simp only [ren]; rw [renL_flat ρ base xs (by simpa [AV.flat] using h)]
  | .fn f xs, h => by simp only [ren]; rw [renL_flat ρ base xs (by simpa [AV.flat] using h)]
theorem renL_flat (ρ : List Nat) (base : Nat) : ∀ xs : List AV, AV.flats xs = true → renL ρ base xs = xs
  | [], _ => by simp only [renL]
  | x :: xs, h => by
    simp only [AV.flats, Bool.and_eq_true] at h
    simp only [renL]; rw [ren_flat ρ base x h.1, renL_flat ρ base xs h.2]
end

theorem flats_map {α : Type} (f : α → AV) (hf : ∀ a, (f a).flat = true) : ∀ l : List α, AV.flats (l.map f) = true
  | [] => rfl
  | a :: l => by simp [AV.flats, hf a, flats_map f hf l]
theorem flats_append : ∀ (xs ys : List AV), AV.flats (xs ++ ys) = (AV.flats xs && AV.flats ys)
  | [], ys => by simp [AV.flats]
  | x :: xs, ys => by simp [AV.flats, flats_append xs ys, Bool.and_assoc]

theorem fits_of {ρ : List Nat} {base : Nat} {G : Hp} : ∀ (ks : List Nat) (bs : Hp), ks.length = bs.length → (∀ (j k : Nat) (bl : Blk), ks[j]? = some k → bs[j]? = some bl → ∃ bk : Blk, G[k]? = some bk ∧ bk.cells = renL ρ base bl.cells ∧ bk.ty = bl.ty ∧ (bl.ro = false → bk.ro = false ∧ ρ.count k = 1)) → fitsR ρ base G ks bs
  | [], [], _, _ => trivial
  | k :: ks, b :: bs, hl, h => ⟨h 0 k b rfl rfl, fits_of ks bs (by simpa using hl) fun j k' bl h1 h2 => h (j + 1) k' bl (by simpa using h1) (by simpa using h2)⟩
  | [], _ :: _, hl, _ => by simp at hl
  | _ :: _, [], hl, _ => by simp at hl

/-- The caller's blocks as they were; what was made besides is forgotten. -/
theorem kept_same {H G : Hp} (hf : ∀ b ∈ H, AV.flats b.cells = true) (hG : G.take H.length = H) : kept H.length (List.range H.length) G H := by
  refine ⟨by simp, by simp, fits_of _ _ (by simp) fun j k bl hj hb => ?_⟩
  have hjl := (List.getElem?_eq_some_iff.1 hb).1
  rw [List.getElem?_range hjl] at hj; cases hj
  refine ⟨bl, ?_, (renL_flat _ _ _ (hf bl (List.mem_of_getElem? hb))).symm, rfl, fun h => ⟨h, ?_⟩⟩
  · rw [← hb]; conv => rhs; rw [← hG]
    rw [List.getElem?_take, if_pos hjl]
  · rw [List.Nodup.count List.nodup_range, if_pos (by simp [hjl])]

/-- One new block is returned. -/
theorem kept_one {H G : Hp} {k : Nat} {b : Blk} (hf : ∀ b ∈ H, AV.flats b.cells = true) (hb : AV.flats b.cells = true) (hro : b.ro = false) (hk : H.length ≤ k) (hG : G.take H.length = H) (hGk : G[k]? = some b) :
    kept H.length (List.range H.length ++ [k]) G (H ++ [b]) := by
  refine ⟨by simp, by simp [hro], fits_of _ _ (by simp) fun j k' bl hj hbl => ?_⟩
  rcases Nat.lt_or_ge j H.length with hlt | hge
  · rw [List.getElem?_append_left (by simpa using hlt), List.getElem?_range hlt] at hj; cases hj
    rw [List.getElem?_append_left hlt] at hbl
    refine ⟨bl, ?_, (renL_flat _ _ _ (hf bl (List.mem_of_getElem? hbl))).symm, rfl, fun h => ⟨h, ?_⟩⟩
    · rw [← hbl]; conv => rhs; rw [← hG]
      rw [List.getElem?_take, if_pos hlt]
    · rw [List.count_append, List.Nodup.count List.nodup_range, if_pos (by simp [hlt])]
      rw [List.count_eq_zero_of_not_mem (by simp; omega)]
  · have hj0 : j = H.length := by have := (List.getElem?_eq_some_iff.1 hj).1; simp at this; omega
    subst hj0
    simp at hj hbl
    subst hj; subst hbl
    refine ⟨b, hGk, (renL_flat _ _ _ hb).symm, rfl, fun h => ⟨h, ?_⟩⟩
    rw [List.count_append, List.Nodup.count List.nodup_range, if_neg (by simp; omega)]
    simp
end Go.Vc

/- Calls over blocks that are only read. -/
namespace Go.Vc
open Go

/-- The blocks that a callee reads, one after another. -/
def reads (H : Hp) : List Nat → Hp → Prop
  | [], [] => True
  | k :: ks, b :: bs => (∃ bk : Blk, H[k]? = some bk ∧ bk.cells = b.cells ∧ bk.ty = b.ty) ∧ b.ro = true ∧ AV.flats b.cells = true ∧ reads H ks bs
  | _, _ => False

theorem reads_fits {ρ : List Nat} {base : Nat} {H : Hp} : ∀ (ks : List Nat) (bs : Hp), reads H ks bs → fitsR ρ base H ks bs
  | [], [], _ => trivial
  | k :: ks, b :: bs, h => by
    obtain ⟨⟨bk, h1, h2, h3⟩, h4, h5, h6⟩ := h
    exact ⟨⟨bk, h1, by rw [h2, renL_flat _ _ _ h5], h3, fun e => by rw [h4] at e; cases e⟩, reads_fits ks bs h6⟩
  | [], _ :: _, h => h.elim
  | _ :: _, [], h => h.elim

theorem reads_graft {ρ : List Nat} {base : Nat} {H H0 : Hp} : ∀ (ks : List Nat) (bs N : Hp), reads H0 ks bs → graftR ρ base ks bs (bs ++ N) H = H ++ N.map (renB ρ base)
  | [], [], N, _ => by simp [graftR]
  | k :: ks, b :: bs, N, h => by
    simp only [List.cons_append, graftR]
    rw [if_pos h.2.1, reads_graft ks bs N h.2.2.2]
  | [], _ :: _, _, h => h.elim
  | _ :: _, [], _, h => h.elim

section
variable {P : Program} {Φ : Contract} {ops : Array Oper} {rest : List Oper} {σ : Env} {H : Hp} {K : Env → Hp → Prop} {d : Option Nat} {tp : TypeId} {pos : String} {af : Array Edge}

/-- Blocks are read; nothing is made. -/
theorem s_callQ (ρ : List Nat) {g : Operand} {as : Array Operand} {ts : Array TypeId} {f : FuncId} {cap args la : List AV} {Hl : Hp} {r : AV} (hg : ev σ g = .fn f cap)
    (ha : as.toList.map (ev σ) ++ cap = args) (hc : Φ f la Hl r Hl) (hr : renL ρ H.length la = args) (hrd : reads H ρ Hl) (hv : r.flat = true)
    (h : opsVC P Φ ops rest (upd σ d r) H K) :
    opsVC P Φ ops (⟨d, .call { callee := .value g, args := as, argTypes := ts }, tp, pos, af, none⟩ :: rest) σ H K :=
  s_call ρ hg ha hc hr (reads_fits _ _ hrd) (ren_flat _ _ _ hv) (by have := reads_graft (ρ := ρ) (base := H.length) (H := H) ρ Hl [] hrd; simpa [graft] using this) h

/-- Blocks are read; one block is made, that names no other. -/
theorem s_callN (ρ : List Nat) {g : Operand} {as : Array Operand} {ts : Array TypeId} {f : FuncId} {cap args la : List AV} {Hl : Hp} {b : Blk} {r r' : AV} (hg : ev σ g = .fn f cap)
    (ha : as.toList.map (ev σ) ++ cap = args) (hc : Φ f la Hl r (Hl ++ [b])) (hr : renL ρ H.length la = args) (hrd : reads H ρ Hl) (hb : AV.flats b.cells = true) (hv : ren ρ H.length r = r')
    (h : opsVC P Φ ops rest (upd σ d r') (H ++ [b]) K) :
    opsVC P Φ ops (⟨d, .call { callee := .value g, args := as, argTypes := ts }, tp, pos, af, none⟩ :: rest) σ H K :=
  s_call ρ hg ha hc hr (reads_fits _ _ hrd) hv (by
    have := reads_graft (ρ := ρ) (base := H.length) (H := H) ρ Hl [b] hrd
    simpa [graft, renB, renL_flat _ _ _ hb] using this) h
end
end Go.Vc
