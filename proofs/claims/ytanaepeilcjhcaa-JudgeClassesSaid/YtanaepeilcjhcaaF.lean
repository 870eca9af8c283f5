/- A part of the proof: the ideal machine, and what the functions of the program answer over it. -/
import Derived.Test.YtanaepeilcjhcaaE
set_option linter.unusedSimpArgs false
set_option linter.unusedVariables false
set_option linter.unusedSectionVars false
set_option maxRecDepth 10000
set_option maxHeartbeats 4000000
namespace Go.Ideal.J
open Go Go.Ideal
theorem encI : Enc intL 1 := ⟨by decide, by decide, fun _ => rfl, fun _ => rfl, fun _ => rfl⟩
theorem encE : Enc edL 3 := ⟨by decide, by decide, fun _ => rfl, fun _ => rfl, fun _ => rfl⟩
def zeroI : List Value := [.int .i64 0]
def zeroE : List Value := [.int .i64 0, .int .i64 0, .int .i64 0]
theorem zht (a b : Ed) (h : H) : vBin .eql (.leaves [0, 1, 2]) (edV a) (edV b) h = some (.bool (decide (a = b)), h) := by
  obtain ⟨a1, a2, a3⟩ := a
  obtain ⟨b1, b2, b3⟩ := b
  have e : eqV (.leaves [0, 1, 2]) (edV (a1, a2, a3)) (edV (b1, b2, b3)) = some (eqI a1 b1 && (eqI a2 b2 && (eqI a3 b3 && true))) := rfl
  show ((eqV (.leaves [0, 1, 2]) (edV (a1, a2, a3)) (edV (b1, b2, b3))).map fun b => Value.bool b).map _ = _
  rw [e]
  simp only [Option.map_some, zcv]
  congr 3
  rw [Bool.eq_iff_iff]; simp
section
theorem cpI4 {l : List Int} {n K0 b : Nat} (hn : l.length = n) (hn1 : n ≤ 1000000) (h0 : 0 < K0) (hK : K0 < n) {hh : H} {P : Value → H → Prop} {s2 : Value} (es2 : s2 = .slice (some ⟨b, K0 * 1, none⟩) (n - K0) zm)
    (hP : ∀ h' cs', FrD (fun j => j = b) hh h' → h'.get b = some (.cells (((ddN l n).map intL).flatten ++ cs') 1) → P (.slice (some ⟨b, 0, none⟩) (ddN l n).length zm) h') :
    ∀ (r j k : Nat) (h : H) (m : List Int), K0 + (j + 1) + r = n → CInv l K0 (j + 1) k m → b < h.next → h.get b = some (.cells (m.map intL).flatten 1) → FrD (fun j => j = b) hh h →
    OkV (sh (rI F) c_i_4 (K_i_4 (rI F)) (setL [p0, p3, p4, p5] [.slice (some ⟨b, 0, none⟩) n zm, .int .i64 (k : Int), s2, .int .i64 ((j : Int) + 1)]) h) P := by
  have hlen : ∀ h', bltV h' .len [s2] = some (.int .i64 ((n - K0 : Nat) : Int), h') := fun h' => by rw [es2]; rfl
  intro r
  induction r with
  | zero =>
    intro j k h m hi hc hb hg hf
    obtain ⟨h2, cs', e1, e2, e3, eh2, hk⟩ := hc.fin encI (z := zeroI) rfl (by decide) hn (by omega) hg
    have := hP h2 cs' (by rw [eh2]; exact hf.put (.inr rfl) _) (by rw [eh2]; exact zu rfl)
    rw [hk] at this
    have hj : ¬ ((j : Int) + 1 < ((n - K0 : Nat) : Int)) := by omega
    refine OkV.eq (OkV.val this) ?_
    unfold zeroI at e2
    rw [s_i_4]
    simp only [zE, hlen, zbn, hj, decide_false, zA]
    rw [s_i_3]
    simp only [zE, e1, e2, e3, zbv]
  | succ r ih =>
    intro j k h m hi hc hb hg hf
    have hj : (j : Int) + 1 < ((n - K0 : Nat) : Int) := by omega
    have hklt := hc.lt
    obtain ⟨x, hx⟩ : ∃ x, l[K0 + (j + 1)]? = some x := ⟨_, List.getElem?_eq_getElem (by omega)⟩
    obtain ⟨y, hy⟩ : ∃ y, l[K0 + j]? = some y := ⟨_, List.getElem?_eq_getElem (by omega)⟩
    have mx := (hc.rest (K0 + (j + 1)) (by omega)).trans hx
    have my := (hc.rest (K0 + j) (by omega)).trans hy
    have rx := zct encI mx
    have ry := zct encI my
    have ix : ∀ h', zl 1 s2 (.int .i64 ((j : Int) + 1)) h' = some (.pointer (some ⟨b, (K0 + (j + 1)) * 1, none⟩), h') := fun h' => by
      rw [es2]
      refine (zby (i := j + 1) (by omega)).trans ?_
      rw [← Nat.add_mul]
    have iy : ∀ h', zl 1 s2 (.int .i64 ((j : Int))) h' = some (.pointer (some ⟨b, (K0 + j) * 1, none⟩), h') := fun h' => by
      rw [es2]
      refine (zby (i := j) (by omega)).trans ?_
      rw [← Nat.add_mul]
    have sub1 : ∀ h', vBin .sub .other (.int .i64 ((j : Int) + 1)) (.int .i64 1) h' = some (.int .i64 (j : Int), h') := fun h' => by
      rw [zdm (by omega) (by omega)]; congr 3; omega
    have add1 : ∀ h', vBin .add .other (.int .i64 ((j : Int) + 1)) (.int .i64 1) h' = some (.int .i64 (((j + 1 : Nat) : Int) + 1), h') := fun h' => by
      rw [zx (by omega) (by omega)]; congr 3
    have add2 : ∀ h', vBin .add .other (.int .i64 (k : Int)) (.int .i64 1) h' = some (.int .i64 ((k + 1 : Nat) : Int), h') := fun h' => by
      rw [zx (by omega) (by omega)]; rfl
    have ld : ∀ (o : Nat) (z : Int), zO 1 (zbh o (m.map intL).flatten) = some (intL z) → zc (.pointer (some ⟨b, o, none⟩)) h = some (Value.int .i64 z, h) := fun o z hz => by
      simp [hg, hz, intL]
    have rd : ∀ (o : Nat) (z : Int), zO 1 (zbh o (m.map intL).flatten) = some (intL z) → rdF (fun b_1 => zc (.pointer (some ⟨b, o, none⟩)) b_1) 0 h [(0, h)] = some (Value.int .i64 z, h) := fun o z hz => by
      show (zc (.pointer (some ⟨b, o, none⟩)) h).bind _ = _
      rw [ld o z hz]; rfl
    by_cases e : x = y
    · have := ih (j + 1) k h m (by omega) (hc.skip (by omega) (by rw [hx, show K0 + (j + 1) - 1 = K0 + j by omega, hy, e])) hb hg hf
      refine OkV.eq (this.lp (l_i_4 F _ _ _ _ _)) ?_
      have ne : vBin .neq .other (Value.int .i64 x) (Value.int .i64 y) h = some (.bool false, h) := by rw [vBin_neq]; simp [e]
      rw [s_i_4]
      simp only [zE, hlen, zbn, hj, decide_true, zK, ix, sub1, iy, rd _ _ rx, rd _ _ ry, ne, zA]
      rw [s_i_5]
      simp only [zE, add1]
    · have hw := zjN encI (m := m) (i := k) (by rw [hc.len]; omega) x
      have ik : ∀ h', zl 1 (.slice (some ⟨b, 0, none⟩) n zm) (.int .i64 (k : Int)) h' = some (.pointer (some ⟨b, k * 1, none⟩), h') := fun h' => by
        rw [zby (by omega), Nat.zero_add]
      obtain ⟨h2, eh2⟩ : ∃ h2, h2 = h.put b (.cells ((m.set k x).map intL).flatten 1) := ⟨_, rfl⟩
      have st : zq 1 (.pointer (some ⟨b, k * 1, none⟩)) (Value.int .i64 x) h = some (zL, h2) := by
        have hw2 : h.write b (k * 1) (intL x) = some h2 := by rw [zhD hg, if_pos (by rw [encI.cell]; rfl), hw, eh2]; rfl
        show (if Nat.beq (intL x).length 1 = true then (h.write b (k * 1) (intL x)).map (fun h => (zL, h)) else none) = _
        rw [if_pos (by rw [encI.len]; rfl), hw2]; rfl
      have := ih (j + 1) (k + 1) h2 (m.set k x) (by omega) (hc.put hx (by rw [hx, show K0 + (j + 1) - 1 = K0 + j by omega, hy]; exact fun h => e (Option.some.inj h))) (by rw [eh2]; exact hb) (by rw [eh2]; exact zu rfl) (by rw [eh2]; exact hf.put (.inr rfl) _)
      refine OkV.eq (this.lp (l_i_4 F _ _ _ _ _)) ?_
      have ne : vBin .neq .other (Value.int .i64 x) (Value.int .i64 y) h = some (.bool true, h) := by rw [vBin_neq]; simp [e]
      rw [s_i_4]
      simp only [zE, hlen, zbn, hj, decide_true, zK, ix, sub1, iy, rd _ _ rx, rd _ _ ry, ne, ld _ _ rx, ik, st, add2]
      rw [s_i_5]
      simp only [zE, add1]
theorem cpI1 {l : List Int} {n b : Nat} (hn : l.length = n) (hn1 : n ≤ 1000000) {h : H} (hb : b < h.next) (hg : h.get b = some (.cells (l.map intL).flatten 1)) {P : Value → H → Prop}
    (hP : ∀ h' cs', FrD (fun j => j = b) h h' → h'.get b = some (.cells (((ddN l n).map intL).flatten ++ cs') 1) → P (.slice (some ⟨b, 0, none⟩) (ddN l n).length zm) h') :
    ∀ (r j : Nat), j + 1 + r = n → (∀ i, i < j + 1 → i ≠ 0 → l[i]? ≠ l[i - 1]?) →
    OkV (sh (rI F) c_i_1 (K_i_1 (rI F)) (setL [p0, p3] [.slice (some ⟨b, 0, none⟩) n zm, .int .i64 ((j : Int) + 1)]) h) P := by
  have hlen : ∀ h', bltV h' .len [.slice (some ⟨b, 0, none⟩) n zm] = some (.int .i64 (n : Int), h') := fun h' => rfl
  intro r
  induction r with
  | zero =>
    intro j hi hno
    have hd : ddN l n = l := by rw [ze1 (by omega) (fun i hi' h0 => hno i (by omega) h0), ← hn, List.take_length]
    have := hP h [] (.refl _ _) (by rw [hd, List.append_nil]; exact hg)
    rw [hd, hn] at this
    have hj : ¬ ((j : Int) + 1 < (n : Int)) := by omega
    refine OkV.eq (OkV.val this) ?_
    rw [s_i_1]
    simp only [zE, hlen, zbn, hj, decide_false, zA]
    rw [s_i_0]
    simp only [zE, zbv]
  | succ r ih =>
    intro j hi hno
    have hj : (j : Int) + 1 < (n : Int) := by omega
    obtain ⟨x, hx⟩ : ∃ x, l[j + 1]? = some x := ⟨_, List.getElem?_eq_getElem (by omega)⟩
    obtain ⟨y, hy⟩ : ∃ y, l[j]? = some y := ⟨_, List.getElem?_eq_getElem (by omega)⟩
    have rx := zct encI hx
    have ry := zct encI hy
    have ix : ∀ h', zl 1 (.slice (some ⟨b, 0, none⟩) n zm) (.int .i64 ((j : Int) + 1)) h' = some (.pointer (some ⟨b, (j + 1) * 1, none⟩), h') := fun h' => by
      refine (zby (i := j + 1) (by omega)).trans ?_
      rw [Nat.zero_add]
    have iy : ∀ h', zl 1 (.slice (some ⟨b, 0, none⟩) n zm) (.int .i64 ((j : Int))) h' = some (.pointer (some ⟨b, j * 1, none⟩), h') := fun h' => by
      refine (zby (i := j) (by omega)).trans ?_
      rw [Nat.zero_add]
    have sub1 : ∀ h', vBin .sub .other (.int .i64 ((j : Int) + 1)) (.int .i64 1) h' = some (.int .i64 (j : Int), h') := fun h' => by
      rw [zdm (by omega) (by omega)]; congr 3; omega
    have add1 : ∀ h', vBin .add .other (.int .i64 ((j : Int) + 1)) (.int .i64 1) h' = some (.int .i64 (((j + 1 : Nat) : Int) + 1), h') := fun h' => by
      rw [zx (by omega) (by omega)]; congr 3
    have rd : ∀ (o : Nat) (z : Int), zO 1 (zbh o (l.map intL).flatten) = some (intL z) → rdF (fun b_1 => zc (.pointer (some ⟨b, o, none⟩)) b_1) 0 h [(0, h)] = some (Value.int .i64 z, h) := fun o z hz => by
      have ld : zc (.pointer (some ⟨b, o, none⟩)) h = some (Value.int .i64 z, h) := by simp [hg, hz, intL]
      show (zc (.pointer (some ⟨b, o, none⟩)) h).bind _ = _
      rw [ld]; rfl
    by_cases e : x = y
    · obtain ⟨s2, es2⟩ : ∃ s2 : Value, s2 = .slice (some ⟨b, (j + 1) * 1, none⟩) (n - (j + 1)) zm := ⟨_, rfl⟩
      have hsl : zbk 1 h (some (.int .i64 ((j : Int) + 1))) none (.slice (some ⟨b, 0, none⟩) n zm) = some (s2, h) := by
        rw [es2]
        exact zgc (k := j + 1) encI.pos hg (by rw [zbt encI.len, hn]) (by omega)
      have := cpI4 (K0 := j + 1) hn hn1 (by omega) (by omega) es2 (hh := h) hP (n - (j + 1) - 1) 0 (j + 1) h l (by omega) (CInv.start (by omega) (by omega) hno (by rw [hx, show j + 1 - 1 = j by omega, hy, e])) hb hg (.refl _ _)
      refine OkV.eq (this.lp (l_i_4 F _ _ _ _ _)) ?_
      have ne : vBin .eql .other (Value.int .i64 x) (Value.int .i64 y) h = some (.bool true, h) := by rw [vBin_eql]; simp [e]
      rw [s_i_1]
      simp only [zE, hlen, zbn, hj, decide_true, zK, ix, sub1, iy, rd _ _ rx, rd _ _ ry, ne, hsl]
      rfl
    · have := ih (j + 1) (by omega) (fun i hi' h0 => by
        by_cases e2 : i = j + 1
        · subst e2; rw [hx, show j + 1 - 1 = j by omega, hy]; exact fun h => e (Option.some.inj h)
        · exact hno i (by omega) h0)
      refine OkV.eq (this.lp (l_i_1 F _ _ _)) ?_
      have ne : vBin .eql .other (Value.int .i64 x) (Value.int .i64 y) h = some (.bool false, h) := by rw [vBin_eql]; simp [e]
      rw [s_i_1]
      simp only [zE, hlen, zbn, hj, decide_true, zK, ix, sub1, iy, rd _ _ rx, rd _ _ ry, ne, zA]
      rw [s_i_2]
      simp only [zE, add1]
theorem compactI_ok {l : List Int} (hn1 : l.length ≤ 1000000) {h : H} {v : Value} (hv : (v = .slice none 0 0 ∧ l = []) ∨ ∃ b, v = .slice (some ⟨b, 0, none⟩) l.length zm ∧ b < h.next ∧ h.get b = some (.cells (l.map intL).flatten 1)) :
    Ret F (fnV n_i) [v] h fun u h' => Row h' 1 u ((ddN l l.length).map intL) ∧ FrD (fun j => ∃ n c, v = .slice (some ⟨j, 0, none⟩) n c) h h' ∧ ∀ b o n c, u = .slice (some ⟨b, o, none⟩) n c → ∃ n' c', v = .slice (some ⟨b, 0, none⟩) n' c' := by
  obtain ⟨Pq, hPd⟩ : ∃ Pq : Value → H → Prop, Pq = fun u h' => Row h' 1 u ((ddN l l.length).map intL) ∧ FrD (fun j => ∃ n c, v = .slice (some ⟨j, 0, none⟩) n c) h h' ∧ ∀ b o n c, u = .slice (some ⟨b, o, none⟩) n c → ∃ n' c', v = .slice (some ⟨b, 0, none⟩) n' c' := ⟨_, rfl⟩
  rw [← hPd]
  refine Ret.fn F_i 1 (by decide) ?_
  rw [s_i]
  rcases hv with ⟨rfl, rfl⟩ | ⟨b, rfl, hb, hg⟩
  · refine OkV.eq (OkV.val (v := .slice none 0 0) (h := h) ?_) ?_
    · rw [hPd]; exact ⟨.nil, .refl _ _, fun _ _ _ _ e => by cases e⟩
    · simp
  · have hlen : ∀ h', bltV h' .len [.slice (some ⟨b, 0, none⟩) l.length zm] = some (.int .i64 (l.length : Int), h') := fun h' => rfl
    have hrow : ∀ {h' : H} {l' : List Int} {cs' : List Value}, b < h'.next → h'.get b = some (.cells ((l'.map intL).flatten ++ cs') 1) → Row h' 1 (.slice (some ⟨b, 0, none⟩) l'.length zm) (l'.map intL) := fun {h' l' cs'} hb' hg' => by
      have := Row.cells (off := 0) (cap := zm) (sz := 1) (rows := l'.map intL) hb' hg' (fun i r hr => by
        rw [List.getElem?_map] at hr
        obtain ⟨x, hx, rfl⟩ := Option.map_eq_some_iff.1 hr
        obtain ⟨q1, q2⟩ := zdz encI hx
        rw [q1, Nat.zero_add, ← q2, List.append_assoc, zev, List.append_assoc]
        exact zdr (encI.clean x) (encI.len x).symm) (.inl ⟨rfl, rfl, encI.pos, by rw [List.length_append, zbt encI.len, List.length_map]; omega⟩)
      rwa [List.length_map] at this
    have done : ∀ h' cs', FrD (fun j => j = b) h h' → h'.get b = some (.cells (((ddN l l.length).map intL).flatten ++ cs') 1) → Pq (.slice (some ⟨b, 0, none⟩) (ddN l l.length).length zm) h' := fun h' cs' hf hg' => by
      rw [hPd]
      exact ⟨hrow (Nat.lt_of_lt_of_le hb hf.next) hg', hf.mono fun i _ e => by subst e; exact ⟨_, _, rfl⟩, fun b' o n c e => by cases e; exact ⟨_, _, rfl⟩⟩
    by_cases h2 : l.length < 2
    · have hd : ddN l l.length = l := by
        rw [ze1 (Nat.le_refl _) (fun i hi h0 => ?_), List.take_length]
        have : i = 1 ∨ i = 0 := by omega
        omega
      have := done h [] (.refl _ _) (by rw [hd, List.append_nil]; exact hg)
      rw [hd] at this
      refine OkV.eq (OkV.val this) ?_
      have h2' : (l.length : Int) < 2 := by omega
      simp only [zE, hlen, zbn, h2', decide_true, zK, zbv]
    · have := cpI1 (n := l.length) rfl hn1 hb hg done (l.length - 1) 0 (by omega) (fun i hi h0 => by omega)
      refine OkV.eq (this.lp (l_i_1 F _ _ _)) ?_
      have h2' : ¬ (l.length : Int) < 2 := by omega
      simp only [zE, hlen, zbn, h2', decide_false, zA]
      rfl
end
section
theorem cpE4 {l : List Ed} {n K0 b : Nat} (hn : l.length = n) (hn1 : n ≤ 1000000) (h0 : 0 < K0) (hK : K0 < n) {hh : H} {P : Value → H → Prop} {s2 : Value} (es2 : s2 = .slice (some ⟨b, K0 * 3, none⟩) (n - K0) zm)
    (hP : ∀ h' cs', FrD (fun j => j = b) hh h' → h'.get b = some (.cells (((ddN l n).map edL).flatten ++ cs') 3) → P (.slice (some ⟨b, 0, none⟩) (ddN l n).length zm) h') :
    ∀ (r j k : Nat) (h : H) (m : List Ed), K0 + (j + 1) + r = n → CInv l K0 (j + 1) k m → b < h.next → h.get b = some (.cells (m.map edL).flatten 3) → FrD (fun j => j = b) hh h →
    OkV (sh (rI F) c_b_4 (K_b_4 (rI F)) (setL [p0, p3, p4, p5] [.slice (some ⟨b, 0, none⟩) n zm, .int .i64 (k : Int), s2, .int .i64 ((j : Int) + 1)]) h) P := by
  have hlen : ∀ h', bltV h' .len [s2] = some (.int .i64 ((n - K0 : Nat) : Int), h') := fun h' => by rw [es2]; rfl
  intro r
  induction r with
  | zero =>
    intro j k h m hi hc hb hg hf
    obtain ⟨h2, cs', e1, e2, e3, eh2, hk⟩ := hc.fin encE (z := zeroE) rfl (by decide) hn (by omega) hg
    have := hP h2 cs' (by rw [eh2]; exact hf.put (.inr rfl) _) (by rw [eh2]; exact zu rfl)
    rw [hk] at this
    have hj : ¬ ((j : Int) + 1 < ((n - K0 : Nat) : Int)) := by omega
    refine OkV.eq (OkV.val this) ?_
    unfold zeroE at e2
    rw [s_b_4]
    simp only [zE, hlen, zbn, hj, decide_false, zA]
    rw [s_b_3]
    simp only [zE, e1, e2, e3, zbv]
  | succ r ih =>
    intro j k h m hi hc hb hg hf
    have hj : (j : Int) + 1 < ((n - K0 : Nat) : Int) := by omega
    have hklt := hc.lt
    obtain ⟨x, hx⟩ : ∃ x, l[K0 + (j + 1)]? = some x := ⟨_, List.getElem?_eq_getElem (by omega)⟩
    obtain ⟨y, hy⟩ : ∃ y, l[K0 + j]? = some y := ⟨_, List.getElem?_eq_getElem (by omega)⟩
    have mx := (hc.rest (K0 + (j + 1)) (by omega)).trans hx
    have my := (hc.rest (K0 + j) (by omega)).trans hy
    have rx := zct encE mx
    have ry := zct encE my
    have ix : ∀ h', zl 3 s2 (.int .i64 ((j : Int) + 1)) h' = some (.pointer (some ⟨b, (K0 + (j + 1)) * 3, none⟩), h') := fun h' => by
      rw [es2]
      refine (zby (i := j + 1) (by omega)).trans ?_
      rw [← Nat.add_mul]
    have iy : ∀ h', zl 3 s2 (.int .i64 ((j : Int))) h' = some (.pointer (some ⟨b, (K0 + j) * 3, none⟩), h') := fun h' => by
      rw [es2]
      refine (zby (i := j) (by omega)).trans ?_
      rw [← Nat.add_mul]
    have sub1 : ∀ h', vBin .sub .other (.int .i64 ((j : Int) + 1)) (.int .i64 1) h' = some (.int .i64 (j : Int), h') := fun h' => by
      rw [zdm (by omega) (by omega)]; congr 3; omega
    have add1 : ∀ h', vBin .add .other (.int .i64 ((j : Int) + 1)) (.int .i64 1) h' = some (.int .i64 (((j + 1 : Nat) : Int) + 1), h') := fun h' => by
      rw [zx (by omega) (by omega)]; congr 3
    have add2 : ∀ h', vBin .add .other (.int .i64 (k : Int)) (.int .i64 1) h' = some (.int .i64 ((k + 1 : Nat) : Int), h') := fun h' => by
      rw [zx (by omega) (by omega)]; rfl
    have ld : ∀ (o : Nat) (z : Ed), zO 3 (zbh o (m.map edL).flatten) = some (edL z) → zh 3 (.pointer (some ⟨b, o, none⟩)) h = some (edV z, h) := fun o z hz => by
      simp [hg, hz]
    have rd : ∀ (o : Nat) (z : Ed), zO 3 (zbh o (m.map edL).flatten) = some (edL z) → rdF (fun b_1 => zh 3 (.pointer (some ⟨b, o, none⟩)) b_1) 0 h [(0, h)] = some (edV z, h) := fun o z hz => by
      show (zh 3 (.pointer (some ⟨b, o, none⟩)) h).bind _ = _
      rw [ld o z hz]; rfl
    by_cases e : x = y
    · have := ih (j + 1) k h m (by omega) (hc.skip (by omega) (by rw [hx, show K0 + (j + 1) - 1 = K0 + j by omega, hy, e])) hb hg hf
      refine OkV.eq (this.lp (l_b_4 F _ _ _ _ _)) ?_
      have ne : vBin .neq (.leaves [0, 1, 2]) (edV x) (edV y) h = some (.bool false, h) := by rw [vBin_ed]; simp [e]
      rw [s_b_4]
      simp only [zE, hlen, zbn, hj, decide_true, zK, ix, sub1, iy, rd _ _ rx, rd _ _ ry, ne, zA]
      rw [s_b_5]
      simp only [zE, add1]
    · have hw := zjN encE (m := m) (i := k) (by rw [hc.len]; omega) x
      have ik : ∀ h', zl 3 (.slice (some ⟨b, 0, none⟩) n zm) (.int .i64 (k : Int)) h' = some (.pointer (some ⟨b, k * 3, none⟩), h') := fun h' => by
        rw [zby (by omega), Nat.zero_add]
      obtain ⟨h2, eh2⟩ : ∃ h2, h2 = h.put b (.cells ((m.set k x).map edL).flatten 3) := ⟨_, rfl⟩
      have st : zq 3 (.pointer (some ⟨b, k * 3, none⟩)) (edV x) h = some (zL, h2) := by
        have hw2 : h.write b (k * 3) (edL x) = some h2 := by rw [zhD hg, if_pos (by rw [encE.cell]; rfl), hw, eh2]; rfl
        show (if Nat.beq (edL x).length 3 = true then (h.write b (k * 3) (edL x)).map (fun h => (zL, h)) else none) = _
        rw [if_pos (by rw [encE.len]; rfl), hw2]; rfl
      have := ih (j + 1) (k + 1) h2 (m.set k x) (by omega) (hc.put hx (by rw [hx, show K0 + (j + 1) - 1 = K0 + j by omega, hy]; exact fun h => e (Option.some.inj h))) (by rw [eh2]; exact hb) (by rw [eh2]; exact zu rfl) (by rw [eh2]; exact hf.put (.inr rfl) _)
      refine OkV.eq (this.lp (l_b_4 F _ _ _ _ _)) ?_
      have ne : vBin .neq (.leaves [0, 1, 2]) (edV x) (edV y) h = some (.bool true, h) := by rw [vBin_ed]; simp [e]
      rw [s_b_4]
      simp only [zE, hlen, zbn, hj, decide_true, zK, ix, sub1, iy, rd _ _ rx, rd _ _ ry, ne, ld _ _ rx, ik, st, add2]
      rw [s_b_5]
      simp only [zE, add1]
theorem cpE1 {l : List Ed} {n b : Nat} (hn : l.length = n) (hn1 : n ≤ 1000000) {h : H} (hb : b < h.next) (hg : h.get b = some (.cells (l.map edL).flatten 3)) {P : Value → H → Prop}
    (hP : ∀ h' cs', FrD (fun j => j = b) h h' → h'.get b = some (.cells (((ddN l n).map edL).flatten ++ cs') 3) → P (.slice (some ⟨b, 0, none⟩) (ddN l n).length zm) h') :
    ∀ (r j : Nat), j + 1 + r = n → (∀ i, i < j + 1 → i ≠ 0 → l[i]? ≠ l[i - 1]?) →
    OkV (sh (rI F) c_b_1 (K_b_1 (rI F)) (setL [p0, p3] [.slice (some ⟨b, 0, none⟩) n zm, .int .i64 ((j : Int) + 1)]) h) P := by
  have hlen : ∀ h', bltV h' .len [.slice (some ⟨b, 0, none⟩) n zm] = some (.int .i64 (n : Int), h') := fun h' => rfl
  intro r
  induction r with
  | zero =>
    intro j hi hno
    have hd : ddN l n = l := by rw [ze1 (by omega) (fun i hi' h0 => hno i (by omega) h0), ← hn, List.take_length]
    have := hP h [] (.refl _ _) (by rw [hd, List.append_nil]; exact hg)
    rw [hd, hn] at this
    have hj : ¬ ((j : Int) + 1 < (n : Int)) := by omega
    refine OkV.eq (OkV.val this) ?_
    rw [s_b_1]
    simp only [zE, hlen, zbn, hj, decide_false, zA]
    rw [s_b_0]
    simp only [zE, zbv]
  | succ r ih =>
    intro j hi hno
    have hj : (j : Int) + 1 < (n : Int) := by omega
    obtain ⟨x, hx⟩ : ∃ x, l[j + 1]? = some x := ⟨_, List.getElem?_eq_getElem (by omega)⟩
    obtain ⟨y, hy⟩ : ∃ y, l[j]? = some y := ⟨_, List.getElem?_eq_getElem (by omega)⟩
    have rx := zct encE hx
    have ry := zct encE hy
    have ix : ∀ h', zl 3 (.slice (some ⟨b, 0, none⟩) n zm) (.int .i64 ((j : Int) + 1)) h' = some (.pointer (some ⟨b, (j + 1) * 3, none⟩), h') := fun h' => by
      refine (zby (i := j + 1) (by omega)).trans ?_
      rw [Nat.zero_add]
    have iy : ∀ h', zl 3 (.slice (some ⟨b, 0, none⟩) n zm) (.int .i64 ((j : Int))) h' = some (.pointer (some ⟨b, j * 3, none⟩), h') := fun h' => by
      refine (zby (i := j) (by omega)).trans ?_
      rw [Nat.zero_add]
    have sub1 : ∀ h', vBin .sub .other (.int .i64 ((j : Int) + 1)) (.int .i64 1) h' = some (.int .i64 (j : Int), h') := fun h' => by
      rw [zdm (by omega) (by omega)]; congr 3; omega
    have add1 : ∀ h', vBin .add .other (.int .i64 ((j : Int) + 1)) (.int .i64 1) h' = some (.int .i64 (((j + 1 : Nat) : Int) + 1), h') := fun h' => by
      rw [zx (by omega) (by omega)]; congr 3
    have rd : ∀ (o : Nat) (z : Ed), zO 3 (zbh o (l.map edL).flatten) = some (edL z) → rdF (fun b_1 => zh 3 (.pointer (some ⟨b, o, none⟩)) b_1) 0 h [(0, h)] = some (edV z, h) := fun o z hz => by
      have ld : zh 3 (.pointer (some ⟨b, o, none⟩)) h = some (edV z, h) := by simp [hg, hz]
      show (zh 3 (.pointer (some ⟨b, o, none⟩)) h).bind _ = _
      rw [ld]; rfl
    by_cases e : x = y
    · obtain ⟨s2, es2⟩ : ∃ s2 : Value, s2 = .slice (some ⟨b, (j + 1) * 3, none⟩) (n - (j + 1)) zm := ⟨_, rfl⟩
      have hsl : zbk 3 h (some (.int .i64 ((j : Int) + 1))) none (.slice (some ⟨b, 0, none⟩) n zm) = some (s2, h) := by
        rw [es2]
        exact zgc (k := j + 1) encE.pos hg (by rw [zbt encE.len, hn]) (by omega)
      have := cpE4 (K0 := j + 1) hn hn1 (by omega) (by omega) es2 (hh := h) hP (n - (j + 1) - 1) 0 (j + 1) h l (by omega) (CInv.start (by omega) (by omega) hno (by rw [hx, show j + 1 - 1 = j by omega, hy, e])) hb hg (.refl _ _)
      refine OkV.eq (this.lp (l_b_4 F _ _ _ _ _)) ?_
      have ne : vBin .eql (.leaves [0, 1, 2]) (edV x) (edV y) h = some (.bool true, h) := by rw [zht]; simp [e]
      rw [s_b_1]
      simp only [zE, hlen, zbn, hj, decide_true, zK, ix, sub1, iy, rd _ _ rx, rd _ _ ry, ne, hsl]
      rfl
    · have := ih (j + 1) (by omega) (fun i hi' h0 => by
        by_cases e2 : i = j + 1
        · subst e2; rw [hx, show j + 1 - 1 = j by omega, hy]; exact fun h => e (Option.some.inj h)
        · exact hno i (by omega) h0)
      refine OkV.eq (this.lp (l_b_1 F _ _ _)) ?_
      have ne : vBin .eql (.leaves [0, 1, 2]) (edV x) (edV y) h = some (.bool false, h) := by rw [zht]; simp [e]
      rw [s_b_1]
      simp only [zE, hlen, zbn, hj, decide_true, zK, ix, sub1, iy, rd _ _ rx, rd _ _ ry, ne, zA]
      rw [s_b_2]
      simp only [zE, add1]
theorem compactE_ok {l : List Ed} (hn1 : l.length ≤ 1000000) {h : H} {v : Value} (hv : (v = .slice none 0 0 ∧ l = []) ∨ ∃ b, v = .slice (some ⟨b, 0, none⟩) l.length zm ∧ b < h.next ∧ h.get b = some (.cells (l.map edL).flatten 3)) :
    Ret F (fnV n_b) [v] h fun u h' => Row h' 3 u ((ddN l l.length).map edL) ∧ FrD (fun j => ∃ n c, v = .slice (some ⟨j, 0, none⟩) n c) h h' ∧ ∀ b o n c, u = .slice (some ⟨b, o, none⟩) n c → ∃ n' c', v = .slice (some ⟨b, 0, none⟩) n' c' := by
  obtain ⟨Pq, hPd⟩ : ∃ Pq : Value → H → Prop, Pq = fun u h' => Row h' 3 u ((ddN l l.length).map edL) ∧ FrD (fun j => ∃ n c, v = .slice (some ⟨j, 0, none⟩) n c) h h' ∧ ∀ b o n c, u = .slice (some ⟨b, o, none⟩) n c → ∃ n' c', v = .slice (some ⟨b, 0, none⟩) n' c' := ⟨_, rfl⟩
  rw [← hPd]
  refine Ret.fn F_b 1 (by decide) ?_
  rw [s_b]
  rcases hv with ⟨rfl, rfl⟩ | ⟨b, rfl, hb, hg⟩
  · refine OkV.eq (OkV.val (v := .slice none 0 0) (h := h) ?_) ?_
    · rw [hPd]; exact ⟨.nil, .refl _ _, fun _ _ _ _ e => by cases e⟩
    · simp
  · have hlen : ∀ h', bltV h' .len [.slice (some ⟨b, 0, none⟩) l.length zm] = some (.int .i64 (l.length : Int), h') := fun h' => rfl
    have hrow : ∀ {h' : H} {l' : List Ed} {cs' : List Value}, b < h'.next → h'.get b = some (.cells ((l'.map edL).flatten ++ cs') 3) → Row h' 3 (.slice (some ⟨b, 0, none⟩) l'.length zm) (l'.map edL) := fun {h' l' cs'} hb' hg' => by
      have := Row.cells (off := 0) (cap := zm) (sz := 3) (rows := l'.map edL) hb' hg' (fun i r hr => by
        rw [List.getElem?_map] at hr
        obtain ⟨x, hx, rfl⟩ := Option.map_eq_some_iff.1 hr
        obtain ⟨q1, q2⟩ := zdz encE hx
        rw [q1, Nat.zero_add, ← q2, List.append_assoc, zev, List.append_assoc]
        exact zdr (encE.clean x) (encE.len x).symm) (.inl ⟨rfl, rfl, encE.pos, by rw [List.length_append, zbt encE.len, List.length_map]; omega⟩)
      rwa [List.length_map] at this
    have done : ∀ h' cs', FrD (fun j => j = b) h h' → h'.get b = some (.cells (((ddN l l.length).map edL).flatten ++ cs') 3) → Pq (.slice (some ⟨b, 0, none⟩) (ddN l l.length).length zm) h' := fun h' cs' hf hg' => by
      rw [hPd]
      exact ⟨hrow (Nat.lt_of_lt_of_le hb hf.next) hg', hf.mono fun i _ e => by subst e; exact ⟨_, _, rfl⟩, fun b' o n c e => by cases e; exact ⟨_, _, rfl⟩⟩
    by_cases h2 : l.length < 2
    · have hd : ddN l l.length = l := by
        rw [ze1 (Nat.le_refl _) (fun i hi h0 => ?_), List.take_length]
        have : i = 1 ∨ i = 0 := by omega
        omega
      have := done h [] (.refl _ _) (by rw [hd, List.append_nil]; exact hg)
      rw [hd] at this
      refine OkV.eq (OkV.val this) ?_
      have h2' : (l.length : Int) < 2 := by omega
      simp only [zE, hlen, zbn, h2', decide_true, zK, zbv]
    · have := cpE1 (n := l.length) rfl hn1 hb hg done (l.length - 1) 0 (by omega) (fun i hi h0 => by omega)
      refine OkV.eq (this.lp (l_b_1 F _ _ _)) ?_
      have h2' : ¬ (l.length : Int) < 2 := by omega
      simp only [zE, hlen, zbn, h2', decide_false, zA]
      rfl
end
end Go.Ideal.J
set_option maxHeartbeats 2000000
namespace Go.Ideal.J
open Go Go.Ideal
abbrev rV (r : Int → Int → Option Int) : Int → Int → Option Value := fun a b => (r a b).map fun k => Value.int .i64 k
def zbL (r : Int → Int → Option Int) (round u t : Int) : Bool := decide (u ≠ t) && match r u t with | some k => decide (k ≤ round) | none => false
def zfE (r : Int → Int → Option Int) (es : List Ed) (x : Ed) (other round : Int) : Bool := (tos es other x.2.2).all fun t => zbL r round x.2.1 t
theorem told_round (r : Int → Int → Option Int) (m : Nat) (x : Ed) (round t : Int) (L pm px pr pq : Nat) (h1 : H) (hm : MapM h1 m (rV r)) (hml : m < h1.next) (hL : h1.get L = some (.loop .ready none (setL [p5, p7, p9, p10] [ptr pm, ptr px, ptr pr, ptr pq]) zds))
    (hpm : h1.get pm = some (.cells [.map (some m)] 0)) (hpx : h1.get px = some (.cells (edL x) 0)) (hpr : h1.get pr = some (.cells [.int .i64 round] 0)) (hpq : h1.get pq = some (.cells [.bool false] 0)) (l0 : L < h1.next) (l1 : pm < h1.next) (l2 : px < h1.next) (l3 : pr < h1.next) (l4 : pq < h1.next)
    (n1 : pm ≠ L) (n2 : px ≠ L) (n3 : pr ≠ L) (n4 : pq ≠ L) (n5 : m ≠ L) {P : Value → H → Prop}
    (hP1 : zbL r round x.2.1 t = true → ∀ h', FrD (fun j => j = L ∨ j = pq) h1 h' → h'.get L = some (.loop .ready none (setL [p5, p7, p9, p10] [ptr pm, ptr px, ptr pr, ptr pq]) zds) → h'.get pq = some (.cells [.bool false] 0) → P (.bool true) h')
    (hP2 : zbL r round x.2.1 t = false → ∀ h', FrD (fun j => j = L ∨ j = pq) h1 h' → h'.get L = some (.loop .done (some .ret) (setL [p5, p7, p9, p10] [ptr pm, ptr px, ptr pr, ptr pq]) zds) → h'.get pq = some (.cells [.bool false] 0) → P (.bool false) h') :
    Ret F (.func (.yield L) #[] #[]) [.int .i64 t] h1 P := by
  refine Ret.round hL ?_
  rw [s_p_1]
  simp (disch := first | omega | (simp only [zb, za]; done) | (simp only [zb, za]; omega)) []
  rw [zhB hL, s_p_2]
  obtain ⟨h2, eh2⟩ : ∃ h2, h2 = (h1.put L (.loop .busy none (setL [p5, p7, p9, p10] [ptr pm, ptr px, ptr pr, ptr pq]) zds)).new (.cells [.int .i64 x.2.1, .int .i64 t] 0) := ⟨_, rfl⟩
  have hf2 : FrD (fun j => j = L) h1 h2 := by rw [eh2]; exact ((FrD.refl (fun j => j = L) _).put (.inr rfl) _).new _
  have hn2 : h2.next = h1.next + 1 := by rw [eh2]; simp
  have gL : h2.get L = some (.loop .busy none (setL [p5, p7, p9, p10] [ptr pm, ptr px, ptr pr, ptr pq]) zds) := by rw [eh2, zbK (by simp; omega), zu rfl]
  have hm2 : MapM h2 m (rV r) := hm.fr hf2 hml n5
  have gm := (hf2.get _ l1 n1).trans hpm
  have gx := (hf2.get _ l2 n2).trans hpx
  have gr := (hf2.get _ l3 n3).trans hpr
  have gq := (hf2.get _ l4 n4).trans hpq
  have gp : h2.get h1.next = some (.cells [.int .i64 x.2.1, .int .i64 t] 0) := by rw [eh2, zgo (by simp)]
  have hlk := look_ok hm2 (.int .i64 0) x.2.1 t
  have hf3 : ∀ o, FrD (fun j => j = L ∨ j = pq) h1 (h2.put L o) := fun o => (hf2.mono fun _ _ h => .inl h).put (.inr (.inl rfl)) _
  have hf4 : ∀ o o', FrD (fun j => j = L ∨ j = pq) h1 ((h2.put pq o').put L o) := fun o o' => ((hf2.mono fun _ _ h => .inl h).put (.inr (.inr rfl)) _).put (.inr (.inl rfl)) _
  have gL4 : ∀ o', (h2.put pq o').get L = some (.loop .busy none (setL [p5, p7, p9, p10] [ptr pm, ptr px, ptr pr, ptr pq]) zds) := fun o' => by rw [zt (Ne.symm n4)]; exact gL
  have okk : zbL r round x.2.1 t = true → OkV (fin L none h2) P := fun e => by
    rw [zeZ gL]
    exact OkV.val (hP1 e _ (hf3 _) (zu rfl) (by rw [zt n4]; exact gq))
  have okn : zbL r round x.2.1 t = false → OkV (fin L (some .ret) (h2.put pq (.cells [.bool false] 0))) P := fun e => by
    rw [fin_some (gL4 _)]
    exact OkV.val (hP2 e _ (hf4 _ _) (zu rfl) (by rw [zt n4]; exact zu rfl))
  by_cases c1 : x.2.1 = t
  · refine OkV.eq (okn (by simp [zbL, c1])) ?_
    rw [c1] at hlk gp eh2
    simp (disch := first | omega | (simp only [zb, za]; done) | (simp only [zb, za]; omega)) [hpx, n2, c1, zr, ← eh2, gm, gp, hlk, zfC, gq]
  · cases hr : r x.2.1 t with
    | none =>
      simp only [rV, hr, Option.map_none, Option.map_some, Option.getD_none, Option.getD_some, Option.isSome_none, Option.isSome_some] at hlk
      refine OkV.eq (okn (by simp [zbL, hr])) ?_
      simp (disch := first | omega | (simp only [zb, za]; done) | (simp only [zb, za]; omega)) [hpx, n2, c1, zr, ← eh2, gm, gp, hlk, zfC, gq]
    | some k =>
      simp only [rV, hr, Option.map_none, Option.map_some, Option.getD_none, Option.getD_some, Option.isSome_none, Option.isSome_some] at hlk
      by_cases c2 : k ≤ round
      · refine OkV.eq (okk (by simp [zbL, hr, c1, c2])) ?_
        simp (disch := first | omega | (simp only [zb, za]; done) | (simp only [zb, za]; omega)) [hpx, n2, c1, zr, ← eh2, gm, gp, hlk, zfC, gq, gr, c2]
      · refine OkV.eq (okn (by simp [zbL, hr, c2])) ?_
        simp (disch := first | omega | (simp only [zb, za]; done) | (simp only [zb, za]; omega)) [hpx, n2, c1, zr, ← eh2, gm, gp, hlk, zfC, gq, gr, c2]
end Go.Ideal.J
namespace Go.Ideal.J
open Go Go.Ideal
theorem told_ok (es : List Ed) (hs : zbW es) (hsz : es.length ≤ 1000) (st lb : Int) (r : Int → Int → Option Int) (m : Nat) (x : Ed) (other round : Int) (sl : Value) (h : H) (hrow : Row h 3 sl (es.map edL)) (hm : MapM h m (rV r)) (hml : m < h.next) :
    ∃ h', zbm F (fnV n_p) [.map (some m), gV st lb sl, edV x, .int .i64 other, .int .i64 round] h = some (.bool (zfE r es x other round), h') ∧ Fr h h' := by
  suffices hr : Ret F (fnV n_p) [.map (some m), gV st lb sl, edV x, .int .i64 other, .int .i64 round] h fun v h' => v = .bool (zfE r es x other round) ∧ Fr h h' by
    obtain ⟨v, h', e, rfl, hf⟩ := hr; exact ⟨h', e, hf⟩
  obtain ⟨P, hPd⟩ : ∃ P : Value → H → Prop, P = fun v h' => v = .bool (zfE r es x other round) ∧ Fr h h' := ⟨_, rfl⟩
  rw [← hPd]
  refine Ret.fn F_p 5 (by decide) ?_
  rw [s_p]
  have hv := hrow.slvM
  obtain ⟨q, eq⟩ : ∃ q, q = h.next := ⟨_, rfl⟩
  obtain ⟨h2, eh2⟩ : ∃ h2, h2 = ((((((((h.new (.cells [.map (some m)] 0)).new (.cells (gL st lb sl) 0)).new (.cells (edL x) 0)).new (.cells [.int .i64 round] 0)).new (.cells [.bool false] 0)).new (.cells (gL st lb sl) 0)).new (.cells [.int .i64 other] 0)).new (.cells [.int .i64 x.2.2] 0)).new (.loop .ready none (setL [p5, p7, p9, p10] [ptr h.next, ptr (h.next + 1 + 1), ptr (h.next + 1 + 1 + 1), ptr (h.next + 1 + 1 + 1 + 1)]) zds) := ⟨_, rfl⟩
  simp (disch := first | omega | (simp only [zb, za]; done) | (simp only [zb, za]; omega)) [hv.clean, hv.take, leads_ok]
  rw [← eh2, ← eq]
  have hf2 : Fr h h2 := by rw [eh2]; exact ((((((((Fr.new _ _).newR _).newR _).newR _).newR _).newR _).newR _).newR _).newR _
  have hn2 : h2.next = q + 9 := by rw [eh2, eq]; simp
  have gm2 : h2.get q = some (.cells [.map (some m)] 0) := by rw [eh2, eq]; simp (disch := first | omega | (simp only [zb, za]; done) | (simp only [zb, za]; omega)) []
  have gx2 : h2.get (q + 1 + 1) = some (.cells (edL x) 0) := by rw [eh2, eq]; simp (disch := first | omega | (simp only [zb, za]; done) | (simp only [zb, za]; omega)) []
  have gr2 : h2.get (q + 1 + 1 + 1) = some (.cells [.int .i64 round] 0) := by rw [eh2, eq]; simp (disch := first | omega | (simp only [zb, za]; done) | (simp only [zb, za]; omega)) []
  have gq2 : h2.get (q + 1 + 1 + 1 + 1) = some (.cells [.bool false] 0) := by rw [eh2, eq]; simp (disch := first | omega | (simp only [zb, za]; done) | (simp only [zb, za]; omega)) []
  have gg2 : h2.get (q + 1 + 1 + 1 + 1 + 1) = some (.cells (gL st lb sl) 0) := by rw [eh2, eq]; simp (disch := first | omega | (simp only [zb, za]; done) | (simp only [zb, za]; omega)) []
  have go2 : h2.get (q + 1 + 1 + 1 + 1 + 1 + 1) = some (.cells [.int .i64 other] 0) := by rw [eh2, eq]; simp (disch := first | omega | (simp only [zb, za]; done) | (simp only [zb, za]; omega)) []
  have gl2 : h2.get (q + 1 + 1 + 1 + 1 + 1 + 1 + 1) = some (.cells [.int .i64 x.2.2] 0) := by rw [eh2, eq]; simp (disch := first | omega | (simp only [zb, za]; done) | (simp only [zb, za]; omega)) []
  have gL2 : h2.get (q + 1 + 1 + 1 + 1 + 1 + 1 + 1 + 1) = some (.loop .ready none (setL [p5, p7, p9, p10] [ptr q, ptr (q + 1 + 1), ptr (q + 1 + 1 + 1), ptr (q + 1 + 1 + 1 + 1)]) zds) := by rw [eh2, eq]; simp (disch := first | omega | (simp only [zb, za]; done) | (simp only [zb, za]; omega)) []
  obtain ⟨L, eL⟩ : ∃ L, L = q + 1 + 1 + 1 + 1 + 1 + 1 + 1 + 1 := ⟨_, rfl⟩
  rw [← eL] at gL2 ⊢
  have hm2 := hm.fr (D := fun _ => False) hf2.D hml (by simp)
  refine OkV.call (leads_run es hs hsz other x.2.2 st lb (.func (.yield L) #[] #[]) rfl rfl rfl sl (q + 1 + 1 + 1 + 1 + 1) (q + 1 + 1 + 1 + 1 + 1 + 1) (q + 1 + 1 + 1 + 1 + 1 + 1 + 1) h2 (M := fun j => j = L ∨ j = q + 1 + 1 + 1 + 1) (fun i hi => by omega) (hrow.fr hf2) (by omega) (by omega) (by omega) (fun b o n c e => by have := hrow.lt e; omega) (by omega) gg2 (by omega) go2 (by omega) gl2
    (fun i h1 => h1.get L = some (.loop .ready none (setL [p5, p7, p9, p10] [ptr q, ptr (q + 1 + 1), ptr (q + 1 + 1 + 1), ptr (q + 1 + 1 + 1 + 1)]) zds) ∧ h1.get (q + 1 + 1 + 1 + 1) = some (.cells [.bool false] 0) ∧ FrD (fun j => j = L ∨ j = q + 1 + 1 + 1 + 1) h2 h1 ∧ ∀ t ∈ (tos es other x.2.2).take i, zbL r round x.2.1 t = true)
    (fun h1 => h1.get L = some (.loop .done (some .ret) (setL [p5, p7, p9, p10] [ptr q, ptr (q + 1 + 1), ptr (q + 1 + 1 + 1), ptr (q + 1 + 1 + 1 + 1)]) zds) ∧ h1.get (q + 1 + 1 + 1 + 1) = some (.cells [.bool false] 0) ∧ h2.next ≤ h1.next ∧ ∃ t ∈ tos es other x.2.2, zbL r round x.2.1 t = false) ?_ ?_ ?_ ?_
    (P := fun _ h' => FrD (fun j => j = L ∨ j = q + 1 + 1 + 1 + 1) h2 h' ∧ ((h'.get L = some (.loop .ready none (setL [p5, p7, p9, p10] [ptr q, ptr (q + 1 + 1), ptr (q + 1 + 1 + 1), ptr (q + 1 + 1 + 1 + 1)]) zds) ∧ h'.get (q + 1 + 1 + 1 + 1) = some (.cells [.bool false] 0) ∧ zfE r es x other round = true) ∨ (h'.get L = some (.loop .done (some .ret) (setL [p5, p7, p9, p10] [ptr q, ptr (q + 1 + 1), ptr (q + 1 + 1 + 1), ptr (q + 1 + 1 + 1 + 1)]) zds) ∧ h'.get (q + 1 + 1 + 1 + 1) = some (.cells [.bool false] 0) ∧ zfE r es x other round = false))) ?_) ?_
  · rintro i h1 h3 ⟨q1, q2, q3, q4⟩ hf
    have := q3.next
    refine ⟨(hf.get _ (by omega) (by omega)).trans q1, (hf.get _ (by omega) (by omega)).trans q2, ⟨Nat.le_trans q3.next hf.next, fun j hj hd => (hf.get _ (by omega) (by omega)).trans (q3.get _ hj hd)⟩, q4⟩
  · rintro h1 h3 ⟨q1, q2, q3, q4⟩ hf
    exact ⟨(hf.get _ (by omega) (by omega)).trans q1, (hf.get _ (by omega) (by omega)).trans q2, Nat.le_trans q3 hf.next, q4⟩
  · rintro i v h1 hv ⟨q1, q2, q3, q4⟩ hn
    rw [List.getElem?_map] at hv
    obtain ⟨t, ht, rfl⟩ := Option.map_eq_some_iff.1 hv
    refine told_round r m x round t L q (q + 1 + 1) (q + 1 + 1 + 1) (q + 1 + 1 + 1 + 1) h1 (hm2.fr q3 (by have := hf2.next; omega) (by omega)) (by omega) q1 ((q3.get _ (by omega) (by omega)).trans gm2) ((q3.get _ (by omega) (by omega)).trans gx2) ((q3.get _ (by omega) (by omega)).trans gr2) q2 (by omega) (by omega) (by omega) (by omega) (by omega) (by omega) (by omega) (by omega) (by omega) (by omega) ?_ ?_
    · intro e h' r1 r2 r3
      refine ⟨r1, .inl ⟨rfl, r2, r3, q3.trans r1, fun u hu => ?_⟩⟩
      rw [List.take_add_one, ht] at hu
      rcases List.mem_append.1 hu with hu | hu
      · exact q4 u hu
      · simp at hu; subst hu; exact e
    · intro e h' r1 r2 r3
      exact ⟨r1, .inr ⟨rfl, r2, r3, by have := r1.next; omega, t, List.mem_of_getElem? ht, e⟩⟩
  · exact ⟨gL2, gq2, .refl _ _, by simp⟩
  · intro h' hf hv
    refine ⟨hf, ?_⟩
    rcases hv with ⟨q1, q2, q3, q4⟩ | ⟨q1, q2, q3, t, ht, e⟩
    · refine .inl ⟨q1, q2, ?_⟩
      rw [List.take_length] at q4
      exact List.all_eq_true.2 q4
    · refine .inr ⟨q1, q2, ?_⟩
      rw [Bool.eq_false_iff]
      intro hh
      rw [List.all_eq_true.1 hh t ht] at e; cases e
  · rintro v h' ⟨hf, hv⟩
    have hfn := hf.next
    have hfin : ∀ o o', Fr h ((h'.put L o).put (q + 1 + 1 + 1 + 1) o') := fun o o' => ⟨by simp; have := hf2.next; omega, fun i hi => by
      rw [zt (by omega), zt (by omega), hf.get _ (by have := hf2.next; omega) (by omega)]; exact hf2.get _ hi⟩
    have hfin' : ∀ o, Fr h (h'.put L o) := fun o => ⟨by simp; have := hf2.next; omega, fun i hi => by
      rw [zt (by omega), hf.get _ (by have := hf2.next; omega) (by omega)]; exact hf2.get _ hi⟩
    rcases hv with ⟨q1, q2, q3⟩ | ⟨q1, q2, q3⟩
    · rw [zfN q1, s_p_0]
      refine OkV.eq (OkV.val (v := .bool true) (h := (h'.put L (.loop .exhausted none (setL [p5, p7, p9, p10] [ptr q, ptr (q + 1 + 1), ptr (q + 1 + 1 + 1), ptr (q + 1 + 1 + 1 + 1)]) zds)).put (q + 1 + 1 + 1 + 1) (.cells [.bool true] 0)) (by rw [hPd]; exact ⟨by rw [q3], hfin _ _⟩)) ?_
      simp (disch := first | omega | (simp only [zb, za]; done) | (simp only [zb, za]; omega)) [q2]
    · rw [rgP_ret q1]
      refine OkV.eq (OkV.val (v := .bool false) (h := h'.put L (.loop .exhausted (some .ret) (setL [p5, p7, p9, p10] [ptr q, ptr (q + 1 + 1), ptr (q + 1 + 1 + 1), ptr (q + 1 + 1 + 1 + 1)]) zds)) (by rw [hPd]; exact ⟨by rw [q3], hfin' _⟩)) ?_
      simp (disch := first | omega | (simp only [zb, za]; done) | (simp only [zb, za]; omega)) [q2]
end Go.Ideal.J
namespace Go.Ideal.J
open Go Go.Ideal
def zbl (r : Int → Int → Option Int) (es : List Ed) (a b round : Int) : Option Ed := (outs es a).find? fun x => zfE r es x b round
theorem find_at {α : Type} {p : α → Bool} : ∀ {l : List α} {i : Nat} {x : α}, l[i]? = some x → (∀ y ∈ l.take i, p y = false) → p x = true → l.find? p = some x
  | [], i, x, h, _, _ => by simp at h
  | a :: l, 0, x, h, _, hx => by
    simp at h; subst h
    rw [List.find?_cons, hx]
  | a :: l, i + 1, x, h, hn, hx => by
    have ha := hn a (by simp)
    rw [List.find?_cons, ha]
    exact find_at (by simpa using h) (fun y hy => hn y (by simp [hy])) hx
theorem find_none {α : Type} {p : α → Bool} {l : List α} (h : ∀ y ∈ l, p y = false) : l.find? p = none := by
  rw [List.find?_eq_none]; intro x hx; rw [h x hx]; simp
def zcu : Option Ed → Value
  | some x => pairV' (edV x) (.bool true)
  | none => pairV' (edV (0, 0, 0)) (.bool false)
where pairV' (a b : Value) : Value := .tuple ⟨[a, b]⟩
noncomputable abbrev slF1 (q : Nat) : zg := setL [p5, p6, p8, p9, p10, p11] [ptr q, ptr (q + 1), ptr (q + 1 + 1), ptr (q + 1 + 1 + 1), ptr (q + 1 + 1 + 1 + 1), ptr (q + 1 + 1 + 1 + 1 + 1)]
theorem first_round (es : List Ed) (hs : zbW es) (hsz : es.length ≤ 1000) (st lb : Int) (r : Int → Int → Option Int) (m : Nat) (x : Ed) (other round : Int) (sl : Value) (L q : Nat) (h1 : H) (hrow : Row h1 3 sl (es.map edL)) (hsl : ∀ b o n c, sl = .slice (some ⟨b, o, none⟩) n c → b ≠ L) (hm : MapM h1 m (rV r)) (hml : m < q) (hL : h1.get L = some (.loop .ready none (slF1 q) zdQ)) (hLq : q + 6 ≤ L)
    (g0 : h1.get q = some (.cells [.map (some m)] 0)) (g1 : h1.get (q + 1) = some (.cells (gL st lb sl) 0)) (g2 : h1.get (q + 1 + 1) = some (.cells [.int .i64 other] 0)) (g3 : h1.get (q + 1 + 1 + 1) = some (.cells [.int .i64 round] 0)) (g4 : h1.get (q + 1 + 1 + 1 + 1) = some (.cells (edL (0, 0, 0)) 0)) (g5 : h1.get (q + 1 + 1 + 1 + 1 + 1) = some (.cells [.bool false] 0)) (hl : L < h1.next) {P : Value → H → Prop}
    (hP1 : zfE r es x other round = false → ∀ h', FrD (fun j => j = L ∨ j = q + 4 ∨ j = q + 5) h1 h' → h'.get L = some (.loop .ready none (slF1 q) zdQ) → h'.get (q + 4) = some (.cells (edL (0, 0, 0)) 0) → h'.get (q + 5) = some (.cells [.bool false] 0) → P (.bool true) h')
    (hP2 : zfE r es x other round = true → ∀ h', FrD (fun j => j = L ∨ j = q + 4 ∨ j = q + 5) h1 h' → h'.get L = some (.loop .done (some .ret) (slF1 q) zdQ) → h'.get (q + 4) = some (.cells (edL x) 0) → h'.get (q + 5) = some (.cells [.bool true] 0) → P (.bool false) h') :
    Ret F (.func (.yield L) #[] #[]) [edV x] h1 P := by
  refine Ret.round hL ?_
  rw [s_l_1]
  simp (disch := first | omega | (simp only [zb, za]; done) | (simp only [zb, za]; omega)) []
  obtain ⟨h2, eh2⟩ : ∃ h2, h2 = (h1.new (.cells (edL x) 0)).put L (.loop .busy none (slF1 q) zdQ) := ⟨_, rfl⟩
  rw [zhB (by rw [zbK (by omega)]; exact hL), s_l_2]
  have hf2 : FrD (fun j => j = L) h1 h2 := by rw [eh2]; exact ((FrD.refl (fun j => j = L) _).new _).put (.inr rfl) _
  have hn2 : h2.next = h1.next + 1 := by rw [eh2]; simp
  have gL2 : h2.get L = some (.loop .busy none (slF1 q) zdQ) := by rw [eh2, zu rfl]
  have gx2 : h2.get h1.next = some (.cells (edL x) 0) := by rw [eh2, zt (by omega), zgo rfl]
  have k0 := (hf2.get _ (by omega) (by omega)).trans g0
  have k1 := (hf2.get _ (by omega) (by omega)).trans g1
  have k2' := (hf2.get _ (by omega) (by omega)).trans g2
  have k3 := (hf2.get _ (by omega) (by omega)).trans g3
  have k4 := (hf2.get _ (by omega) (by omega)).trans g4
  have k5 := (hf2.get _ (by omega) (by omega)).trans g5
  have hv := hrow.slvM
  obtain ⟨h3, e3, hf3⟩ := told_ok es hs hsz st lb r m x other round sl h2 (hrow.frD hf2 hsl) (hm.fr hf2 (by omega) (by omega)) (by omega)
  have hfn3 := hf3.next
  have gL3 := (hf3.get _ (by omega)).trans gL2
  have gx3 := (hf3.get _ (by omega)).trans gx2
  have j4 := (hf3.get _ (by omega)).trans k4
  have j5 := (hf3.get _ (by omega)).trans k5
  have hf13 : FrD (fun j => j = L ∨ j = q + 4 ∨ j = q + 5) h1 h3 := ⟨by omega, fun i hi hd => (hf3.get _ (by omega)).trans (hf2.get _ hi (by omega))⟩
  rw [← eh2]
  cases ht : zfE r es x other round with
  | false =>
    rw [ht] at e3
    have : OkV (fin L none h3) P := by
      rw [zeZ gL3]
      exact OkV.val (hP1 ht _ (hf13.put (.inr (.inl rfl)) _) (zu rfl) (by rw [zt (by omega)]; exact j4) (by rw [zt (by omega)]; exact j5))
    refine OkV.eq this ?_
    simp (disch := first | omega | (simp only [zb, za]; done) | (simp only [zb, za]; omega)) [k0, k1, k2', k3, gx2, hv.clean, hv.take, e3]
  | true =>
    rw [ht] at e3
    have : OkV (fin L (some .ret) ((h3.put (q + 1 + 1 + 1 + 1) (.cells (edL x) 0)).put (q + 1 + 1 + 1 + 1 + 1) (.cells [.bool true] 0))) P := by
      rw [fin_some (by rw [zt (by omega), zt (by omega)]; exact gL3)]
      exact OkV.val (hP2 ht _ (((hf13.put (.inr (.inr (.inl rfl))) _).put (.inr (.inr (.inr rfl))) _).put (.inr (.inl rfl)) _) (zu rfl) (by rw [zt (by omega), zt (by omega), zu rfl]) (by rw [zt (by omega), zu rfl]))
    refine OkV.eq this ?_
    simp (disch := first | omega | (simp only [zb, za]; done) | (simp only [zb, za]; omega)) [k0, k1, k2', k3, gx2, hv.clean, hv.take, e3, gx3, j4, j5]
theorem first_ok (es : List Ed) (hs : zbW es) (hsz : es.length ≤ 1000) (st lb : Int) (r : Int → Int → Option Int) (m : Nat) (a b round : Int) (sl : Value) (h : H) (hrow : Row h 3 sl (es.map edL)) (hm : MapM h m (rV r)) (hml : m < h.next) :
    ∃ h', zbm F (fnV n_l) [.map (some m), gV st lb sl, .int .i64 a, .int .i64 b, .int .i64 round] h = some (zcu (zbl r es a b round), h') ∧ Fr h h' := by
  suffices hr : Ret F (fnV n_l) [.map (some m), gV st lb sl, .int .i64 a, .int .i64 b, .int .i64 round] h fun v h' => v = zcu (zbl r es a b round) ∧ Fr h h' by
    obtain ⟨v, h', e, rfl, hf⟩ := hr; exact ⟨h', e, hf⟩
  obtain ⟨P, hPd⟩ : ∃ P : Value → H → Prop, P = fun v h' => v = zcu (zbl r es a b round) ∧ Fr h h' := ⟨_, rfl⟩
  rw [← hPd]
  refine Ret.fn F_l 5 (by decide) ?_
  rw [s_l]
  have hv := hrow.slvM
  obtain ⟨q, eq⟩ : ∃ q, q = h.next := ⟨_, rfl⟩
  obtain ⟨h2, eh2⟩ : ∃ h2, h2 = ((((((((h.new (.cells [.map (some m)] 0)).new (.cells (gL st lb sl) 0)).new (.cells [.int .i64 b] 0)).new (.cells [.int .i64 round] 0)).new (.cells (edL (0, 0, 0)) 0)).new (.cells [.bool false] 0)).new (.cells (gL st lb sl) 0)).new (.cells [.int .i64 a] 0)).new (.loop .ready none (slF1 h.next) zdQ) := ⟨_, rfl⟩
  simp (disch := first | omega | (simp only [zb, za]; done) | (simp only [zb, za]; omega)) [hv.clean, hv.take, steps_ok]
  rw [← eh2, ← eq]
  have hf2 : Fr h h2 := by rw [eh2]; exact ((((((((Fr.new _ _).newR _).newR _).newR _).newR _).newR _).newR _).newR _).newR _
  have hn2 : h2.next = q + 9 := by rw [eh2, eq]; simp
  have k0 : h2.get q = some (.cells [.map (some m)] 0) := by rw [eh2, eq]; simp (disch := first | omega | (simp only [zb, za]; done) | (simp only [zb, za]; omega)) []
  have k1 : h2.get (q + 1) = some (.cells (gL st lb sl) 0) := by rw [eh2, eq]; simp (disch := first | omega | (simp only [zb, za]; done) | (simp only [zb, za]; omega)) []
  have k2' : h2.get (q + 1 + 1) = some (.cells [.int .i64 b] 0) := by rw [eh2, eq]; simp (disch := first | omega | (simp only [zb, za]; done) | (simp only [zb, za]; omega)) []
  have k3 : h2.get (q + 1 + 1 + 1) = some (.cells [.int .i64 round] 0) := by rw [eh2, eq]; simp (disch := first | omega | (simp only [zb, za]; done) | (simp only [zb, za]; omega)) []
  have k4 : h2.get (q + 1 + 1 + 1 + 1) = some (.cells (edL (0, 0, 0)) 0) := by rw [eh2, eq]; simp (disch := first | omega | (simp only [zb, za]; done) | (simp only [zb, za]; omega)) []
  have k5 : h2.get (q + 1 + 1 + 1 + 1 + 1) = some (.cells [.bool false] 0) := by rw [eh2, eq]; simp (disch := first | omega | (simp only [zb, za]; done) | (simp only [zb, za]; omega)) []
  have gg2 : h2.get (q + 1 + 1 + 1 + 1 + 1 + 1) = some (.cells (gL st lb sl) 0) := by rw [eh2, eq]; simp (disch := first | omega | (simp only [zb, za]; done) | (simp only [zb, za]; omega)) []
  have gf2 : h2.get (q + 1 + 1 + 1 + 1 + 1 + 1 + 1) = some (.cells [.int .i64 a] 0) := by rw [eh2, eq]; simp (disch := first | omega | (simp only [zb, za]; done) | (simp only [zb, za]; omega)) []
  have gL2 : h2.get (q + 1 + 1 + 1 + 1 + 1 + 1 + 1 + 1) = some (.loop .ready none (slF1 q) zdQ) := by rw [eh2, eq]; simp (disch := first | omega | (simp only [zb, za]; done) | (simp only [zb, za]; omega)) []
  obtain ⟨L, eL⟩ : ∃ L, L = q + 1 + 1 + 1 + 1 + 1 + 1 + 1 + 1 := ⟨_, rfl⟩
  rw [← eL] at gL2 ⊢
  have hm2 := hm.fr (D := fun _ => False) hf2.D hml (by simp)
  refine OkV.call (zhL es hs hsz a st lb (.func (.yield L) #[] #[]) sl (q + 1 + 1 + 1 + 1 + 1 + 1) (q + 1 + 1 + 1 + 1 + 1 + 1 + 1) h2 (M := fun j => j = L ∨ j = q + 4 ∨ j = q + 5) (hrow.fr hf2) (by omega) (by omega) (fun b o n c e => by have := hrow.lt e; omega) (by omega) gg2 (by omega) gf2
    (fun i h1 => h1.get L = some (.loop .ready none (slF1 q) zdQ) ∧ h1.get (q + 4) = some (.cells (edL (0, 0, 0)) 0) ∧ h1.get (q + 5) = some (.cells [.bool false] 0) ∧ FrD (fun j => j = L ∨ j = q + 4 ∨ j = q + 5) h2 h1 ∧ ∀ x ∈ (outs es a).take i, zfE r es x b round = false)
    (fun h1 => ∃ x, h1.get L = some (.loop .done (some .ret) (slF1 q) zdQ) ∧ h1.get (q + 4) = some (.cells (edL x) 0) ∧ h1.get (q + 5) = some (.cells [.bool true] 0) ∧ zbl r es a b round = some x) h2.next (Nat.le_refl _) ?_ ?_ ?_
    (P := fun _ h' => FrD (fun j => j = L ∨ j = q + 4 ∨ j = q + 5) h2 h' ∧ ((h'.get L = some (.loop .ready none (slF1 q) zdQ) ∧ h'.get (q + 4) = some (.cells (edL (0, 0, 0)) 0) ∧ h'.get (q + 5) = some (.cells [.bool false] 0) ∧ zbl r es a b round = none) ∨ ∃ x, h'.get L = some (.loop .done (some .ret) (slF1 q) zdQ) ∧ h'.get (q + 4) = some (.cells (edL x) 0) ∧ h'.get (q + 5) = some (.cells [.bool true] 0) ∧ zbl r es a b round = some x)) ?_) ?_
  · rintro i h1 h3 ⟨q1, q2, q3, q4, q5⟩ hf
    have := q4.next
    exact ⟨(hf.get _ (by omega)).trans q1, (hf.get _ (by omega)).trans q2, (hf.get _ (by omega)).trans q3, q4.trans hf.D, q5⟩
  · rintro i v h1 hv ⟨q1, q2, q3, q4, q5⟩ hn
    rw [List.getElem?_map] at hv
    obtain ⟨x, hx, rfl⟩ := Option.map_eq_some_iff.1 hv
    refine first_round es hs hsz st lb r m x b round sl L q h1 ((hrow.fr hf2).frD q4 (fun b o n c e => by have := hrow.lt e; omega)) (fun b o n c e => by have := hrow.lt e; omega) (hm2.fr q4 (by omega) (by omega)) (by omega) q1 (by omega) ((q4.get _ (by omega) (by omega)).trans k0) ((q4.get _ (by omega) (by omega)).trans k1) ((q4.get _ (by omega) (by omega)).trans k2') ((q4.get _ (by omega) (by omega)).trans k3) q2 q3 (by omega) ?_ ?_
    · intro e h' r1 r2 r3 r4
      refine ⟨r1, .inl ⟨rfl, r2, r3, r4, q4.trans r1, fun y hy => ?_⟩⟩
      rw [List.take_add_one, hx] at hy
      rcases List.mem_append.1 hy with hy | hy
      · exact q5 y hy
      · simp at hy; subst hy; exact e
    · intro e h' r1 r2 r3 r4
      exact ⟨r1, .inr ⟨rfl, x, r2, r3, r4, find_at hx q5 e⟩⟩
  · exact ⟨gL2, k4, k5, .refl _ _, by simp⟩
  · intro h' hf hv
    refine ⟨hf, ?_⟩
    rcases hv with ⟨q1, q2, q3, q4, q5⟩ | ⟨x, q1, q2, q3, q4⟩
    · rw [List.take_length] at q5
      exact .inl ⟨q1, q2, q3, find_none q5⟩
    · exact .inr ⟨x, q1, q2, q3, q4⟩
  · rintro v h' ⟨hf, hv⟩
    have hfn := hf.next
    have hfin : ∀ o, Fr h (h'.put L o) := fun o => ⟨by simp; have := hf2.next; omega, fun i hi => by
      rw [zt (by omega), hf.get _ (by have := hf2.next; omega) (by omega)]; exact hf2.get _ hi⟩
    have hfin' : ∀ o o1 o2, Fr h (((h'.put L o).put (q + 1 + 1 + 1 + 1) o1).put (q + 1 + 1 + 1 + 1 + 1) o2) := fun o o1 o2 => ((hfin o).put (by omega) _).put (by omega) _
    rcases hv with ⟨q1, q2, q3, q4⟩ | ⟨x, q1, q2, q3, q4⟩
    · rw [zfN q1, s_l_0]
      refine OkV.eq (OkV.val (v := zcu none) (h := ((h'.put L (.loop .exhausted none (slF1 q) zdQ)).put (q + 1 + 1 + 1 + 1) (.cells (edL (0, 0, 0)) 0)).put (q + 1 + 1 + 1 + 1 + 1) (.cells [.bool false] 0)) (by rw [hPd]; exact ⟨by rw [q4], hfin' _ _ _⟩)) ?_
      have q2' : h'.get (q + 1 + 1 + 1 + 1) = some (.cells (edL (0, 0, 0)) 0) := q2
      have q3' : h'.get (q + 1 + 1 + 1 + 1 + 1) = some (.cells [.bool false] 0) := q3
      simp (disch := first | omega | (simp only [zb, za]; done) | (simp only [zb, za]; omega)) [q2', q3', zr, zcu, zcu.pairV']
    · rw [rgP_ret q1]
      refine OkV.eq (OkV.val (v := zcu (some x)) (h := h'.put L (.loop .exhausted (some .ret) (slF1 q) zdQ)) (by rw [hPd]; exact ⟨by rw [q4], hfin _⟩)) ?_
      have q2' : h'.get (q + 1 + 1 + 1 + 1) = some (.cells (edL x) 0) := q2
      have q3' : h'.get (q + 1 + 1 + 1 + 1 + 1) = some (.cells [.bool true] 0) := q3
      simp (disch := first | omega | (simp only [zb, za]; done) | (simp only [zb, za]; omega)) [q2', q3', zr, zcu, zcu.pairV']
end Go.Ideal.J
namespace Go.Ideal.J
open Go Go.Ideal
def zcE (r : Int → Int → Option Int) (es : List Ed) (n : Int) (a b : Int) : Bool := (r a b).isNone && ((zbl r es a b (n - 1)).isSome || (zbl r es b a (n - 1)).isSome)
def fndA (r : Int → Int → Option Int) (es : List Ed) (n : Int) (a b : Nat) : List (Int × Int) := ((List.range b).filter fun (b : Nat) => zcE r es n (a : Int) (b : Int)).map fun (b : Nat) => ((a : Int), (b : Int))
def fnd (r : Int → Int → Option Int) (es : List Ed) (n : Int) (a : Nat) : List (Int × Int) := (List.range a).flatMap fun a => fndA r es n a a
theorem fndA_succ (r : Int → Int → Option Int) (es : List Ed) (n : Int) (a b : Nat) : fndA r es n a (b + 1) = fndA r es n a b ++ if zcE r es n a b then [((a : Int), (b : Int))] else [] := by
  unfold fndA
  rw [List.range_succ, List.filter_append, List.map_append]
  congr 1
  by_cases e : zcE r es n (a : Int) (b : Int) = true
  · rw [if_pos e]; simp [e]
  · rw [if_neg e]; simp [e]
theorem fnd_succ (r : Int → Int → Option Int) (es : List Ed) (n : Int) (a : Nat) : fnd r es n (a + 1) = fnd r es n a ++ fndA r es n a a := by
  unfold fnd
  rw [List.range_succ, List.flatMap_append]
  simp
theorem fndA_len (r : Int → Int → Option Int) (es : List Ed) (n : Int) (a b : Nat) : (fndA r es n a b).length ≤ b := by
  unfold fndA
  rw [List.length_map]
  exact Nat.le_trans (List.length_filter_le _ _) (by simp)
theorem fnd_len (r : Int → Int → Option Int) (es : List Ed) (n : Int) {N : Nat} : ∀ a, a ≤ N → (fnd r es n a).length ≤ a * N
  | 0, _ => by simp [fnd]
  | a + 1, h => by
    rw [fnd_succ, List.length_append, Nat.succ_mul]
    have := fnd_len r es n (N := N) a (by omega)
    have := fndA_len r es n a a
    omega
abbrev prL (p : Int × Int) : List Value := [.int .i64 p.1, .int .i64 p.2]
theorem apart5 (es : List Ed) (hs : zbW es) (hsz : es.length ≤ 1000) (N : Nat) (hN : N ≤ 200) (lb : Int) (r : Int → Int → Option Int) (n : Int) (hn : 1 ≤ n ∧ n ≤ 1000000) (m pg : Nat) (sl : Value) (a : Nat) (haN : a < N) (rows : List (Int × Int)) (hrows : rows.length ≤ 100000) (h0 : H) (hrow : Row h0 3 sl (es.map edL)) (hm : MapM h0 m (rV r)) (hml : m < h0.next) (hgg : h0.get pg = some (.cells (gL (N : Int) lb sl) 0)) (hpg : pg < h0.next) (lo : Nat) (hlo : lo ≤ h0.next) (hmlo : m < lo) (hpglo : pg < lo) (hsllo : ∀ b o n c, sl = .slice (some ⟨b, o, none⟩) n c → b < lo) {P : Value → H → Prop}
    (hP : ∀ h' fv ob, FrD (fun j => lo ≤ j) h0 h' → Grow h' 2 fv ((rows ++ fndA r es n a a).map prL) ob → (∀ q, ob = some q → lo ≤ q) → OkV (sh (rI F) zhk (K_d_4 (rI F)) (setL [p1, p3, p4, p5, p18, p19] [ptr pg, .map (some m), .int .i64 n, fv, .int .i64 (N : Int), .int .i64 (a : Int)]) h') P) :
    ∀ (k b : Nat) (h : H) (fv : Value) (ob : Option Nat), b + k = a → FrD (fun j => lo ≤ j) h0 h → Grow h 2 fv ((rows ++ fndA r es n a b).map prL) ob → (∀ q, ob = some q → lo ≤ q) →
    OkV (sh (rI F) zhj (K_d_5 (rI F)) (setL [p1, p3, p4, p5, p6, p18, p19, p22, p23] [ptr pg, .map (some m), .int .i64 n, fv, .int .i64 (a : Int), .int .i64 (N : Int), .int .i64 (a : Int), .int .i64 (a : Int), .int .i64 (b : Int)]) h) P := by
  intro k
  induction k with
  | zero =>
    intro b h fv ob hb hf hg hob
    have e : b = a := by omega
    subst e
    rw [s_d_5]
    simp (disch := first | omega | (simp only [zb, za]; done) | (simp only [zb, za]; omega)) []
    exact hP h fv ob hf hg hob
  | succ k ih =>
    intro b h fv ob hb hf hg hob
    have hba : b < a := by omega
    have hfn := hf.next
    have hsucc := fndA_succ r es n a b
    have hv := hrow.slvM
    have hm1 := hm.fr hf hml (by omega)
    have hrow1 := hrow.frD hf (fun b o n c e => by have := hsllo b o n c e; omega)
    have gpg := (hf.get _ hpg (by omega)).trans hgg
    have hlk := look_ok hm1 (.int .i64 0) (a : Int) (b : Int)
    rw [s_d_5]
    have skip : zcE r es n a b = false → ∀ h', Fr h h' → OkV (sh (rI F) ziF (K_d_6 (rI F)) (setL [p1, p3, p4, p5, p6, p18, p19, p22, p23] [ptr pg, .map (some m), .int .i64 n, fv, .int .i64 (a : Int), .int .i64 (N : Int), .int .i64 (a : Int), .int .i64 (a : Int), .int .i64 (b : Int)]) h') P := by
      intro hc h' hf'
      rw [s_d_6]
      have := ih (b + 1) h' fv ob (by omega) (hf.trans hf'.D) (by rw [hsucc, hc]; simpa using hg.fr hf') hob
      refine OkV.eq (this.lp (l_d_5 F _ _ _ _ _ _ _ _ _ _)) ?_
      simp (disch := first | omega | (simp only [zb, za]; done) | (simp only [zb, za]; omega)) [zx]
    cases hr : r a b with
    | some v =>
      simp only [rV, hr, Option.map_none, Option.map_some, Option.getD_none, Option.getD_some, Option.isSome_none, Option.isSome_some] at hlk
      refine OkV.eq (skip (by simp [zcE, hr]) h (.refl _)) ?_
      simp (disch := first | omega | (simp only [zb, za]; done) | (simp only [zb, za]; omega)) [hba, hlk, zr]
    | none =>
      simp only [rV, hr, Option.map_none, Option.map_some, Option.getD_none, Option.getD_some, Option.isSome_none, Option.isSome_some] at hlk
      obtain ⟨h1, e1, hf1⟩ := first_ok es hs hsz (N : Int) lb r m (a : Int) (b : Int) (n - 1) sl h hrow1 hm1 (by omega)
      have hfn1 := hf1.next
      have take : zcE r es n a b = true → ∀ h', Fr h h' → OkV (sh (rI F) c_d_7 (K_d_7 (rI F)) (setL [p1, p3, p4, p5, p6, p7, p11, p18, p19, p22, p23] [ptr pg, .map (some m), .int .i64 n, fv, .int .i64 (a : Int), .int .i64 (b : Int), .bool true, .int .i64 (N : Int), .int .i64 (a : Int), .int .i64 (a : Int), .int .i64 (b : Int)]) h') P := by
        intro hc h' hf'
        rw [s_d_7]
        simp (disch := first | omega | (simp only [zb, za]; done) | (simp only [zb, za]; omega)) [zr, zk]
        obtain ⟨h2, eh2⟩ : ∃ h2, h2 = h'.new (.cells [.int .i64 (a : Int), .int .i64 (b : Int)] 0) := ⟨_, rfl⟩
        have hf2 : Fr h h2 := by rw [eh2]; exact hf'.newR _
        have hn2 : h2.next = h'.next + 1 := by rw [eh2]; simp
        have hfn' := hf'.next
        have hfl := fndA_len r es n a b
        obtain ⟨h3, fv', ea, hg3, hn3, hf3⟩ := zbC (h := h2) (sz := 2) (bytes := 16) (r := prL ((a : Int), (b : Int))) (b := h'.next) (e := 0) (by omega) (by decide) (hg.fr hf2) (by rw [eh2]; simp) rfl rfl rfl (by rw [List.length_map, List.length_append]; omega)
        rw [← eh2, ea]
        simp (disch := first | omega | (simp only [zb, za]; done) | (simp only [zb, za]; omega)) []
        rw [s_d_6]
        have := ih (b + 1) h3 fv' (some h2.next) (by omega) ⟨by omega, fun i hi hd => (hf3.get _ (by omega) (fun e => hd (hob _ e))).trans ((hf2.get _ (by omega)).trans (hf.get _ hi hd))⟩ (by rw [hsucc, if_pos hc, ← List.append_assoc, List.map_append]; exact hg3) (fun q e => by cases e; omega)
        refine OkV.eq (this.lp (l_d_5 F _ _ _ _ _ _ _ _ _ _)) ?_
        simp (disch := first | omega | (simp only [zb, za]; done) | (simp only [zb, za]; omega)) [zx]
      have leave : zcE r es n a b = false → ∀ h', Fr h h' → OkV (sh (rI F) c_d_7 (K_d_7 (rI F)) (setL [p1, p3, p4, p5, p6, p7, p11, p18, p19, p22, p23] [ptr pg, .map (some m), .int .i64 n, fv, .int .i64 (a : Int), .int .i64 (b : Int), .bool false, .int .i64 (N : Int), .int .i64 (a : Int), .int .i64 (a : Int), .int .i64 (b : Int)]) h') P := by
        intro hc h' hf'
        rw [s_d_7]
        simp (disch := first | omega | (simp only [zb, za]; done) | (simp only [zb, za]; omega)) []
        exact skip hc h' hf'
      cases h1c : zbl r es a b (n - 1) with
      | some x =>
        rw [h1c] at e1
        have hf1' : Fr h (h1.new (.cells (edL x) 0)) := hf1.newR _
        refine OkV.eq (take (by simp [zcE, hr, h1c]) _ hf1') ?_
        simp only [zcu, zcu.pairV'] at e1
        simp (disch := first | omega | (simp only [zb, za]; done) | (simp only [zb, za]; omega)) [hba, hlk, zr, gpg, hv.clean, hv.take, zdm, e1]
      | none =>
        rw [h1c] at e1
        simp only [zcu, zcu.pairV'] at e1
        have hf1' : Fr h (h1.new (.cells (edL (0, 0, 0)) 0)) := hf1.newR _
        obtain ⟨h2, e2, hf2⟩ := first_ok es hs hsz (N : Int) lb r m (b : Int) (a : Int) (n - 1) sl (h1.new (.cells (edL (0, 0, 0)) 0)) (hrow1.fr hf1') (hm1.fr (D := fun _ => False) hf1'.D (by omega) (by simp)) (by simp; omega)
        have gpg1 := (hf1.get _ (by omega)).trans gpg
        cases h2c : zbl r es b a (n - 1) with
        | some x =>
          rw [h2c] at e2
          simp only [zcu, zcu.pairV'] at e2
          refine OkV.eq (take (by simp [zcE, hr, h1c, h2c]) _ (hf1'.trans hf2)) ?_
          simp (disch := first | omega | (simp only [zb, za]; done) | (simp only [zb, za]; omega)) [hba, hlk, zr, gpg, gpg1, hv.clean, hv.take, zdm, e1, e2]
        | none =>
          rw [h2c] at e2
          simp only [zcu, zcu.pairV'] at e2
          refine OkV.eq (leave (by simp [zcE, hr, h1c, h2c]) _ (hf1'.trans hf2)) ?_
          simp (disch := first | omega | (simp only [zb, za]; done) | (simp only [zb, za]; omega)) [hba, hlk, zr, gpg, gpg1, hv.clean, hv.take, zdm, e1, e2]
end Go.Ideal.J
namespace Go.Ideal.J
open Go Go.Ideal
def setR (r : Int → Int → Option Int) (n : Int) (p : Int × Int) : Int → Int → Option Int := fun c d => if (c = p.1 ∧ d = p.2) ∨ (c = p.2 ∧ d = p.1) then some n else r c d
def zcG (r : Int → Int → Option Int) (n : Int) (l : List (Int × Int)) : Int → Int → Option Int := l.foldl (fun r p => setR r n p) r
theorem rV_set (r : Int → Int → Option Int) (n : Int) (p : Int × Int) : upd2 (upd2 (rV r) p.1 p.2 (.int .i64 n)) p.2 p.1 (.int .i64 n) = rV (setR r n p) := by
  funext c d
  unfold upd2 setR rV; dsimp only
  by_cases h1 : c = p.2 ∧ d = p.1
  · rw [if_pos h1, if_pos (.inr h1)]; rfl
  · rw [if_neg h1]
    by_cases h2 : c = p.1 ∧ d = p.2
    · rw [if_pos h2, if_pos (.inl h2)]; rfl
    · rw [if_neg h2, if_neg (fun h => h.elim h2 h1)]
theorem zbA (n : Int) : ∀ (l : List (Int × Int)) (r : Int → Int → Option Int) (c d : Int), zcG r n l c d = if (c, d) ∈ l ∨ (d, c) ∈ l then some n else r c d
  | [], r, c, d => by simp [zcG]
  | p :: l, r, c, d => by
    show zcG (setR r n p) n l c d = _
    rw [zbA n l]
    by_cases h : (c, d) ∈ l ∨ (d, c) ∈ l
    · rw [if_pos h, if_pos (h.imp (fun h => List.mem_cons_of_mem _ h) (fun h => List.mem_cons_of_mem _ h))]
    · rw [if_neg h]
      unfold setR
      by_cases h2 : (c = p.1 ∧ d = p.2) ∨ (c = p.2 ∧ d = p.1)
      · rw [if_pos h2, if_pos]
        rcases h2 with ⟨rfl, rfl⟩ | ⟨rfl, rfl⟩
        · exact .inl (by simp)
        · exact .inr (by simp)
      · rw [if_neg h2, if_neg]
        rintro (h3 | h3)
        · rcases List.mem_cons.1 h3 with h3 | h3
          · exact h2 (.inl ⟨by rw [← h3], by rw [← h3]⟩)
          · exact h (.inl h3)
        · rcases List.mem_cons.1 h3 with h3 | h3
          · exact h2 (.inr ⟨by rw [← h3], by rw [← h3]⟩)
          · exact h (.inr h3)
def rN (es : List Ed) (N : Nat) : Nat → Int → Int → Option Int
  | 0 => fun _ _ => none
  | k + 1 => zcG (rN es N k) ((k : Int) + 1) (fnd (rN es N k) es ((k : Int) + 1) N)
def allP (N : Nat) : List (Nat × Nat) := (List.range N).flatMap fun a => (List.range a).map fun b => (a, b)
def meas (N : Nat) (r : Int → Int → Option Int) : Nat := (allP N).countP fun p => (r p.1 p.2).isNone
theorem countP_le {α : Type} {p q : α → Bool} : ∀ {l : List α}, (∀ x ∈ l, q x = true → p x = true) → l.countP q ≤ l.countP p
  | [], _ => by simp
  | a :: l, h => by
    have ih := countP_le (l := l) fun x hx => h x (by simp [hx])
    have ha := h a (by simp)
    rw [List.countP_cons, List.countP_cons]
    cases hq : q a
    · simp; omega
    · rw [ha hq]; simp; omega
theorem countP_lt {α : Type} {p q : α → Bool} : ∀ {l : List α}, (∀ x ∈ l, q x = true → p x = true) → (∃ x ∈ l, p x = true ∧ q x = false) → l.countP q < l.countP p
  | [], _, ⟨x, hx, _⟩ => by cases hx
  | a :: l, h, ⟨x, hx, h1, h2⟩ => by
    have hle := countP_le (l := l) fun x hx => h x (by simp [hx])
    have ha := h a (by simp)
    rw [List.countP_cons, List.countP_cons]
    rcases List.mem_cons.1 hx with rfl | hx
    · rw [h1, h2]; simp; omega
    · have := countP_lt (l := l) (fun x hx => h x (by simp [hx])) ⟨x, hx, h1, h2⟩
      cases hq : q a
      · simp; omega
      · rw [ha hq]; simp; omega
theorem mem_allP {N a b : Nat} : (a, b) ∈ allP N ↔ a < N ∧ b < a := by
  unfold allP
  rw [List.mem_flatMap]
  constructor
  · rintro ⟨a', h1, h2⟩
    obtain ⟨b', h3, h4⟩ := List.mem_map.1 h2
    cases h4
    exact ⟨List.mem_range.1 h1, List.mem_range.1 h3⟩
  · rintro ⟨h1, h2⟩
    exact ⟨a, List.mem_range.2 h1, List.mem_map.2 ⟨b, List.mem_range.2 h2, rfl⟩⟩
theorem zdl {r : Int → Int → Option Int} {es : List Ed} {n : Int} {N : Nat} {p : Int × Int} : p ∈ fnd r es n N ↔ ∃ a b : Nat, p = ((a : Int), (b : Int)) ∧ a < N ∧ b < a ∧ zcE r es n a b = true := by
  unfold fnd fndA
  rw [List.mem_flatMap]
  constructor
  · rintro ⟨a, h1, h2⟩
    obtain ⟨b, h3, rfl⟩ := List.mem_map.1 h2
    obtain ⟨h4, h5⟩ := List.mem_filter.1 h3
    exact ⟨a, b, rfl, List.mem_range.1 h1, List.mem_range.1 h4, h5⟩
  · rintro ⟨a, b, rfl, h1, h2, h3⟩
    exact ⟨a, List.mem_range.2 h1, List.mem_map.2 ⟨b, List.mem_filter.2 ⟨List.mem_range.2 h2, h3⟩, rfl⟩⟩
theorem meas_lt {r : Int → Int → Option Int} {es : List Ed} {n : Int} {N : Nat} (h : fnd r es n N ≠ []) : meas N (zcG r n (fnd r es n N)) < meas N r := by
  unfold meas
  refine countP_lt (fun x hx hq => ?_) ?_
  · rw [zbA] at hq
    split at hq
    · cases hq
    · exact hq
  · obtain ⟨p, l, e⟩ := List.exists_cons_of_ne_nil h
    have hp : p ∈ fnd r es n N := by rw [e]; simp
    obtain ⟨a, b, rfl, h1, h2, h3⟩ := zdl.1 hp
    refine ⟨(a, b), mem_allP.2 ⟨h1, h2⟩, ?_, ?_⟩
    · unfold zcE at h3
      rw [Bool.and_eq_true] at h3
      exact h3.1
    · rw [zbA, if_pos (.inl hp)]; rfl
theorem apart8 (n : Int) (m pg : Nat) (l : List (Int × Int)) (hl : l.length ≤ 100000) (fv : Value) (h0 : H) (hrow : Row h0 2 fv (l.map prL)) (hfm : ∀ b o n c, fv = .slice (some ⟨b, o, none⟩) n c → b ≠ m) (hml : m < h0.next) {P : Value → H → Prop} (r : Int → Int → Option Int)
    (hP : ∀ h', FrD (fun j => j = m) h0 h' → MapM h' m (rV (zcG r n l)) → OkV (sh (rI F) c_d_1 (K_d_1 (rI F)) (setL [p1, p3, p4] [ptr pg, .map (some m), .int .i64 n]) h') P) :
    ∀ (k i : Nat) (h : H), i + k = l.length → FrD (fun j => j = m) h0 h → MapM h m (rV (zcG r n (l.take i))) →
    OkV (sh (rI F) zhi (K_d_8 (rI F)) (setL [p1, p3, p4, p70, p71, p72] [ptr pg, .map (some m), .int .i64 n, fv, .int .i64 (l.length : Int), .int .i64 (i : Int)]) h) P := by
  intro k
  induction k with
  | zero =>
    intro i h hi hf hm
    have e : i = l.length := by omega
    subst e
    rw [List.take_length] at hm
    rw [s_d_8]
    simp (disch := first | omega | (simp only [zb, za]; done) | (simp only [zb, za]; omega)) []
    exact hP h hf hm
  | succ k ih =>
    intro i h hi hf hm
    have hil : i < l.length := by omega
    have hx : (l.map prL)[i]? = some (prL l[i]) := by simp [hil]
    have htk : l.take (i + 1) = l.take i ++ [l[i]] := by rw [List.take_add_one, List.getElem?_eq_getElem hil]; rfl
    obtain ⟨b, o, cs, e, hv, hb, hg, htc⟩ := (hrow.frD hf hfm).index hx
    generalize l[i] = p at *
    obtain ⟨p1', p2'⟩ := p
    have hfn := hf.next
    obtain ⟨h1, eh1⟩ : ∃ h1, h1 = h.new (.cells [.int .i64 p1', .int .i64 p2'] 0) := ⟨_, rfl⟩
    have hf1 : Fr h h1 := by rw [eh1]; exact .new _ _
    have hn1 : h1.next = h.next + 1 := by rw [eh1]; simp
    have gp1 : h1.get h.next = some (.cells [.int .i64 p1', .int .i64 p2'] 0) := by rw [eh1]; simp
    obtain ⟨o1, e1, hm1⟩ := upd_ok (hm.fr (D := fun _ => False) hf1.D (by omega) (by simp)) p1' p2' (.int .i64 n)
    have gp2 : (h1.put m o1).get h.next = some (.cells [.int .i64 p1', .int .i64 p2'] 0) := by rw [zt (by omega)]; exact gp1
    obtain ⟨o2, e2, hm2⟩ := upd_ok hm1 p2' p1' (.int .i64 n)
    rw [put_put] at e2 hm2
    rw [rV_set _ n (p1', p2')] at hm2
    have := ih (i + 1) (h1.put m o2) (by omega) ((hf.trans hf1.D).put (.inr rfl) _) (by
      rw [htk]
      show MapM _ _ (rV ((l.take i ++ [(p1', p2')]).foldl (fun r p => setR r n p) r))
      rw [List.foldl_append]; exact hm2)
    rw [s_d_8]
    refine OkV.eq (this.lp (l_d_8 F _ _ _ _ _ _ _)) ?_
    have a1 : ∀ h' : H, zch 2 1 (ptr h.next) (.int .i64 1) h' = some (.pointer (some ⟨h.next, 0 + 1 * 1, none⟩), h') := fun h' => rfl
    have a0 : ∀ h' : H, zch 2 1 (ptr h.next) (.int .i64 0) h' = some (.pointer (some ⟨h.next, 0 + 0 * 1, none⟩), h') := fun h' => rfl
    simp (disch := first | omega | (simp only [zb, za]; done) | (simp only [zb, za]; omega)) [hil, hv, hg, htc, ← eh1, gp1, e1, gp2, zr, e2, zx, a1, a0]
theorem apart3 (es : List Ed) (hs : zbW es) (hsz : es.length ≤ 1000) (N : Nat) (hN : N ≤ 200) (lb : Int) (r : Int → Int → Option Int) (n : Int) (hn : 1 ≤ n ∧ n ≤ 1000000) (m pg : Nat) (sl : Value) (h0 : H) (hrow : Row h0 3 sl (es.map edL)) (hm : MapM h0 m (rV r)) (hml : m < h0.next) (hgg : h0.get pg = some (.cells (gL (N : Int) lb sl) 0)) (hpg : pg < h0.next) (lo : Nat) (hlo : lo ≤ h0.next) (hmlo : m < lo) (hpglo : pg < lo) (hsllo : ∀ b o n c, sl = .slice (some ⟨b, o, none⟩) n c → b < lo) {P : Value → H → Prop}
    (hP : ∀ h' fv ob, FrD (fun j => lo ≤ j) h0 h' → Grow h' 2 fv ((fnd r es n N).map prL) ob → (∀ q, ob = some q → lo ≤ q) → OkV (sh (rI F) zgz (zi7 (rI F)) (setL [p1, p3, p4, p5] [ptr pg, .map (some m), .int .i64 n, fv]) h') P) :
    ∀ (k a : Nat) (h : H) (fv : Value) (ob : Option Nat), a + k = N → FrD (fun j => lo ≤ j) h0 h → Grow h 2 fv ((fnd r es n a).map prL) ob → (∀ q, ob = some q → lo ≤ q) →
    OkV (sh (rI F) zhl (K_d_3 (rI F)) (setL [p1, p3, p4, p5, p18, p19] [ptr pg, .map (some m), .int .i64 n, fv, .int .i64 (N : Int), .int .i64 (a : Int)]) h) P := by
  intro k
  induction k with
  | zero =>
    intro a h fv ob ha hf hg hob
    have e : a = N := by omega
    subst e
    rw [s_d_3]
    simp (disch := first | omega | (simp only [zb, za]; done) | (simp only [zb, za]; omega)) []
    exact hP h fv ob hf hg hob
  | succ k ih =>
    intro a h fv ob ha hf hg hob
    have haN : a < N := by omega
    have hfn := hf.next
    have hfl := fnd_len r es n (N := N) a (by omega)
    have hNN : a * N ≤ 200 * 200 := Nat.mul_le_mul (by omega) hN
    rw [s_d_3]
    have := apart5 es hs hsz N hN lb r n hn m pg sl a haN (fnd r es n a) (by omega) h (hrow.frD hf (fun b o n c e => by have := hsllo b o n c e; omega)) (hm.fr hf hml (by omega)) (by omega) ((hf.get _ hpg (by omega)).trans hgg) (by omega) lo (by omega) hmlo hpglo hsllo (P := P)
      (fun h' fv' ob' hf' hg' hob' => by
        rw [s_d_4]
        have := ih (a + 1) h' fv' ob' (by omega) (hf.trans hf') (by rw [fnd_succ]; exact hg') hob'
        refine OkV.eq (this.lp (l_d_3 F _ _ _ _ _ _ _)) ?_
        simp (disch := first | omega | (simp only [zb, za]; done) | (simp only [zb, za]; omega)) [zx]) a 0 h fv ob (by omega) (.refl _ _) (by simpa [fndA] using hg) hob
    refine OkV.eq (this.lp (l_d_5 F _ _ _ _ _ _ _ _ _ _)) ?_
    simp (disch := first | omega | (simp only [zb, za]; done) | (simp only [zb, za]; omega)) [haN]
theorem apart0 (es : List Ed) (hs : zbW es) (hsz : es.length ≤ 1000) (N : Nat) (hN : N ≤ 200) (lb : Int) (m pg : Nat) (sl : Value) (h0 : H) (hrow : Row h0 3 sl (es.map edL)) (hml : m < h0.next) (hgg : h0.get pg = some (.cells (gL (N : Int) lb sl) 0)) (hpg : pg < h0.next) (hsl : ∀ b o n c, sl = .slice (some ⟨b, o, none⟩) n c → b ≠ m) (hpm : pg ≠ m) {P : Value → H → Prop}
    (hP : ∀ h' k, FrD (fun j => j = m) h0 h' → MapM h' m (rV (rN es N k)) → fnd (rN es N k) es ((k : Int) + 1) N = [] → P (.map (some m)) h') :
    ∀ (μ k : Nat) (h : H), meas N (rN es N k) = μ → k + μ ≤ 100000 → FrD (fun j => j = m) h0 h → MapM h m (rV (rN es N k)) →
    OkV (sh (rI F) zhm (K_d_0 (rI F)) (setL [p1, p3, p4] [ptr pg, .map (some m), .int .i64 ((k : Int) + 1)]) h) P := by
  intro μ
  induction μ using Nat.strongRecOn with
  | _ μ ih =>
    intro k h hμ hk hf hm
    have hfn := hf.next
    have gpg := (hf.get _ hpg hpm).trans hgg
    have hrow1 := hrow.frD hf hsl
    rw [s_d_0]
    have := apart3 es hs hsz N hN lb (rN es N k) ((k : Int) + 1) (by omega) m pg sl h hrow1 hm (by omega) gpg (by omega) h.next (Nat.le_refl _) (by omega) (by omega) (fun b o n c e => hrow1.lt e) (P := P)
      (fun h' fv ob hf' hg' hob' => by
        have hfn' := hf'.next
        have hff : Fr h h' := hf'.fr (by omega)
        have hv := hg'.slvM
        rw [s_d_2]
        by_cases hnil : fnd (rN es N k) es ((k : Int) + 1) N = []
        · have hl0 : (fnd (rN es N k) es ((k : Int) + 1) N).length = 0 := by rw [hnil]; rfl
          refine OkV.eq (OkV.val (hP h' k (hf.trans hff.D) (hm.fr (D := fun _ => False) hff.D (by omega) (by simp)) hnil)) ?_
          simp (disch := first | omega | (simp only [zb, za]; done) | (simp only [zb, za]; omega)) [hv.len, hl0]
        · have hl0 : ¬ ((fnd (rN es N k) es ((k : Int) + 1) N).length : Int) = 0 := by
            have := List.length_pos_iff.2 hnil; omega
          have hfl := fnd_len (rN es N k) es ((k : Int) + 1) (N := N) N (Nat.le_refl _)
          have hNN : N * N ≤ 200 * 200 := Nat.mul_le_mul hN hN
          have hlt := meas_lt hnil
          have h8 := apart8 ((k : Int) + 1) m pg (fnd (rN es N k) es ((k : Int) + 1) N) (by omega) fv h' (hg'.row (by omega)) (fun b o n c e => by have := hob' _ (hg'.block e); omega) (by omega) (P := P) (rN es N k)
            (fun h'' hf'' hm'' => by
              rw [s_d_1]
              have := ih (meas N (rN es N (k + 1))) (by rw [← hμ]; exact hlt) (k + 1) h'' rfl (by
                have : meas N (rN es N (k + 1)) < μ := by rw [← hμ]; exact hlt
                omega) ((hf.trans hff.D).trans hf'') hm''
              refine OkV.eq (this.lp (l_d_0 F _ _ _ _)) ?_
              simp (disch := first | omega | (simp only [zb, za]; done) | (simp only [zb, za]; omega)) [zx]) (fnd (rN es N k) es ((k : Int) + 1) N).length 0 h' (by omega) (.refl _ _) (by simpa [zcG] using hm.fr (D := fun _ => False) hff.D (by omega) (by simp))
          refine OkV.eq (h8.lp (l_d_8 F _ _ _ _ _ _ _)) ?_
          have hl0' : ¬ (fnd (rN es N k) es ((k : Int) + 1) N) = [] := hnil
          simp (disch := first | omega | (simp only [zb, za]; done) | (simp only [zb, za]; omega)) [hv.len, hl0, hl0']) N 0 h (.slice none 0 0) none (by omega) (.refl _ _) (by simpa [fnd] using Grow.nil) (by simp)
    refine OkV.eq (this.lp (l_d_3 F _ _ _ _ _ _ _)) ?_
    simp (disch := first | omega | (simp only [zb, za]; done) | (simp only [zb, za]; omega)) [gpg]
theorem meas_le (N : Nat) (r : Int → Int → Option Int) : meas N r ≤ N * N := by
  have : (allP N).length ≤ N * N := by
    unfold allP
    have key : ∀ n, n ≤ N → ((List.range n).flatMap fun a => (List.range a).map fun b => (a, b)).length ≤ n * N := by
      intro n
      induction n with
      | zero => intro _; simp
      | succ n ih =>
        intro h
        rw [List.range_succ, List.flatMap_append, List.length_append, Nat.succ_mul]
        have := ih (by omega)
        simp only [List.flatMap_cons, List.flatMap_nil, List.append_nil, List.length_map, List.length_range]
        omega
    exact key N (Nat.le_refl _)
  exact Nat.le_trans List.countP_le_length this
theorem apart_ok (es : List Ed) (hs : zbW es) (hsz : es.length ≤ 1000) (N : Nat) (hN : N ≤ 200) (lb : Int) (sl : Value) (h : H) (hrow : Row h 3 sl (es.map edL)) {P : Value → H → Prop}
    (hP : ∀ h' m k, Fr h h' → h.next ≤ m → m < h'.next → MapM h' m (rV (rN es N k)) → fnd (rN es N k) es ((k : Int) + 1) N = [] → P (.map (some m)) h') : Ret F (fnV n_d) [gV (N : Int) lb sl] h P := by
  refine Ret.fn F_d 1 (by decide) ?_
  rw [s_d]
  obtain ⟨h2, eh2⟩ : ∃ h2, h2 = (h.new (.cells (gL (N : Int) lb sl) 0)).new (.map [] 0) := ⟨_, rfl⟩
  have hf2 : Fr h h2 := by rw [eh2]; exact (Fr.new _ _).newR _
  have hn2 : h2.next = h.next + 2 := by rw [eh2]; simp
  have hNN : N * N ≤ 200 * 200 := Nat.mul_le_mul hN hN
  have := apart0 es hs hsz N hN lb (h.next + 1) h.next sl h2 (hrow.fr hf2) (by omega) (by rw [eh2]; simp (disch := omega)) (by omega) (fun b o n c e => by have := hrow.lt e; omega) (by omega) (P := P) (fun h' k hf' hm' hk => hP h' (h.next + 1) k ⟨by have := hf'.next; omega, fun i hi => (hf'.get _ (by omega) (by omega)).trans (hf2.get _ hi)⟩ (by omega) (by have := hf'.next; omega) hm' hk) (meas N (rN es N 0)) 0 h2 rfl (by have := meas_le N (rN es N 0); omega) (.refl _ _) ⟨[], 0, by rw [eh2]; simp (disch := omega), .nil⟩
  refine OkV.eq (this.lp (l_d_0 F _ _ _ _)) ?_
  rw [eh2]
  simp (disch := first | omega | (simp only [zb, za]; done) | (simp only [zb, za]; omega)) []
end Go.Ideal.J
namespace Go.Ideal.J
open Go Go.Ideal
theorem appended_row {h : H} {sz : Nat} {v : Value} {rows : List (List Value)} (hr : Row h sz v rows) (hl : ∀ r ∈ rows, r.length = sz ∧ r.all zR = true) : zcL h sz v = some (rows.length, rows.flatten) := by
  cases hr with
  | nil => rfl
  | hole => rfl
  | @cells b off cap e cs rows hlt hg hrd hcap =>
    by_cases hz : rows = []
    · subst hz; rfl
    have hz' : ¬ Nat.beq rows.length 0 = true := fun e => hz (List.eq_nil_of_length_eq_zero (Nat.eq_of_beq_eq_true e))
    show (if Nat.beq rows.length 0 = true then some (0, []) else (h.readN b off (rows.length * sz)).map _) = _
    rw [if_neg hz', readN_of hg]
    have key : ∀ (rows : List (List Value)) (off : Nat), (∀ r ∈ rows, r.length = sz ∧ r.all zR = true) → (∀ i r, rows[i]? = some r → zO sz (zbh (off + i * sz) cs) = some r) → zO (rows.length * sz) (zbh off cs) = some rows.flatten := by
      intro rows
      induction rows with
      | nil => intro off _ _; simp [takeC_z]
      | cons r rows ih =>
        intro off hl hrd
        have h0 := hrd 0 r rfl
        rw [Nat.zero_mul, Nat.add_zero] at h0
        have h1 := ih (off + sz) (fun x hx => hl x (by simp [hx])) (fun i x hx => by
          have := hrd (i + 1) x (by simpa using hx)
          rwa [Nat.succ_mul, Nat.add_comm (i * sz) sz, ← Nat.add_assoc] at this)
        have hr := hl r (by simp)
        have t0 := (zcN h0).1
        have t1 := (zcN h1).1
        rw [zdK, zdh] at t0 t1
        split at t0
        · split at t1
          · rename_i l0 l1
            rw [List.flatten_cons, List.length_cons, Nat.succ_mul]
            have e0 := Option.some.inj t0
            have e1 := Option.some.inj t1
            refine takeC_of ?_ ?_
            · rw [zdK, zdh, if_pos (by rw [List.length_drop] at *; omega)]
              congr 1
              rw [Nat.add_comm, List.take_add, e0, List.drop_drop, e1]
            · rw [List.all_append, hr.2, zgq (fun x hx => (hl x (by simp [hx])).2)]; rfl
          · cases t1
        · cases t0
    rw [key rows off hl hrd]; rfl
end Go.Ideal.J
namespace Go.Ideal.J
open Go Go.Ideal
end Go.Ideal.J
namespace Go.Ideal.J
open Go Go.Ideal
def IsBis (es : List Ed) (R : Int → Int → Prop) : Prop :=
  ∀ a b, R a b → (∀ x ∈ outs es a, ∃ t ∈ tos es b x.2.2, R x.2.1 t) ∧ (∀ y ∈ outs es b, ∃ t ∈ tos es a y.2.2, R t y.2.1)
def Bis (es : List Ed) (a b : Int) : Prop := ∃ R, IsBis es R ∧ R a b
theorem Bis.symm {es : List Ed} {a b : Int} (h : Bis es a b) : Bis es b a := by
  obtain ⟨R, hR, h⟩ := h
  exact ⟨fun x y => R y x, fun x y hxy => ⟨(hR y x hxy).2, (hR y x hxy).1⟩, h⟩
theorem zie (es : List Ed) : IsBis es (Bis es) := by
  rintro a b ⟨R, hR, h⟩
  obtain ⟨h1, h2⟩ := hR a b h
  refine ⟨fun x hx => ?_, fun y hy => ?_⟩
  · obtain ⟨t, ht, hr⟩ := h1 x hx; exact ⟨t, ht, R, hR, hr⟩
  · obtain ⟨t, ht, hr⟩ := h2 y hy; exact ⟨t, ht, R, hR, hr⟩
theorem zbI {es : List Ed} {a : Int} {x : Ed} : x ∈ outs es a ↔ x ∈ es ∧ x.1 = a := by
  unfold outs; rw [List.mem_filter]; simp
theorem zdj {es : List Ed} {N : Nat} : ∀ {k : Nat} {a b : Int} {v : Int}, rN es N k a b = some v → v ≤ k ∧ a ≠ b ∧ ¬ Bis es a b
  | 0, a, b, v, h => by cases h
  | k + 1, a, b, v, h => by
    have h : zcG (rN es N k) ((k : Int) + 1) (fnd (rN es N k) es ((k : Int) + 1) N) a b = some v := h
    rw [zbA] at h
    have step : ∀ a b : Int, (a, b) ∈ fnd (rN es N k) es ((k : Int) + 1) N → a ≠ b ∧ ¬ Bis es a b := by
      intro a b hm
      obtain ⟨c, d, e, h1, h2, h3⟩ := zdl.1 hm
      cases e
      refine ⟨by omega, fun hb => ?_⟩
      unfold zcE at h3
      simp only [Bool.and_eq_true, Bool.or_eq_true] at h3
      have key : ∀ p q : Int, (zbl (rN es N k) es p q ((k : Int) + 1 - 1)).isSome = true → ¬ Bis es p q := by
        intro p q hf hb
        obtain ⟨x, hx⟩ := Option.isSome_iff_exists.1 hf
        have h4 := List.find?_some hx
        have h5 := List.mem_of_find?_eq_some hx
        obtain ⟨t, ht, hbt⟩ := (zie es p q hb).1 x h5
        have h6 := List.all_eq_true.1 h4 t ht
        unfold zbL at h6
        cases hr : rN es N k x.2.1 t with
        | none => rw [hr] at h6; simp at h6
        | some u => exact (zdj hr).2.2 hbt
      rcases h3.2 with h | h
      · exact key _ _ h hb
      · exact key _ _ h hb.symm
    split at h
    · rename_i hm
      cases h
      refine ⟨by omega, ?_⟩
      rcases hm with hm | hm
      · exact step a b hm
      · obtain ⟨h1, h2⟩ := step b a hm
        exact ⟨fun e => h1 e.symm, fun hb => h2 hb.symm⟩
    · obtain ⟨h1, h2⟩ := zdj h
      exact ⟨by omega, h2⟩
theorem zdR {es : List Ed} {N : Nat} : ∀ (k : Nat) (a b : Int), rN es N k a b = rN es N k b a
  | 0, _, _ => rfl
  | k + 1, a, b => by
    show zcG _ _ _ a b = zcG _ _ _ b a
    rw [zbA, zbA, zdR k a b]
    congr 1
    exact propext Or.comm
theorem rN_none {es : List Ed} {N k : Nat} (hin : inB (N : Int) es) (hk : fnd (rN es N k) es ((k : Int) + 1) N = []) {a b : Int} (ha : 0 ≤ a ∧ a < N) (hb : 0 ≤ b ∧ b < N) : (rN es N k a b).isNone = true ↔ Bis es a b := by
  constructor
  · intro h0
    refine ⟨fun a b => 0 ≤ a ∧ a < N ∧ 0 ≤ b ∧ b < N ∧ rN es N k a b = none, ?_, ha.1, ha.2, hb.1, hb.2, by simpa using h0⟩
    have half : ∀ a b : Int, 0 ≤ a ∧ a < N ∧ 0 ≤ b ∧ b < N ∧ rN es N k a b = none → zbl (rN es N k) es a b k = none → ∀ x ∈ outs es a, ∃ t ∈ tos es b x.2.2, 0 ≤ x.2.1 ∧ x.2.1 < N ∧ 0 ≤ t ∧ t < N ∧ rN es N k x.2.1 t = none := by
      intro a b hab hf x hx
      have h1 := List.find?_eq_none.1 hf x hx
      have h2 : ∃ t ∈ tos es b x.2.2, zbL (rN es N k) k x.2.1 t = false := by
        rw [Bool.not_eq_true] at h1
        unfold zfE at h1
        rw [List.all_eq_false] at h1
        obtain ⟨t, ht, hh⟩ := h1
        exact ⟨t, ht, by simpa using hh⟩
      obtain ⟨t, ht, htt⟩ := h2
      have hxi := hin x (zbI.1 hx).1
      obtain ⟨y, hy, _, _, rfl⟩ := zdk.1 ht
      have hyi := hin y hy
      refine ⟨_, ht, hxi.2.2.1, hxi.2.2.2, hyi.2.2.1, hyi.2.2.2, ?_⟩
      cases hr : rN es N k x.2.1 y.2.1 with
      | none => rfl
      | some u =>
        obtain ⟨h3, h4, _⟩ := zdj hr
        unfold zbL at htt
        rw [hr] at htt
        simp [h3, h4] at htt
    have first_nil : ∀ a b : Int, 0 ≤ a ∧ a < N ∧ 0 ≤ b ∧ b < N ∧ rN es N k a b = none → a ≠ b → zbl (rN es N k) es a b k = none ∧ zbl (rN es N k) es b a k = none := by
      intro a b ⟨h1, h2, h3, h4, h5⟩ hne
      obtain ⟨a, rfl⟩ := Int.eq_ofNat_of_zero_le h1
      obtain ⟨b, rfl⟩ := Int.eq_ofNat_of_zero_le h3
      have ek : ((k : Int) + 1 - 1) = k := by omega
      have main : ∀ a b : Nat, a < N → b < a → rN es N k a b = none → zbl (rN es N k) es a b k = none ∧ zbl (rN es N k) es b a k = none := by
        intro a b h2 hlt h5
        have hc : zcE (rN es N k) es ((k : Int) + 1) a b = false := by
          rw [Bool.eq_false_iff]
          intro hc
          have : ((a : Int), (b : Int)) ∈ fnd (rN es N k) es ((k : Int) + 1) N := zdl.2 ⟨a, b, rfl, h2, hlt, hc⟩
          rw [hk] at this; cases this
        unfold zcE at hc
        rw [h5, ek] at hc
        simp at hc
        exact hc
      rcases Nat.lt_or_gt_of_ne (fun e : a = b => hne (by rw [e])) with h | h
      · have := main b a (by omega) h (by rw [zdR]; exact h5)
        exact ⟨this.2, this.1⟩
      · exact main a b (by omega) h h5
    rintro a b hab
    by_cases hne : a = b
    · subst hne
      refine ⟨fun x hx => ?_, fun x hx => ?_⟩
      · have hx' := zbI.1 hx
        have hxi := hin x hx'.1
        refine ⟨x.2.1, zdk.2 ⟨x, hx'.1, hx'.2, rfl, rfl⟩, hxi.2.2.1, hxi.2.2.2, hxi.2.2.1, hxi.2.2.2, ?_⟩
        cases hr : rN es N k x.2.1 x.2.1 with
        | none => rfl
        | some u => exact absurd rfl (zdj hr).2.1
      · have hx' := zbI.1 hx
        have hxi := hin x hx'.1
        refine ⟨x.2.1, zdk.2 ⟨x, hx'.1, hx'.2, rfl, rfl⟩, hxi.2.2.1, hxi.2.2.2, hxi.2.2.1, hxi.2.2.2, ?_⟩
        cases hr : rN es N k x.2.1 x.2.1 with
        | none => rfl
        | some u => exact absurd rfl (zdj hr).2.1
    · obtain ⟨f1, f2⟩ := first_nil a b hab hne
      refine ⟨half a b hab f1, fun y hy => ?_⟩
      obtain ⟨t, ht, h1, h2, h3, h4, h5⟩ := half b a ⟨hab.2.2.1, hab.2.2.2.1, hab.1, hab.2.1, by rw [zdR]; exact hab.2.2.2.2⟩ f2 y hy
      exact ⟨t, ht, h3, h4, h1, h2, by rw [zdR]; exact h5⟩
  · intro hb'
    cases hr : rN es N k a b with
    | none => rfl
    | some v => exact absurd hb' (zdj hr).2.2
end Go.Ideal.J
namespace Go.Ideal.J
open Go Go.Ideal
theorem Bis.refl (es : List Ed) (a : Int) : Bis es a a :=
  ⟨fun a b => a = b, fun a b e => by
    subst e
    refine ⟨fun x hx => ⟨x.2.1, ?_, rfl⟩, fun x hx => ⟨x.2.1, ?_, rfl⟩⟩ <;>
    · obtain ⟨h1, h2⟩ := zbI.1 hx
      exact zdk.2 ⟨x, h1, h2, rfl, rfl⟩, rfl⟩
theorem Bis.trans {es : List Ed} {a b c : Int} (h1 : Bis es a b) (h2 : Bis es b c) : Bis es a c := by
  refine ⟨fun a c => ∃ b, Bis es a b ∧ Bis es b c, ?_, b, h1, h2⟩
  rintro a c ⟨b, h1, h2⟩
  obtain ⟨p1, p2⟩ := zie es a b h1
  obtain ⟨q1, q2⟩ := zie es b c h2
  refine ⟨fun x hx => ?_, fun y hy => ?_⟩
  · obtain ⟨t, ht, r⟩ := p1 x hx
    obtain ⟨z, hz, e1, e2, rfl⟩ := zdk.1 ht
    obtain ⟨u, hu, s⟩ := q1 z (zbI.2 ⟨hz, e1⟩)
    rw [e2] at hu
    exact ⟨u, hu, z.2.1, r, s⟩
  · obtain ⟨t, ht, r⟩ := q2 y hy
    obtain ⟨z, hz, e1, e2, rfl⟩ := zdk.1 ht
    obtain ⟨u, hu, s⟩ := p2 z (zbI.2 ⟨hz, e1⟩)
    rw [e2] at hu
    exact ⟨u, hu, z.2.1, s, r⟩
def cls (B : Nat → Nat → Bool) : Nat → List Nat × List Nat
  | 0 => ([], [])
  | n + 1 => match (cls B n).2.findIdx? fun h => B h n with
    | some k => ((cls B n).1 ++ [k], (cls B n).2)
    | none => ((cls B n).1 ++ [(cls B n).2.length], (cls B n).2 ++ [n])
theorem cls_s (B : Nat → Nat → Bool) (n : Nat) : cls B (n + 1) = match (cls B n).2.findIdx? fun h => B h n with
    | some k => ((cls B n).1 ++ [k], (cls B n).2)
    | none => ((cls B n).1 ++ [(cls B n).2.length], (cls B n).2 ++ [n]) := rfl
structure Eqv (B : Nat → Nat → Bool) (N : Nat) : Prop where
  refl : ∀ a, a < N → B a a = true
  symm : ∀ a b, a < N → b < N → B a b = true → B b a = true
  trans : ∀ a b c, a < N → b < N → c < N → B a b = true → B b c = true → B a c = true
structure CI (B : Nat → Nat → Bool) (n : Nat) (c : List Nat × List Nat) : Prop where
  len : c.1.length = n
  hn : c.2.length ≤ n
  hd : ∀ (k h : Nat), c.2[k]? = some h → h < n
  ck : ∀ (i v : Nat), c.1[i]? = some v → v < c.2.length
  iff : ∀ (i v k h : Nat), c.1[i]? = some v → c.2[k]? = some h → (v = k ↔ B h i = true)
theorem zdM {α : Type} {l : List α} {a x : α} {i : Nat} (h : (l ++ [a])[i]? = some x) : (i < l.length ∧ l[i]? = some x) ∨ (i = l.length ∧ a = x) := by
  rcases Nat.lt_trichotomy i l.length with c | c | c
  · rw [List.getElem?_append_left c] at h; exact .inl ⟨c, h⟩
  · subst c; simp at h; exact .inr ⟨rfl, h⟩
  · rw [List.getElem?_eq_none (by simp; omega)] at h; cases h
theorem zdg {α : Type} {p : α → Bool} : ∀ {l : List α} {k : Nat}, l.findIdx? p = some k → ∃ x, l[k]? = some x ∧ p x = true
  | [], k, h => by simp at h
  | a :: l, k, h => by
    rw [List.findIdx?_cons] at h
    split at h
    · rename_i c; cases h; exact ⟨a, rfl, c⟩
    · cases hq : l.findIdx? p with
      | none => rw [hq] at h; cases h
      | some j =>
        rw [hq] at h; cases h
        obtain ⟨x, h1, h2⟩ := zdg hq
        exact ⟨x, by simpa using h1, h2⟩
theorem zer {α : Type} {p : α → Bool} : ∀ {l : List α}, l.findIdx? p = none → ∀ (k : Nat) (x : α), l[k]? = some x → p x = false
  | [], h, k, x, hk => by simp at hk
  | a :: l, h, k, x, hk => by
    rw [List.findIdx?_cons] at h
    split at h
    · cases h
    · rename_i c
      cases hq : l.findIdx? p with
      | some j => rw [hq] at h; cases h
      | none =>
        cases k with
        | zero => simp at hk; subst hk; simpa using c
        | succ k => exact zer hq k x (by simpa using hk)
theorem zgY {B : Nat → Nat → Bool} {N : Nat} (hB : Eqv B N) : ∀ n, n ≤ N → CI B n (cls B n)
  | 0, _ => ⟨rfl, Nat.le_refl _, by simp [cls], by simp [cls], by simp [cls]⟩
  | n + 1, hnN => by
    obtain ⟨c1, c2, c3, c4, c5⟩ := zgY hB n (by omega)
    rw [cls_s]
    cases hf : (cls B n).2.findIdx? fun h => B h n with
    | some k =>
      obtain ⟨h, hk, hb⟩ := zdg hf
      have hkl : k < (cls B n).2.length := by
        rcases Nat.lt_or_ge k (cls B n).2.length with c | c
        · exact c
        · rw [List.getElem?_eq_none c] at hk; cases hk
      have hhn := c3 k h hk
      refine ⟨by simp [c1], by show (cls B n).2.length ≤ n + 1; omega, fun j x hj => by have := c3 j x hj; omega, fun i v hi => ?_, fun i v j g hi hj => ?_⟩
      · rcases zdM hi with ⟨_, hi⟩ | ⟨_, rfl⟩
        · exact c4 i v hi
        · exact hkl
      · have hgn := c3 j g hj
        rcases zdM hi with ⟨_, hi⟩ | ⟨e, rfl⟩
        · exact c5 i v j g hi hj
        · rw [c1] at e; subst e
          constructor
          · rintro rfl
            rw [hk] at hj; cases hj; exact hb
          · intro hg
            have hgh : B g h = true := hB.trans _ _ _ (by omega) (by omega) (by omega) hg (hB.symm _ _ (by omega) (by omega) hb)
            have hhl : h < (cls B i).1.length := by omega
            have e1 : (cls B i).1[h]? = some (cls B i).1[h] := List.getElem?_eq_getElem hhl
            have q1 := (c5 h _ j g e1 hj).2 hgh
            have q2 := (c5 h _ k h e1 hk).2 (hB.refl _ (by omega))
            omega
    | none =>
      have hno := zer hf
      refine ⟨by simp [c1], by simp; omega, fun j x hj => ?_, fun i v hi => ?_, fun i v j g hi hj => ?_⟩
      · rcases zdM hj with ⟨_, hj⟩ | ⟨_, rfl⟩
        · have := c3 j x hj; omega
        · omega
      · rcases zdM hi with ⟨_, hi⟩ | ⟨_, rfl⟩
        · have := c4 i v hi; simp; omega
        · simp
      · rcases zdM hi with ⟨il, hi⟩ | ⟨e, rfl⟩
        · rcases zdM hj with ⟨_, hj⟩ | ⟨e, rfl⟩
          · exact c5 i v j g hi hj
          · have hv := c4 i v hi
            constructor
            · omega
            · intro hb
              have e1 : (cls B n).2[v]? = some (cls B n).2[v] := List.getElem?_eq_getElem hv
              have h1 := (c5 i v v _ hi e1).1 rfl
              have h2 := c3 v _ e1
              have := hB.trans _ _ _ (by omega) (by omega) (by omega) h1 (hB.symm n i (by omega) (by omega) hb)
              rw [hno v _ e1] at this; cases this
        · rcases zdM hj with ⟨jl, hj⟩ | ⟨e', rfl⟩
          · rw [c1] at e; subst e
            have := hno j g hj
            constructor
            · omega
            · intro hb; rw [hb] at this; cases this
          · rw [c1] at e; subst e
            exact ⟨fun _ => hB.refl _ (by omega), fun _ => by omega⟩
theorem cls_next {B : Nat → Nat → Bool} {N n : Nat} (hB : Eqv B N) (hn : n < N) :
    (∀ b, b < n → B b n = true → (cls B (n + 1)).1 = (cls B n).1 ++ [(cls B n).1.getD b 0] ∧ (cls B (n + 1)).2 = (cls B n).2) ∧
    ((∀ b, b < n → B b n = false) → (cls B (n + 1)).1 = (cls B n).1 ++ [(cls B n).2.length] ∧ (cls B (n + 1)).2 = (cls B n).2 ++ [n]) := by
  obtain ⟨c1, c2, c3, c4, c5⟩ := zgY hB n (by omega)
  constructor
  · intro b hb hbn
    have e1 : (cls B n).1[b]? = some (cls B n).1[b] := List.getElem?_eq_getElem (by omega)
    have hv := c4 b _ e1
    have ev : (cls B n).2[(cls B n).1[b]]? = some (cls B n).2[(cls B n).1[b]] := List.getElem?_eq_getElem hv
    have hh := c3 _ _ ev
    have h1 := (c5 b _ _ _ e1 ev).1 rfl
    have h2 := hB.trans _ _ _ (by omega) (by omega) (by omega) h1 hbn
    rw [cls_s]
    cases hf : (cls B n).2.findIdx? fun h => B h n with
    | none => rw [zer hf _ _ ev] at h2; cases h2
    | some k =>
      obtain ⟨h, hk, hb2⟩ := zdg hf
      have hhn := c3 k h hk
      have : (cls B n).1[b] = k := (c5 b _ k h e1 hk).2 (hB.trans _ _ _ (by omega) (by omega) (by omega) hb2 (hB.symm _ _ (by omega) (by omega) hbn))
      refine ⟨?_, rfl⟩
      show (cls B n).1 ++ [k] = _
      rw [List.getD_eq_getElem?_getD, e1, ← this]; rfl
  · intro hno
    rw [cls_s]
    cases hf : (cls B n).2.findIdx? fun h => B h n with
    | none => exact ⟨rfl, rfl⟩
    | some k =>
      obtain ⟨h, hk, hb2⟩ := zdg hf
      rw [hno h (c3 k h hk)] at hb2; cases hb2
def alk (es : List Ed) (N k : Nat) (a b : Nat) : Bool := (rN es N k (a : Int) (b : Int)).isNone
theorem zgC {es : List Ed} {N k : Nat} (hin : inB (N : Int) es) (hk : fnd (rN es N k) es ((k : Int) + 1) N = []) {a b : Nat} (ha : a < N) (hb : b < N) : alk es N k a b = true ↔ Bis es (a : Int) (b : Int) := rN_none hin hk ⟨by omega, by omega⟩ ⟨by omega, by omega⟩
theorem zgD {es : List Ed} {N k : Nat} (hin : inB (N : Int) es) (hk : fnd (rN es N k) es ((k : Int) + 1) N = []) : Eqv (alk es N k) N :=
  ⟨fun a ha => (zgC hin hk ha ha).2 (Bis.refl _ _), fun a b ha hb h => (zgC hin hk hb ha).2 ((zgC hin hk ha hb).1 h).symm,
   fun a b c ha hb hc h1 h2 => (zgC hin hk ha hc).2 (((zgC hin hk ha hb).1 h1).trans ((zgC hin hk hb hc).1 h2))⟩
end Go.Ideal.J
namespace Go.Ideal.J
open Go Go.Ideal
theorem _root_.Go.Ideal.Grow.lt' {h : H} {sz : Nat} {v : Value} {rows : List (List Value)} {ob : Option Nat} (hg : Grow h sz v rows ob) {b : Nat} (e : ob = some b) : b < h.next := by subst e; exact hg.lt
abbrev natL (v : Nat) : List Value := [.int .i64 (v : Int)]
def CS (B : Nat → Nat → Bool) (lo n : Nat) (h : H) (ov hv : Value) : Prop :=
  ∃ ob1 ob2, Grow h 1 ov ((cls B n).1.map natL) ob1 ∧ Grow h 1 hv ((cls B n).2.map natL) ob2 ∧ (∀ q, ob1 = some q → lo ≤ q) ∧ (∀ q, ob2 = some q → lo ≤ q) ∧ ∀ q, ob1 = some q → ob2 ≠ some q
theorem CS.fr {B : Nat → Nat → Bool} {lo n : Nat} {h h' : H} {ov hv : Value} (c : CS B lo n h ov hv) (hf : Fr h h') : CS B lo n h' ov hv := by
  obtain ⟨a, b, h1, h2, h3⟩ := c
  exact ⟨a, b, h1.fr hf, h2.fr hf, h3⟩
theorem CS.z (B : Nat → Nat → Bool) (lo : Nat) (h : H) : CS B lo 0 h (.slice none 0 0) (.slice none 0 0) :=
  ⟨none, none, .nil, .nil, by simp, by simp, by simp⟩
theorem classes4 (es : List Ed) (N : Nat) (hN : N ≤ 200) (k m n : Nat) (hnN : n < N) (hin : inB (N : Int) es) (hk : fnd (rN es N k) es ((k : Int) + 1) N = []) (lo : Nat) (h0 : H) (hm : MapM h0 m (rV (rN es N k))) (hml : m < lo) (hlo : lo ≤ h0.next) (ov hv : Value) {P : Value → H → Prop}
    (hP : ∀ h' ov' hv', FrD (fun j => lo ≤ j) h0 h' → CS (alk es N k) lo (n + 1) h' ov' hv' → OkV (sh (rI F) zjs (K_h_2 (rI F)) (setL [p3, p4, p5, p14, p15] [.map (some m), ov', hv', .int .i64 (N : Int), .int .i64 (n : Int)]) h') P) :
    ∀ (r j : Nat) (h : H), j + r = (cls (alk es N k) n).2.length → FrD (fun j => lo ≤ j) h0 h → CS (alk es N k) lo n h ov hv → (∀ i (g : Nat), i < j → (cls (alk es N k) n).2[i]? = some g → alk es N k g n = false) →
    OkV (sh (rI F) zhf (K_h_4 (rI F)) (setL [p3, p4, p5, p6, p14, p15, p18, p19, p20] [.map (some m), ov, hv, .int .i64 (n : Int), .int .i64 (N : Int), .int .i64 (n : Int), hv, .int .i64 ((cls (alk es N k) n).2.length : Int), .int .i64 (j : Int)]) h) P := by
  have hB := zgD hin hk
  have ci := zgY hB n (by omega)
  have cl1 := ci.len
  have cl2 := ci.hn
  intro r
  induction r with
  | zero =>
    intro j h hj hf hc hno
    have e : j = (cls (alk es N k) n).2.length := by omega
    subst e
    obtain ⟨ob1, ob2, g1, g2, b1, b2, b3⟩ := hc
    have hfn := hf.next
    have hnone := (cls_next hB hnN).2 (fun b hb => by
      have hh : (cls (alk es N k) n).1[b]? = some (cls (alk es N k) n).1[b] := List.getElem?_eq_getElem (by omega)
      have hv := ci.ck b _ hh
      have ev : (cls (alk es N k) n).2[(cls (alk es N k) n).1[b]]? = some (cls (alk es N k) n).2[(cls (alk es N k) n).1[b]] := List.getElem?_eq_getElem hv
      have h1 := (ci.iff b _ _ _ hh ev).1 rfl
      have h2 := ci.hd _ _ ev
      have h3 := hno _ _ hv ev
      rw [Bool.eq_false_iff]; intro hbn
      have := hB.trans _ _ _ (by omega) (by omega) (by omega) h1 hbn
      rw [h3] at this; cases this)
    rw [s_h_4]
    have sv2 := g2.slvM
    obtain ⟨h2, eh2⟩ : ∃ h2, h2 = h.new (.cells (natL (cls (alk es N k) n).2.length) 0) := ⟨_, rfl⟩
    have hf2 : Fr h h2 := by rw [eh2]; exact .new _ _
    have hn2 : h2.next = h.next + 1 := by rw [eh2]; simp
    obtain ⟨h3, ov', ea3, g13, hn3, hf3⟩ := zbC (h := h2) (sz := 1) (bytes := 8) (r := natL (cls (alk es N k) n).2.length) (b := h.next) (e := 0) (by omega) (by decide) (g1.fr hf2) (by rw [eh2]; simp) rfl rfl rfl (by rw [List.length_map]; omega)
    obtain ⟨h4, eh4⟩ : ∃ h4, h4 = h3.new (.cells (natL n) 0) := ⟨_, rfl⟩
    have hf4 : Fr h3 h4 := by rw [eh4]; exact .new _ _
    have hn4 : h4.next = h3.next + 1 := by rw [eh4]; simp
    obtain ⟨h5, hv', ea5, g25, hn5, hf5⟩ := zbC (h := h4) (sz := 1) (bytes := 8) (r := natL n) (b := h3.next) (e := 0) (by omega) (by decide) ((((g2.fr hf2).frD hf3 (fun b e1 e2 => b3 _ e2 e1))).fr hf4) (by rw [eh4]; simp) rfl rfl rfl (by rw [List.length_map]; omega)
    have := hP h5 ov' hv' ⟨by omega, fun i hi hd => by
        rw [hf5.get _ (by omega) (fun e => hd (b2 _ e)), hf4.get _ (by omega), hf3.get _ (by omega) (fun e => hd (b1 _ e)), hf2.get _ (by omega)]
        exact hf.get _ hi hd⟩
      ⟨some h2.next, some h4.next, by
        rw [hnone.1, List.map_append]
        exact (g13.fr hf4).frD hf5 (fun b e1 e2 => by have := g2.lt' e2; have e1 := Option.some.inj e1; omega), by
        rw [hnone.2, List.map_append]; exact g25, fun q e => by cases e; omega, fun q e => by cases e; omega, fun q e e' => by have e := Option.some.inj e; have e' := Option.some.inj e'; omega⟩
    refine OkV.eq this ?_
    simp (disch := first | omega | (simp only [zb, za]; done) | (simp only [zb, za]; omega)) [↓zE, ↓zK, ↓zA, s_h_3, sv2.len, ← eh2, ea3, ← eh4, ea5, zr, zk]
  | succ r ih =>
    intro j h hj hf hc hno
    obtain ⟨ob1, ob2, g1, g2, b1, b2, b3⟩ := id hc
    have hfn := hf.next
    have hjl : j < (cls (alk es N k) n).2.length := by omega
    have ej : (cls (alk es N k) n).2[j]? = some (cls (alk es N k) n).2[j] := List.getElem?_eq_getElem hjl
    obtain ⟨g, eg⟩ : ∃ g, g = (cls (alk es N k) n).2[j] := ⟨_, rfl⟩
    rw [← eg] at ej
    have hgn := ci.hd _ _ ej
    obtain ⟨x1, o1, cs1, u1, hv1, _, hg1, ht1⟩ := (g2.row (by omega)).index (i := j) (r := natL g) (by rw [List.getElem?_map, ej]; rfl)
    have hlk := look_ok (hm.fr hf (by omega) (by omega)) (.int .i64 0) (g : Int) (n : Int)
    rw [s_h_4]
    cases hr : rN es N k (g : Int) (n : Int) with
    | some v =>
      simp only [rV, hr, Option.map_some, Option.getD_some, Option.isSome_some] at hlk
      have := ih (j + 1) h (by omega) hf hc (fun i g' hi hg' => by
        by_cases e : i = j
        · subst e; rw [ej] at hg'; cases hg'
          unfold alk; rw [hr]; rfl
        · exact hno i g' (by omega) hg')
      refine OkV.eq (this.lp (l_h_4 F _ _ _ _ _ _ _ _ _ _)) ?_
      simp (disch := first | omega | (simp only [zb, za]; done) | (simp only [zb, za]; omega)) [↓zE, ↓zK, ↓zA, hjl, hv1, hg1, ht1, zr, hlk, zx]
    | none =>
      simp only [rV, hr, Option.map_none, Option.getD_none, Option.isSome_none] at hlk
      have halk : alk es N k g n = true := by unfold alk; rw [hr]; rfl
      have hsome := (cls_next hB hnN).1 g hgn halk
      have hcg : (cls (alk es N k) n).1.getD g 0 = j := by
        have hh : (cls (alk es N k) n).1[g]? = some (cls (alk es N k) n).1[g] := List.getElem?_eq_getElem (by omega)
        rw [List.getD_eq_getElem?_getD, hh]
        exact (ci.iff g _ j g hh ej).2 (hB.refl _ (by omega))
      rw [hcg] at hsome
      obtain ⟨h2, eh2⟩ : ∃ h2, h2 = h.new (.cells (natL j) 0) := ⟨_, rfl⟩
      have hf2 : Fr h h2 := by rw [eh2]; exact .new _ _
      have hn2 : h2.next = h.next + 1 := by rw [eh2]; simp
      obtain ⟨h3, ov', ea3, g13, hn3, hf3⟩ := zbC (h := h2) (sz := 1) (bytes := 8) (r := natL j) (b := h.next) (e := 0) (by omega) (by decide) (g1.fr hf2) (by rw [eh2]; simp) rfl rfl rfl (by rw [List.length_map]; omega)
      have := hP h3 ov' hv ⟨by omega, fun i hi hd => by
          rw [hf3.get _ (by omega) (fun e => hd (b1 _ e)), hf2.get _ (by omega)]
          exact hf.get _ hi hd⟩
        ⟨some h2.next, ob2, by
          rw [hsome.1, List.map_append]; exact g13, by
          rw [hsome.2]; exact (g2.fr hf2).frD hf3 (fun b e1 e2 => b3 _ e2 e1), fun q e => by cases e; omega, b2, fun q e e' => by
            have e := Option.some.inj e
            have := g2.lt' e'
            omega⟩
      refine OkV.eq this ?_
      simp (disch := first | omega | (simp only [zb, za]; done) | (simp only [zb, za]; omega)) [↓zE, ↓zK, ↓zA, hjl, hv1, hg1, ht1, zr, hlk, ← eh2, ea3, zk]
theorem classes1 (es : List Ed) (N : Nat) (hN : N ≤ 200) (k m : Nat) (hin : inB (N : Int) es) (hk : fnd (rN es N k) es ((k : Int) + 1) N = []) (lo : Nat) (h0 : H) (hm : MapM h0 m (rV (rN es N k))) (hml : m < lo) (hlo : lo ≤ h0.next) {P : Value → H → Prop}
    (hP : ∀ h' ov hv, FrD (fun j => lo ≤ j) h0 h' → CS (alk es N k) lo N h' ov hv → P ov h') :
    ∀ (r n : Nat) (h : H) (ov hv : Value), n + r = N → FrD (fun j => lo ≤ j) h0 h → CS (alk es N k) lo n h ov hv →
    OkV (sh (rI F) zhh (K_h_1 (rI F)) (setL [p3, p4, p5, p14, p15] [.map (some m), ov, hv, .int .i64 (N : Int), .int .i64 (n : Int)]) h) P := by
  intro r
  induction r with
  | zero =>
    intro n h ov hv hn hf hc
    have e : n = N := by omega
    subst e
    have := hP h ov hv hf hc
    obtain ⟨ob1, ob2, g1, g2, b1, b2, b3⟩ := hc
    have sv := g1.slvM
    refine OkV.eq (OkV.val this) ?_
    rw [s_h_1]
    simp (disch := first | omega | (simp only [zb, za]; done) | (simp only [zb, za]; omega)) [↓zE, ↓zK, ↓zA, s_h_0, sv.one]
  | succ r ih =>
    intro n h ov hv hn hf hc
    have hnN : n < N := by omega
    obtain ⟨ob1, ob2, g1, g2, b1, b2, b3⟩ := id hc
    have sv2 := g2.slvM
    have := classes4 es N hN k m n hnN hin hk lo h0 hm hml hlo ov hv (P := P) (fun h' ov' hv' hf' hc' => by
      have := ih (n + 1) h' ov' hv' (by omega) hf' hc'
      refine OkV.eq (this.lp (l_h_1 F _ _ _ _ _ _)) ?_
      rw [s_h_2]
      simp (disch := first | omega | (simp only [zb, za]; done) | (simp only [zb, za]; omega)) [↓zE, ↓zK, ↓zA, zx]) _ 0 h (by rw [Nat.zero_add]) hf hc (fun i g hi => by omega)
    refine OkV.eq (this.lp (l_h_4 F _ _ _ _ _ _ _ _ _ _)) ?_
    rw [s_h_1]
    simp (disch := first | omega | (simp only [zb, za]; done) | (simp only [zb, za]; omega)) [↓zE, ↓zK, ↓zA, hnN, sv2.len]
theorem zjW (es : List Ed) (hs : zbW es) (hsz : es.length ≤ 1000) (N : Nat) (hN : N ≤ 200) (hin : inB (N : Int) es) (lb : Int) (sl : Value) (h : H) (hrow : Row h 3 sl (es.map edL)) :
    ∃ v h' k ob, zbm F (fnV n_h) [gV (N : Int) lb sl] h = some (v, h') ∧ Fr h h' ∧ fnd (rN es N k) es ((k : Int) + 1) N = [] ∧ Grow h' 1 v ((cls (alk es N k) N).1.map natL) ob ∧ ∀ q, ob = some q → h.next ≤ q := by
  have hsv := hrow.slvM
  obtain ⟨h1, eh1⟩ : ∃ h1, h1 = h.new (.cells (gL (N : Int) lb sl) 0) := ⟨_, rfl⟩
  have hf1 : Fr h h1 := by rw [eh1]; exact .new _ _
  have hn1 : h1.next = h.next + 1 := by rw [eh1]; simp
  have g0 : h1.get h.next = some (.cells (gL (N : Int) lb sl) 0) := by rw [eh1]; simp
  obtain ⟨v2, h2, e2, k, m, rfl, hf2, hm1, hm2, hm3, hend⟩ := apart_ok es hs hsz N hN lb sl h1 (hrow.fr hf1) (P := fun v h' => ∃ k m, v = .map (some m) ∧ Fr h1 h' ∧ h1.next ≤ m ∧ m < h'.next ∧ MapM h' m (rV (rN es N k)) ∧ fnd (rN es N k) es ((k : Int) + 1) N = []) (fun h' m k q1 q2 q3 q4 q5 => ⟨k, m, rfl, q1, q2, q3, q4, q5⟩)
  have hfn2 := hf2.next
  have g02 := (hf2.get _ (by omega)).trans g0
  suffices hr : Ret F (fnV n_h) [gV (N : Int) lb sl] h fun v h' => ∃ k ob, Fr h h' ∧ fnd (rN es N k) es ((k : Int) + 1) N = [] ∧ Grow h' 1 v ((cls (alk es N k) N).1.map natL) ob ∧ ∀ q, ob = some q → h.next ≤ q by
    obtain ⟨v, h', e, k, ob, q⟩ := hr; exact ⟨v, h', k, ob, e, q⟩
  obtain ⟨P, hPd⟩ : ∃ P : Value → H → Prop, P = fun v h' => ∃ k ob, Fr h h' ∧ fnd (rN es N k) es ((k : Int) + 1) N = [] ∧ Grow h' 1 v ((cls (alk es N k) N).1.map natL) ob ∧ ∀ q, ob = some q → h.next ≤ q := ⟨_, rfl⟩
  rw [← hPd]
  refine Ret.fn F_h 1 (by decide) ?_
  rw [s_h]
  have := classes1 es N hN k m hin hend h2.next h2 hm3 hm2 (Nat.le_refl _) (P := P) (fun h' ov hv hf' hc => by
    obtain ⟨ob1, ob2, g1, g2, b1, b2, b3⟩ := hc
    rw [hPd]
    exact ⟨k, ob1, (hf1.trans hf2).transD hf' (fun i hi hd => by omega), hend, g1, fun q e => by have := b1 q e; omega⟩) N 0 h2 _ _ (by omega) (.refl _ _) (CS.z _ _ _)
  refine OkV.eq (this.lp (l_h_1 F _ _ _ _ _ _)) ?_
  simp (disch := first | omega | (simp only [zb, za]; done) | (simp only [zb, za]; omega)) [↓zE, ↓zK, ↓zA, hsv.clean, hsv.take, ← eh1, g0, e2, g02]
end Go.Ideal.J
set_option maxHeartbeats 4000000
namespace Go.Ideal.J
open Go Go.Ideal Go.Proofs
theorem flat_inj {α : Type} {enc : α → List Value} {sz : Nat} (E : Enc enc sz) (hi : ∀ x y, enc x = enc y → x = y) : ∀ (l l' : List α), (l.map enc).flatten = (l'.map enc).flatten → l = l'
  | [], [], _ => rfl
  | [], y :: l', h => by
    have := congrArg List.length h
    have hp := E.pos
    simp [E.len] at this; omega
  | x :: l, [], h => by
    have := congrArg List.length h
    have hp := E.pos
    simp [E.len] at this; omega
  | x :: l, y :: l', h => by
    rw [List.map_cons, List.map_cons, List.flatten_cons, List.flatten_cons] at h
    obtain ⟨h1, h2⟩ := List.append_inj h (by rw [E.len, E.len])
    rw [hi _ _ h1, flat_inj E hi l l' h2]
open Classical in
noncomputable def srtG {α : Type} (enc : α → List Value) (le : α → α → Bool) (cs : List Value) : List Value :=
  if h : ∃ l : List α, (l.map enc).flatten = cs then (((Classical.choose h).mergeSort le).map enc).flatten else cs
theorem srtG_eq {α : Type} {enc : α → List Value} {sz : Nat} (E : Enc enc sz) (hi : ∀ x y, enc x = enc y → x = y) (le : α → α → Bool) (l : List α) : srtG enc le (l.map enc).flatten = ((l.mergeSort le).map enc).flatten := by
  have h : ∃ l' : List α, (l'.map enc).flatten = (l.map enc).flatten := ⟨l, rfl⟩
  unfold srtG
  rw [dif_pos h, flat_inj E hi _ _ (Classical.choose_spec h)]
theorem intL_inj (x y : Int) (h : intL x = intL y) : x = y := by
  unfold intL at h
  injection h with h _; injection h
theorem edL_inj (x y : Ed) (h : edL x = edL y) : x = y := by
  obtain ⟨a, b, c⟩ := x
  obtain ⟨d, e, f⟩ := y
  unfold edL at h
  simp at h
  obtain ⟨h1, h2, h3⟩ := h
  rw [h1, h2, h3]
noncomputable def pI := sortP (srtG intL leI) intL 1 n_J
noncomputable def pE := sortP (srtG edL leE) edL 3 n_O
noncomputable def G2 : FuncId → Option zn := fun g => if g = n_3 then some (primP pI) else if g = n_X then some (primP pE) else F g
theorem F_sI : F n_3 = none := by kernel_rfl
theorem F_sE : F n_X = none := by kernel_rfl
theorem leG2 : LeF F G2 := fun g cf h => by
  unfold G2
  rw [if_neg (by rintro rfl; rw [F_sI] at h; cases h), if_neg (by rintro rfl; rw [F_sE] at h; cases h)]; exact h
theorem okG2 : ∀ g cf, G2 g = some cf → FnOk Try.prog g cf := fun g cf h => by
  unfold G2 at h
  split at h
  · rename_i e; cases h; subst e
    exact .inr (.inr ⟨pI, rfl, sort_prim (sz := 1) (enc := intL) (by decide) (fun _ => rfl) (fun x v hv => by unfold intL at hv; simp at hv; exact ⟨_, hv⟩) (srtG_eq encI intL_inj leI) sortsI⟩)
  · split at h
    · rename_i e; cases h; subst e
      exact .inr (.inr ⟨pE, rfl, sort_prim (sz := 3) (enc := edL) (by decide) (fun _ => rfl) (fun x v hv => by unfold edL at hv; simp only [List.mem_cons, List.not_mem_nil, or_false] at hv; rcases hv with rfl | rfl | rfl <;> exact ⟨_, rfl⟩) (srtG_eq encE edL_inj leE) sortsE⟩)
    · exact okFs g cf h
theorem Ret.leF {F G : FuncId → Option zn} (hl : LeF F G) {f : Value} {args : List Value} {h : H} {P : Value → H → Prop} (hr : Ret F f args h P) : Ret G f args h P := by
  obtain ⟨v, h', e, p⟩ := hr; exact ⟨v, h', zbo hl e, p⟩
def OwnB {α : Type} (enc : α → List Value) (sz : Nat) (h : H) (v : Value) (l : List α) (ob : Option Nat) : Prop :=
  (ob = none ∧ v = .slice none 0 0 ∧ l = []) ∨ ∃ b, ob = some b ∧ v = .slice (some ⟨b, 0, none⟩) l.length zm ∧ b < h.next ∧ h.get b = some (.cells (l.map enc).flatten sz)
section
variable {α : Type} {enc : α → List Value} {sz : Nat} (E : Enc enc sz)
include E
theorem OwnB.grow {h : H} {v : Value} {l : List α} {ob : Option Nat} (ho : OwnB enc sz h v l ob) : Grow h sz v (l.map enc) ob := by
  rcases ho with ⟨rfl, rfl, rfl⟩ | ⟨b, rfl, rfl, hb, hg⟩
  · exact .nil
  · have := Grow.cells (sz := sz) (rows := l.map enc) hb hg (fun r hr => by
      obtain ⟨x, _, rfl⟩ := List.mem_map.1 hr
      exact ⟨E.len x, E.clean x⟩)
    rwa [List.length_map] at this
theorem zj0 {h : H} {bytes b e : Nat} {v : Value} {x : α} {l : List α} {ob : Option Nat} (ho : OwnB enc sz h v l ob) (hgb : h.get b = some (.cells (enc x) e)) (hb : (l.length + 1) * bytes ≤ 1073741824) :
    ∃ h' v', bltV h (.append sz bytes) [v, .slice (some ⟨b, 0, none⟩) 1 1] = some (v', h') ∧ OwnB enc sz h' v' (l ++ [x]) (some h.next) ∧ h'.next = h.next + 1 ∧ FrD (fun j => ob = some j) h h' := by
  have := zg5 (bytes := bytes) E.pos E.ro (ho.grow E) (news := [enc x]) (by simp) (zg4 hgb (E.len x) (E.clean x)) (by simpa using E.cell x) (by simp; exact ⟨E.len x, by simpa using E.clean x⟩) (by rw [List.length_map]; simpa using hb)
  obtain ⟨h', h1, h2, h3, h4, h5⟩ := this
  refine ⟨h', _, h1, .inr ⟨h.next, rfl, ?_, by omega, ?_⟩, h3, h4⟩
  · simp
  · rw [h5]; simp
end
theorem OwnB.frD {α : Type} {enc : α → List Value} {sz : Nat} {D : Nat → Prop} {h h' : H} {v : Value} {l : List α} {ob : Option Nat} (ho : OwnB enc sz h v l ob) (hf : FrD D h h') (hd : ∀ b, ob = some b → ¬ D b) : OwnB enc sz h' v l ob := by
  rcases ho with ⟨rfl, rfl, rfl⟩ | ⟨b, rfl, rfl, hb, hg⟩
  · exact .inl ⟨rfl, rfl, rfl⟩
  · exact .inr ⟨b, rfl, rfl, Nat.lt_of_lt_of_le hb hf.next, (hf.get _ hb (hd b rfl)).trans hg⟩
theorem OwnB.fr {α : Type} {enc : α → List Value} {sz : Nat} {h h' : H} {v : Value} {l : List α} {ob : Option Nat} (ho : OwnB enc sz h v l ob) (hf : Fr h h') : OwnB enc sz h' v l ob := ho.frD (D := fun _ => False) hf.D (by simp)
theorem OwnB.slv {α : Type} {enc : α → List Value} {sz : Nat} {h : H} {v : Value} {l : List α} {ob : Option Nat} (ho : OwnB enc sz h v l ob) : SlV v l.length := by
  rcases ho with ⟨rfl, rfl, rfl⟩ | ⟨b, rfl, rfl, hb, hg⟩
  · exact .of _ _ _ nofun
  · exact .of _ _ _ fun a e => by cases e; rfl
def srtI (l : List Int) : List Int := ddN (l.mergeSort leI) l.length
theorem sortedI_ok {l : List Int} (hn : l.length ≤ 1000000) {h : H} {v : Value} {ob : Option Nat} (hv : OwnB intL 1 h v l ob) :
    Ret G2 (fnV n_W) [v, fnV n_J] h fun u h' => Row h' 1 u ((srtI l).map intL) ∧ FrD (fun j => ob = some j) h h' ∧ ∀ b o n c, u = .slice (some ⟨b, o, none⟩) n c → ob = some b := by
  obtain ⟨h1, e1, q1, q2, q3, q4⟩ := zjB (g := n_J) (srtG_eq encI intL_inj leI) hv (by omega)
  have e1 : zbm G2 (fnV n_3) [v, fnV n_J] h = some (.tuple #[], h1) := zjX (cf := primP pI) (by unfold G2; rw [if_pos rfl]) rfl e1 (by omega)
  have hl : (l.mergeSort leI).length = l.length := List.length_mergeSort _
  have hv1 : (v = .slice none 0 0 ∧ l.mergeSort leI = []) ∨ ∃ b, v = .slice (some ⟨b, 0, none⟩) (l.mergeSort leI).length zm ∧ b < h1.next ∧ h1.get b = some (.cells ((l.mergeSort leI).map intL).flatten 1) := by
    rcases hv with ⟨_, hv, rfl⟩ | ⟨b, hob, hv, hb, hg⟩
    · exact .inl ⟨hv, List.mergeSort_nil⟩
    · refine .inr ⟨b, by rw [hl]; exact hv, by omega, ?_⟩
      by_cases e : l = []
      · subst e
        rw [List.mergeSort_nil]; exact (q4 rfl b hob).trans hg
      · exact q3 b hob e
  obtain ⟨u, h2, e2, r1, r2, r3⟩ := compactI_ok (by omega) hv1
  have e2 := zbo leG2 e2
  rw [hl] at r1
  have hb : ∀ j n c, v = .slice (some ⟨j, 0, none⟩) n c → ob = some j := fun j n c e => by
    rcases hv with ⟨_, hv, _⟩ | ⟨b, hob, hv, _⟩
    · rw [hv] at e; cases e
    · rw [hv] at e; cases e; exact hob
  obtain ⟨Pq, hPd⟩ : ∃ Pq : Value → H → Prop, Pq = fun u h' => Row h' 1 u ((srtI l).map intL) ∧ FrD (fun j => ob = some j) h h' ∧ ∀ b o n c, u = .slice (some ⟨b, o, none⟩) n c → ob = some b := ⟨_, rfl⟩
  rw [← hPd]
  refine Ret.fn (leG2 _ _ F_W) 2 (by decide) ?_
  rw [s_W]
  refine OkV.eq (OkV.val (v := u) (h := h2) ?_) ?_
  · rw [hPd]
    refine ⟨r1, ⟨by have := r2.next; omega, fun i hi hd => ?_⟩, fun b o n c e => ?_⟩
    · rw [r2.get i (by omega) (fun ⟨n, c, e⟩ => hd (hb _ _ _ e)), q2 i hd]
    · obtain ⟨n', c', e'⟩ := r3 b o n c e
      exact hb _ _ _ e'
  · simp only [zE, rI_call', e1, e2, zbv]
def srtE (l : List Ed) : List Ed := ddN (l.mergeSort leE) l.length
theorem sortedE_ok {l : List Ed} (hn : l.length ≤ 1000000) {h : H} {v : Value} {ob : Option Nat} (hv : OwnB edL 3 h v l ob) :
    Ret G2 (fnV n_Q) [v, fnV n_O] h fun u h' => Row h' 3 u ((srtE l).map edL) ∧ FrD (fun j => ob = some j) h h' ∧ ∀ b o n c, u = .slice (some ⟨b, o, none⟩) n c → ob = some b := by
  obtain ⟨h1, e1, q1, q2, q3, q4⟩ := zjB (g := n_O) (srtG_eq encE edL_inj leE) hv (by omega)
  have e1 : zbm G2 (fnV n_X) [v, fnV n_O] h = some (.tuple #[], h1) := zjX (cf := primP pE) (by unfold G2; rw [if_neg (by decide), if_pos rfl]) rfl e1 (by omega)
  have hl : (l.mergeSort leE).length = l.length := List.length_mergeSort _
  have hv1 : (v = .slice none 0 0 ∧ l.mergeSort leE = []) ∨ ∃ b, v = .slice (some ⟨b, 0, none⟩) (l.mergeSort leE).length zm ∧ b < h1.next ∧ h1.get b = some (.cells ((l.mergeSort leE).map edL).flatten 3) := by
    rcases hv with ⟨_, hv, rfl⟩ | ⟨b, hob, hv, hb, hg⟩
    · exact .inl ⟨hv, List.mergeSort_nil⟩
    · refine .inr ⟨b, by rw [hl]; exact hv, by omega, ?_⟩
      by_cases e : l = []
      · subst e
        rw [List.mergeSort_nil]; exact (q4 rfl b hob).trans hg
      · exact q3 b hob e
  obtain ⟨u, h2, e2, r1, r2, r3⟩ := compactE_ok (by omega) hv1
  have e2 := zbo leG2 e2
  rw [hl] at r1
  have hb : ∀ j n c, v = .slice (some ⟨j, 0, none⟩) n c → ob = some j := fun j n c e => by
    rcases hv with ⟨_, hv, _⟩ | ⟨b, hob, hv, _⟩
    · rw [hv] at e; cases e
    · rw [hv] at e; cases e; exact hob
  obtain ⟨Pq, hPd⟩ : ∃ Pq : Value → H → Prop, Pq = fun u h' => Row h' 3 u ((srtE l).map edL) ∧ FrD (fun j => ob = some j) h h' ∧ ∀ b o n c, u = .slice (some ⟨b, o, none⟩) n c → ob = some b := ⟨_, rfl⟩
  rw [← hPd]
  refine Ret.fn (leG2 _ _ F_Q) 2 (by decide) ?_
  rw [s_Q]
  refine OkV.eq (OkV.val (v := u) (h := h2) ?_) ?_
  · rw [hPd]
    refine ⟨r1, ⟨by have := r2.next; omega, fun i hi hd => ?_⟩, fun b o n c e => ?_⟩
    · rw [r2.get i (by omega) (fun ⟨n, c, e⟩ => hd (hb _ _ _ e)), q2 i hd]
    · obtain ⟨n', c', e'⟩ := r3 b o n c e
      exact hb _ _ _ e'
  · simp only [zE, rI_call', e1, e2, zbv]
end Go.Ideal.J
namespace Go.Ideal.J
open Go Go.Ideal
inductive Rch (es : List Ed) : Nat → Prop
  | zero : Rch es 0
  | step {x : Ed} (h : Rch es x.1.toNat) (hx : x ∈ es) : Rch es x.2.1.toNat
theorem jleast_round (vs : List Int) (hsz : vs.length ≤ 1000) (x : Ed) (l pb : Nat) (h1 : H) (slv : Value) (ob : Option Nat) (hl : h1.get l = some (.loop .ready none (setL [p5] [ptr pb]) ze4)) (hpb : h1.get pb = some (.cells [slv] 0)) (hlt : l < h1.next) (hplt : pb < h1.next) (hlp : l ≠ pb)
    (hg : Grow h1 1 slv (vs.map inL) ob) (hol : ob ≠ some l) (hop : ob ≠ some pb) {P : Value → H → Prop}
    (hP : ∀ h' slv' ob', FrD (fun j => j = l ∨ j = pb ∨ ob = some j) h1 h' → h'.get l = some (.loop .ready none (setL [p5] [ptr pb]) ze4) → h'.get pb = some (.cells [slv'] 0) → Grow h' 1 slv' ((if x.2.1 ∈ vs then vs else vs ++ [x.2.1]).map inL) ob' → (∀ b, ob' = some b → ob = some b ∨ h1.next ≤ b) → P (.bool true) h') :
    Ret F (.func (.yield l) #[] #[]) [edV x] h1 P := by
  obtain ⟨x1, t, x3⟩ := x
  refine Ret.round hl ?_
  rw [s_m_3]
  obtain ⟨h2, eh2⟩ : ∃ h2, h2 = h1.new (.cells (edL (x1, t, x3)) 0) := ⟨_, rfl⟩
  have hf2 : Fr h1 h2 := by rw [eh2]; exact .new _ _
  have hn2 : h2.next = h1.next + 1 := by rw [eh2]; simp
  have gx2 : h2.get h1.next = some (.cells (edL (x1, t, x3)) 0) := by rw [eh2]; simp
  have hl2 := (hf2.get _ hlt).trans hl
  obtain ⟨h3, eh3⟩ : ∃ h3, h3 = h2.put l (.loop .busy none (setL [p5] [ptr pb]) ze4) := ⟨_, rfl⟩
  have hn3 : h3.next = h1.next + 1 := by rw [eh3]; simpa using hn2
  have hfl : FrD (fun j => j = l) h1 h3 := by rw [eh3]; exact (hf2.D (D := fun j => j = l)).put (.inr rfl) _
  have hg3 := hg.frD hfl (fun b e e2 => hol (by rw [e, e2]))
  have gl3 : h3.get l = some (.loop .busy none (setL [p5] [ptr pb]) ze4) := by rw [eh3]; exact zu rfl
  have gp3 : h3.get pb = some (.cells [slv] 0) := (hfl.get _ hplt (Ne.symm hlp)).trans hpb
  have gx3 : h3.get h1.next = some (.cells (edL (x1, t, x3)) 0) := by rw [eh3, zt (by omega)]; exact gx2
  have hsv := hg.slvM
  have e1 : ∀ k : H → Option Out, zft l h2 k = k h3 := fun k => by rw [zhB hl2, eh3]
  have hcon := contains_ok vs (by omega) t slv _ (hg3.row (by omega))
  simp (disch := omega) [← eh2, e1]
  rw [s_m_4]
  by_cases ht : t ∈ vs
  · simp (disch := omega) [gp3, gx3, hsv.take, hsv.one, hcon, ht]
    rw [zeZ gl3]
    have hf4 : FrD (fun j => j = l ∨ j = pb ∨ ob = some j) h1 (h3.put l (.loop .ready none (setL [p5] [ptr pb]) ze4)) := (hfl.mono fun _ _ h => .inl h).put (.inr (.inl rfl)) _
    refine OkV.val (hP _ slv ob hf4 (zu rfl) ?_ ?_ fun b hb => .inl hb)
    · rw [zt (Ne.symm hlp)]; exact gp3
    · rw [if_pos ht]; exact hg3.frD ((FrD.refl _ _).put (D := fun j => j = l) (.inr rfl) _) (fun b e e2 => hol (by rw [e, e2]))
  · obtain ⟨h4, eh4⟩ : ∃ h4, h4 = h3.new (.cells [.int .i64 t] 0) := ⟨_, rfl⟩
    have hf4 : Fr h3 h4 := by rw [eh4]; exact .new _ _
    have hn4 : h4.next = h1.next + 2 := by rw [eh4]; simp; omega
    obtain ⟨h5, slv', ea, hg5, hn5, hf5⟩ := zbC (h := h4) (bytes := 8) (r := inL t) (b := h3.next) (e := 0) (by omega) (by decide) (hg3.fr hf4) (by rw [eh4]; simp) rfl rfl rfl (by rw [List.length_map]; omega)
    have gpb : h5.get pb = some (.cells [slv] 0) := by rw [hf5.get _ (by omega) hop, hf4.get _ (by omega)]; exact gp3
    have gl : h5.get l = some (.loop .busy none (setL [p5] [ptr pb]) ze4) := by rw [hf5.get _ (by omega) hol, hf4.get _ (by omega)]; exact gl3
    have sv' := hg5.slv
    simp (disch := omega) [gp3, gx3, hsv.take, hsv.one, hcon, ht, zr, zk, ← eh4, ea, gpb, sv'.cells, sv'.cell]
    have gl' : (h5.put pb (.cells [slv'] 0)).get l = some (.loop .busy none (setL [p5] [ptr pb]) ze4) := by rw [zt hlp]; exact gl
    rw [zeZ gl']
    have hf6 : FrD (fun j => j = l ∨ j = pb ∨ ob = some j) h1 ((h5.put pb (.cells [slv'] 0)).put l (.loop .ready none (setL [p5] [ptr pb]) ze4)) :=
      (((((hfl.mono fun _ _ h => .inl h).trans (hf4.D)).trans (hf5.mono fun _ _ h => .inr (.inr h))).put (.inr (.inr (.inl rfl))) _).put (.inr (.inl rfl)) _)
    refine OkV.val (hP _ slv' (some h4.next) hf6 (zu rfl) ?_ ?_ fun b hb => .inr ?_)
    · rw [zt (Ne.symm hlp), zu rfl]
    · rw [if_neg ht, List.map_append]
      refine hg5.frD (((FrD.refl _ _).put (D := fun j => j = l ∨ j = pb) (.inr (.inr rfl)) _).put (.inr (.inl rfl)) _) fun b hb => ?_
      cases hb; omega
    · cases hb; omega
end Go.Ideal.J
namespace Go.Ideal.J
open Go Go.Ideal
theorem jleast_loop (es : List Ed) (hs : zbW es) (hsz : es.length ≤ 1000) (N : Nat) (lb : Int) (hin : inB (N : Int) es) (hN : N ≤ 200) (sl : Value) (t3 t4 : Value) (pg pr pb : Nat) (h0 : H) (hrow0 : Row h0 3 sl (es.map edL)) (hpg : pg < h0.next) (hgg : h0.get pg = some (.cells (gL (N : Int) lb sl) 0)) (hpb : h0.next ≤ pb) {P : Value → H → Prop}
    (hP : ∀ (h' : H) (slv : Value) (vs : List Int) (ob : Option Nat), Fr h0 h' → h'.get pb = some (.cells [slv] 0) → pb < h'.next → Grow h' 1 slv (vs.map inL) ob → (∀ b, ob = some b → h0.next ≤ b) → vs.Nodup → (∀ v ∈ vs, 0 ≤ v ∧ v < N) → (∀ c : Nat, (c : Int) ∈ vs ↔ Rch es c) →
      OkV (sh (rI G2) zjr (zjw (rI G2)) (setL [p1, p2, p4, p5] [ptr pg, ptr pr, t4, ptr pb]) h') P) :
    ∀ (n i : Nat) (h : H) (vs : List Int) (slv : Value) (ob : Option Nat), N - i = n → Fr h0 h → h.get pb = some (.cells [slv] 0) → pb < h.next → Grow h 1 slv (vs.map inL) ob →
      (∀ b, ob = some b → h0.next ≤ b ∧ b ≠ pb) → vs.Nodup → (∀ v ∈ vs, 0 ≤ v ∧ v < N) → i ≤ vs.length → (0 : Int) ∈ vs → (∀ v ∈ vs, Rch es v.toNat) → (∀ k v, vs[k]? = some v → k < i → ∀ x ∈ outs es v, x.2.1 ∈ vs) →
      OkV (sh (rI G2) c_m_1 (K_m_1 (rI G2)) (setL [p1, p2, p3, p4, p5, p6] [ptr pg, ptr pr, t3, t4, ptr pb, .int .i64 (i : Int)]) h) P := by
  intro n
  induction n using Nat.strongRecOn with
  | _ n ih =>
    intro i h vs slv ob hn hf hgb hpbl hg hob hnd hbd hi ha hsil hclo
    have hlen : vs.length ≤ N := zcV hnd hbd
    have hfn := hf.next
    have hgg1 := (hf.get _ hpg).trans hgg
    have hv := hg.slvM
    have hvg := hrow0.slvM
    rw [s_m_1]
    by_cases hil : i < vs.length
    · have hx : (vs.map inL)[i]? = some (inL vs[i]) := by simp [hil]
      obtain ⟨b, o, cs, e, hvi, hb, hgi, ht⟩ := (hg.row (by omega)).index hx
      have hxi : vs[i]? = some vs[i] := List.getElem?_eq_getElem hil
      generalize vs[i] = x at *
      obtain ⟨L, eL⟩ : ∃ L, L = h.next + 1 + 1 := ⟨_, rfl⟩
      obtain ⟨h2, eh2⟩ : ∃ h2, h2 = (((h.new (.cells (gL (N : Int) lb sl) 0)).new (.cells [.int .i64 x] 0)).new (.loop .ready none (setL [p5] [ptr pb]) ze4)) := ⟨_, rfl⟩
      have est := zbo leG2 (steps_ok (gV (N : Int) lb sl) (.int .i64 x) h)
      simp (disch := omega) [hgg1, hgb, hv.take, hv.one, hv.len, hv.eq, hv.eqc, hvg.eqc, hvg.take, hvg.clean, hil, hvi, hgi, ht, est, hvg.cell]
      rw [← eL, ← eh2]
      have hf2 : Fr h h2 := by rw [eh2]; exact ((Fr.new _ _).newR _).newR _
      have hnx : h2.next = h.next + 3 := by rw [eh2]; simp
      have gL2 : h2.get L = some (.loop .ready none (setL [p5] [ptr pb]) ze4) := by rw [eh2]; simp (disch := omega) [eL]
      have gg2 : h2.get h.next = some (.cells (gL (N : Int) lb sl) 0) := by rw [eh2]; simp (disch := omega)
      have gf2 : h2.get (h.next + 1) = some (.cells [.int .i64 x] 0) := by rw [eh2]; simp (disch := omega)
      have gb2 : h2.get pb = some (.cells [slv] 0) := (hf2.get _ hpbl).trans hgb
      have hxb := hbd x (List.mem_of_getElem? hxi)
      have hoblt : ∀ b, ob = some b → b < h.next := fun b e => by subst e; exact hg.lt
      obtain ⟨T, eT⟩ : ∃ T, T = (outs es x).map fun y => y.2.1 := ⟨_, rfl⟩
      have hT : ∀ t ∈ T, 0 ≤ t ∧ t < N := by
        intro t ht
        rw [eT] at ht
        obtain ⟨y, hy, rfl⟩ := List.mem_map.1 ht
        have := hin y (zbI.1 hy).1; omega
      have hnd' : ∀ l, (zbg vs l).Nodup := fun l => zfQ l vs hnd
      have hbd' : ∀ l, (∀ t ∈ l, t ∈ T) → ∀ v ∈ zbg vs l, 0 ≤ v ∧ v < N := by
        intro l hl v hv
        rcases (zci l vs v).1 hv with h | h
        · exact hbd v h
        · exact hT v (hl v h)
      have hlen' : ∀ l, (∀ t ∈ l, t ∈ T) → (zbg vs l).length ≤ 1000 := by
        intro l hl
        have := zcV (n := N) (hnd' l) (hbd' l hl)
        omega
      obtain ⟨M, eM⟩ : ∃ M : Nat → Prop, M = fun j => j = L ∨ j = pb ∨ ob = some j ∨ h2.next ≤ j := ⟨_, rfl⟩
      have hM : ∀ j, M j → j = L ∨ j = pb ∨ ob = some j ∨ h2.next ≤ j := fun j hj => by rw [eM] at hj; exact hj
      have hMn : ∀ j, j < h.next → j ≠ pb → ob ≠ some j → ¬ M j := by
        intro j h1 h2 h3 h4
        rcases hM j h4 with h | h | h | h
        · omega
        · exact h2 h
        · exact h3 h
        · omega
      have hMn2 : ∀ j, j = h.next ∨ j = h.next + 1 → ¬ M j := by
        intro j h1 h4
        rcases hM j h4 with h | h | h | h
        · omega
        · omega
        · have := hoblt _ h; omega
        · omega
      refine OkV.call (Ret.leF leG2 (zhL es hs hsz x (N : Int) lb (.func (.yield L) #[] #[]) sl h.next (h.next + 1) h2 (M := M) ((hrow0.fr hf).fr hf2) (hMn2 _ (.inl rfl)) (hMn2 _ (.inr rfl)) ?_ (by omega) gg2 (by omega) gf2
        (fun j h1 => ∃ slv' ob', h1.get L = some (.loop .ready none (setL [p5] [ptr pb]) ze4) ∧ h1.get pb = some (.cells [slv'] 0) ∧ Grow h1 1 slv' ((zbg vs (T.take j)).map inL) ob' ∧ (∀ b, ob' = some b → ob = some b ∨ h2.next ≤ b) ∧ h2.next ≤ h1.next)
        (fun _ => False) h2.next (Nat.le_refl _) ?_ ?_ ?_ (P := fun _ h' => FrD M h2 h' ∧ ∃ slv' ob', h'.get L = some (.loop .ready none (setL [p5] [ptr pb]) ze4) ∧ h'.get pb = some (.cells [slv'] 0) ∧ Grow h' 1 slv' ((zbg vs T).map inL) ob' ∧ (∀ b, ob' = some b → ob = some b ∨ h2.next ≤ b)) ?_)) ?_
      · intro b o n c e
        have hb := hrow0.lt e
        exact hMn b (by omega) (by omega) (fun e => by have := (hob _ e).1; omega)
      · rintro j h1 h3 ⟨slv', ob', q1, q2, q3, q4, q5⟩ hf3
        exact ⟨slv', ob', (hf3.get _ (by omega)).trans q1, (hf3.get _ (by omega)).trans q2, q3.fr hf3, q4, Nat.le_trans q5 hf3.next⟩
      · rintro j v h1 hv ⟨slv', ob', q1, q2, q3, q4, q5⟩ hn1
        rw [List.getElem?_map] at hv
        obtain ⟨y, hjt, rfl⟩ := Option.map_eq_some_iff.1 hv
        have hjT : T[j]? = some y.2.1 := by rw [eT, List.getElem?_map, hjt]; rfl
        refine jleast_round (zbg vs (T.take j)) (hlen' _ fun t h => List.mem_of_mem_take h) y L pb h1 slv' ob' q1 q2 (by omega) (by omega) (by omega) q3 ?_ ?_ ?_
        · intro e; rcases q4 _ e with h | h
          · have := hoblt _ h; omega
          · omega
        · intro e; rcases q4 _ e with h | h
          · exact (hob _ h).2 rfl
          · omega
        · intro h' slv'' ob'' r1 r2 r3 r4 r5
          refine ⟨r1.mono ?_, .inl ⟨rfl, slv'', ob'', r2, r3, ?_, ?_, Nat.le_trans q5 r1.next⟩⟩
          · rw [eM]
            rintro i _ (h | h | h)
            · exact .inl h
            · exact .inr (.inl h)
            · rcases q4 _ h with h | h
              · exact .inr (.inr (.inl h))
              · exact .inr (.inr (.inr h))
          · have : zbg vs (T.take (j + 1)) = if y.2.1 ∈ zbg vs (T.take j) then zbg vs (T.take j) else zbg vs (T.take j) ++ [y.2.1] := by
              rw [List.take_add_one, hjT]; exact zgS _ _ _
            rw [this]; exact r4
          · intro b e
            rcases r5 b e with h | h
            · exact q4 b h
            · right; omega
      · exact ⟨slv, ob, gL2, gb2, hg.fr hf2, fun b e => .inl e, Nat.le_refl _⟩
      · intro h' hf' hv
        rcases hv with ⟨slv', ob', q1, q2, q3, q4, q5⟩ | hv
        · rw [List.take_of_length_le (by rw [eT]; simp)] at q3
          exact ⟨hf', slv', ob', q1, q2, q3, q4⟩
        · exact hv.elim
      · rintro v h' ⟨hf', slv', ob', q1, q2, q3, q4⟩
        rw [zfN q1, s_m_2]
        obtain ⟨r, hr⟩ := zhY T vs
        have hn' := hf'.next
        have hfr : Fr h0 (h'.put L (.loop .exhausted none (setL [p5] [ptr pb]) ze4)) := by
          refine ⟨by simp; omega, fun i hi => ?_⟩
          rw [zt (by omega), hf'.get _ (by omega), hf2.get _ (by omega), hf.get _ hi]
          exact hMn i (by omega) (by omega) (fun e => by have := (hob _ e).1; omega)
        have hob' : ∀ b, ob' = some b → h0.next ≤ b ∧ b ≠ pb ∧ b ≠ L := by
          intro b e
          rcases q4 b e with h | h
          · have := hob _ h; have := hoblt _ h; omega
          · omega
        have := ih (N - (i + 1)) (by omega) (i + 1) (h'.put L (.loop .exhausted none (setL [p5] [ptr pb]) ze4)) (zbg vs T) slv' ob' rfl hfr (by rw [zt (by omega)]; exact q2) (by simp; omega)
          (q3.frD ((FrD.refl _ _).put (D := fun j => j = L) (.inr rfl) _) fun b e e2 => (hob' b e).2.2 e2) (fun b e => by have := hob' b e; exact ⟨this.1, this.2.1⟩) (hnd' _) (hbd' _ fun t h => h) (by rw [hr, List.length_append]; omega) ((zci _ _ _).2 (.inl ha)) ?_ ?_
        · refine OkV.eq (this.lp (l_m_1 G2 _ _ _ _ _ _ _)) ?_
          simp (disch := omega) [zx]
        · intro v hv
          rcases (zci _ _ _).1 hv with h | h
          · exact hsil v h
          · rw [eT] at h
            obtain ⟨y, hy, rfl⟩ := List.mem_map.1 h
            obtain ⟨y1, y2⟩ := zbI.1 hy
            have := hsil x (List.mem_of_getElem? hxi)
            rw [← y2] at this
            exact .step this y1
        · intro k v hk hki y hy
          by_cases e : k = i
          · subst e
            rw [hr, List.getElem?_append_left hil, hxi] at hk
            cases hk
            exact (zci _ _ _).2 (.inr (by rw [eT]; exact List.mem_map.2 ⟨y, hy, rfl⟩))
          · rw [hr, List.getElem?_append_left (by omega)] at hk
            exact (zci _ _ _).2 (.inl (hclo k v hk (by omega) y hy))
    · have e : i = vs.length := by omega
      subst e
      have := hP h slv vs ob hf hgb hpbl hg (fun b e => (hob b e).1) hnd hbd fun c => ⟨fun hc => by simpa using hsil _ hc, fun hc => ?_⟩
      · refine OkV.eq this ?_
        simp (disch := omega) [hgb, hv.take, hv.one, hv.len, hil]
      · induction hc with
        | zero => exact ha
        | @step y hy hy1 ihc =>
          have hb := hin y hy1
          obtain ⟨k, hk⟩ := List.mem_iff_getElem?.1 ihc
          have hkl : k < vs.length := (List.getElem?_eq_some_iff.1 hk).1
          have := hclo k _ hk hkl y (zbI.2 ⟨hy1, by omega⟩)
          rwa [show ((y.2.1.toNat : Nat) : Int) = y.2.1 by omega]
end Go.Ideal.J
namespace Go.Ideal.J
open Go Go.Ideal
theorem zib (a b : Int) (h : H) : zbm F (fnV n_0) [.int .i64 a, .int .i64 b] h = some (.bool (decide (a < b)), h) := by
  refine zY F_0 2 (by decide) ?_
  rw [s_0]
  by_cases hc : a < b <;> simp [zhw, hc]
theorem snan_ok (a : Int) (h : H) : zbm F (fnV n_U) [.int .i64 a] h = some (.bool false, h) := by
  refine zY F_U 1 (by decide) ?_
  rw [s_U]
  simp
structure CutI (ms : List Int) (a : Int) (at_ : Nat) : Prop where
  le : at_ ≤ ms.length
  lo : ∀ (k : Nat) x, ms[k]? = some x → k < at_ → x < a
  hi : ∀ (k : Nat) x, ms[k]? = some x → at_ ≤ k → a ≤ x
theorem cutI_of (a : Int) : ∀ (ms : List Int), ms.Pairwise (· < ·) → ∃ at_, CutI ms a at_
  | [], _ => ⟨0, Nat.le_refl _, fun k x h => by simp at h, fun k x h => by simp at h⟩
  | m :: ms, hp => by
    obtain ⟨h1, h2⟩ := List.pairwise_cons.1 hp
    by_cases c : m < a
    · obtain ⟨k0, q⟩ := cutI_of a ms h2
      refine ⟨k0 + 1, by have := q.le; simp; omega, fun k x hk hl => ?_, fun k x hk hl => ?_⟩
      · cases k with
        | zero => cases hk; exact c
        | succ k => exact q.lo k x hk (by omega)
      · cases k with
        | zero => omega
        | succ k => exact q.hi k x hk (by omega)
    · refine ⟨0, Nat.zero_le _, fun k x _ hl => by omega, fun k x hk _ => ?_⟩
      cases k with
      | zero => cases hk; omega
      | succ k => have := h1 x (List.mem_of_getElem? hk); omega
theorem bsI_loop (ms : List Int) (hsz : ms.length ≤ 1000000) (a : Int) (at_ : Nat) (hc : CutI ms a at_) (sl : Value) (h : H) (hrow : Row h 1 sl (ms.map intL)) {P : Value → H → Prop} (hP : ∀ is, (is = true ↔ ms[at_]? = some a) → P (.tuple #[.int .i64 (at_ : Int), .bool is]) h) : ∀ (n i j : Nat), j - i = n → i ≤ at_ → at_ ≤ j → j ≤ ms.length →
    OkV (sh (rI F) c_q_1 (K_q_1 (rI F)) (setL [p0, p1, p6, p7, p8] [sl, .int .i64 a, .int .i64 (ms.length : Int), .int .i64 (i : Int), .int .i64 (j : Int)]) h) P := by
  intro n
  induction n using Nat.strongRecOn with
  | _ n ih =>
    intro i j hn hi hj hl
    rw [s_q_1]
    by_cases hij : i < j
    · obtain ⟨m, em⟩ : ∃ m, m = (i + j) / 2 := ⟨_, rfl⟩
      have hm : m < ms.length := by omega
      obtain ⟨x, hx⟩ : ∃ x, ms[m]? = some x := ⟨_, List.getElem?_eq_getElem hm⟩
      obtain ⟨b, o, cs, e, hv, hb, hg, ht⟩ := hrow.index (i := m) (r := intL x) (by rw [List.getElem?_map, hx]; rfl)
      have hlo := hc.lo m _ hx
      have hhi := hc.hi m _ hx
      have e1 : ((i : Int) + (j : Int)) / 2 = (m : Int) := by omega
      unfold intL at ht
      by_cases hxa : x < a
      · have := ih (j - (m + 1)) (by omega) (m + 1) j rfl (by have := fun h => hhi h; omega) hj hl
        refine OkV.eq (this.lp (l_q_1 F _ _ _ _ _ _)) ?_
        simp (disch := omega) [hij, zhz, zhA, shr1, e1, hv, hg, ht, zib, hxa, zx]
      · have := ih (m - i) (by omega) i m rfl hi (by have := fun h => hlo h; omega) (by omega)
        refine OkV.eq (this.lp (l_q_1 F _ _ _ _ _ _)) ?_
        simp (disch := omega) [hij, zhz, zhA, shr1, e1, hv, hg, ht, zib, hxa, zx]
    · have e : at_ = i := by omega
      subst e
      have e2 : j = at_ := by omega
      subst e2
      by_cases hlt : j < ms.length
      · obtain ⟨x, hx⟩ : ∃ x, ms[j]? = some x := ⟨_, List.getElem?_eq_getElem hlt⟩
        obtain ⟨b, o, cs, e, hv, hb, hg, ht⟩ := hrow.index (i := j) (r := intL x) (by rw [List.getElem?_map, hx]; rfl)
        unfold intL at ht
        by_cases hxa : x = a
        · refine OkV.eq (OkV.val (hP true (by rw [hx, hxa]; simp))) ?_
          simp (disch := omega) [hij, s_q_0, hlt, hv, hg, ht, hxa]
        · refine OkV.eq (OkV.val (hP false (by rw [hx]; simp [hxa]))) ?_
          simp (disch := omega) [hij, s_q_0, hlt, hv, hg, ht, hxa, snan_ok]
      · refine OkV.eq (OkV.val (hP false (by rw [List.getElem?_eq_none (by omega)]; simp))) ?_
        simp (disch := omega) [hij, s_q_0, hlt]
theorem bsI_ok (ms : List Int) (hsz : ms.length ≤ 1000000) (hp : ms.Pairwise (· < ·)) (a : Int) (sl : Value) (h : H) (hrow : Row h 1 sl (ms.map intL)) : ∃ (k : Nat) (is : Bool), zbm F (fnV n_q) [sl, .int .i64 a] h = some (.tuple #[.int .i64 (k : Int), .bool is], h) ∧ (is = true → ms[k]? = some a) ∧ (is = true ↔ a ∈ ms) := by
  obtain ⟨k, hc⟩ := cutI_of a ms hp
  suffices hr : Ret F (fnV n_q) [sl, .int .i64 a] h fun v h' => ∃ is, v = .tuple #[.int .i64 (k : Int), .bool is] ∧ h' = h ∧ (is = true ↔ ms[k]? = some a) by
    obtain ⟨v, h', e, is, rfl, rfl, h1⟩ := hr
    refine ⟨k, is, e, fun h => h1.1 h, fun h => List.mem_of_getElem? (h1.1 h), fun h => h1.2 ?_⟩
    obtain ⟨j, hj⟩ := List.mem_iff_getElem?.1 h
    have q1 := hc.lo j a hj
    by_cases hjk : j < k
    · have := q1 hjk; omega
    · by_cases e : j = k
      · subst e; exact hj
      · obtain ⟨y, hy⟩ : ∃ y, ms[k]? = some y := ⟨_, List.getElem?_eq_getElem (by have := (List.getElem?_eq_some_iff.1 hj).1; omega)⟩
        have h2 := hc.hi k y hy (Nat.le_refl _)
        have h3 := List.pairwise_iff_getElem.1 hp k j (List.getElem?_eq_some_iff.1 hy).1 (List.getElem?_eq_some_iff.1 hj).1 (by omega)
        rw [(List.getElem?_eq_some_iff.1 hy).2, (List.getElem?_eq_some_iff.1 hj).2] at h3
        omega
  obtain ⟨P, hPd⟩ : ∃ P : Value → H → Prop, P = fun v h' => ∃ is, v = .tuple #[.int .i64 (k : Int), .bool is] ∧ h' = h ∧ (is = true ↔ ms[k]? = some a) := ⟨_, rfl⟩
  rw [← hPd]
  refine Ret.fn F_q 2 (by decide) ?_
  rw [s_q]
  have hsv := hrow.slvM
  have := bsI_loop ms hsz a k hc sl h hrow (P := P) (fun is hi => by rw [hPd]; exact ⟨is, rfl, rfl, hi⟩) ms.length 0 ms.length rfl (Nat.zero_le _) hc.le (Nat.le_refl _)
  refine OkV.eq (this.lp (l_q_1 F _ _ _ _ _ _)) ?_
  simp (disch := omega) [hsv.len]
end Go.Ideal.J
namespace Go.Ideal.J
open Go Go.Ideal
theorem zgn {h : H} {u : Value} {c : List Nat} (hr : Row h 1 u (c.map natL)) {x : Nat} (hx : x < c.length) : ∃ b o cs e, (∀ h', zl 1 u (.int .i64 (x : Int)) h' = some (.pointer (some ⟨b, o, none⟩), h')) ∧ b < h.next ∧ h.get b = some (.cells cs e) ∧ zO 1 (zbh o cs) = some (natL (c.getD x 0)) :=
  hr.index (by rw [List.getElem?_map, List.getD_eq_getElem?_getD, List.getElem?_eq_getElem hx]; rfl)
def ix (ms : List Int) (a : Int) : Option Nat := ms.findIdx? fun m => decide (m = a)
theorem ix_some {ms : List Int} (hp : ms.Pairwise (· < ·)) {a : Int} {k : Nat} (hk : ms[k]? = some a) : ix ms a = some k := by
  unfold ix
  rw [List.findIdx?_eq_some_iff_getElem]
  obtain ⟨h1, h2⟩ := List.getElem?_eq_some_iff.1 hk
  refine ⟨h1, by simpa using h2, fun j hj => ?_⟩
  have := List.pairwise_iff_getElem.1 hp j k (by omega) h1 hj
  simp; omega
theorem ix_none {ms : List Int} {a : Int} (h : a ∉ ms) : ix ms a = none := by
  unfold ix
  rw [List.findIdx?_eq_none_iff]
  intro x hx
  simp; rintro rfl; exact h hx
def lgX (ms : List Int) (cf : Nat → Int) (x : Ed) : Option Ed := match ix ms (cf x.1.toNat), ix ms (cf x.2.1.toNat) with
  | some f, some t => some ((f : Int), (t : Int), x.2.2)
  | _, _ => none
def lgE (ms : List Int) (cf : Nat → Int) (es : List Ed) : List Ed := es.filterMap (lgX ms cf)
theorem lgE_snoc (ms : List Int) (cf : Nat → Int) (es : List Ed) (x : Ed) : lgE ms cf (es ++ [x]) = lgE ms cf es ++ (lgX ms cf x).toList := by
  unfold lgE
  rw [List.filterMap_append]
  congr 1
def clsI (c : List Nat) (a : Nat) : Int := ((c.getD a 0 : Nat) : Int)
theorem jleast8 (es : List Ed) (hsz : es.length ≤ 1000) (N : Nat) (hin : inB (N : Int) es) (lb : Int) (sl cv mv : Value) (c : List Nat) (hc : c.length = N) (ms : List Int) (hms : ms.Pairwise (· < ·)) (hml : ms.length ≤ 1000000) (pr po : Nat) (h0 : H) (hpo : po < h0.next) (hrow0 : Row h0 3 sl (es.map edL)) (hrowc : Row h0 1 cv (c.map natL)) (hrowm : Row h0 1 mv (ms.map intL))
    (hsl : ∀ b o n c, sl = .slice (some ⟨b, o, none⟩) n c → b < po) (hcv : ∀ b o n c, cv = .slice (some ⟨b, o, none⟩) n c → b < po) (hmv : ∀ b o n c, mv = .slice (some ⟨b, o, none⟩) n c → b < po) {P : Value → H → Prop}
    (hP : ∀ (h' : H) (sv : Value) (ob : Option Nat), FrD (fun j => po ≤ j) h0 h' → h'.get po = some (.cells (gL (ms.length : Int) lb sv) 0) → OwnB edL 3 h' sv (lgE ms (clsI c) es) ob → (∀ b, ob = some b → po < b) → OkV (sh (rI G2) c_m_7 (K_m_7 (rI G2)) (setL [p2, p11] [ptr pr, ptr po]) h') P) :
    ∀ (n i : Nat) (h : H) (sv : Value) (ob : Option Nat), i + n = es.length → FrD (fun j => po ≤ j) h0 h → h.get po = some (.cells (gL (ms.length : Int) lb sv) 0) → OwnB edL 3 h sv (lgE ms (clsI c) (es.take i)) ob → (∀ b, ob = some b → po < b) →
    OkV (sh (rI G2) c_m_8 (K_m_8 (rI G2)) (setL [p2, p4, p8, p11, p70, p71, p72] [ptr pr, cv, mv, ptr po, sl, .int .i64 (es.length : Int), .int .i64 (i : Int)]) h) P := by
  intro n
  induction n with
  | zero =>
    intro i h sv ob hi hf hg hgr hob
    have e : i = es.length := by omega
    subst e
    rw [List.take_length] at hgr
    rw [s_m_8]
    refine OkV.eq (hP h sv ob hf hg hgr hob) ?_
    simp (disch := omega)
  | succ n ih =>
    intro i h sv ob hi hf hg hgr hob
    have hil : i < es.length := by omega
    have hfn := hf.next
    have hxin := hin _ (List.getElem_mem hil)
    have htk : es.take (i + 1) = es.take i ++ [es[i]] := by rw [List.take_add_one, List.getElem?_eq_getElem hil]; rfl
    obtain ⟨b1, o1, cs1, e1, hv1, hb1, hg1, ht1⟩ := (hrow0.frD hf (fun b o n c e => by have := hsl b o n c e; omega)).index (i := i) (r := edL es[i]) (by simp [hil])
    generalize es[i] = x at *
    obtain ⟨x1, x2, x3⟩ := x
    obtain ⟨a, ha⟩ := Int.eq_ofNat_of_zero_le hxin.1
    obtain ⟨b, hb⟩ := Int.eq_ofNat_of_zero_le hxin.2.2.1
    simp only at ha hb hxin
    subst ha; subst hb
    have hl1 : (lgE ms (clsI c) (es.take i)).length ≤ i := by
      refine Nat.le_trans (List.length_filterMap_le _ _) ?_
      rw [List.length_take]; omega
    obtain ⟨h1, eh1⟩ : ∃ h1, h1 = h.new (.cells (edL ((a : Int), (b : Int), x3)) 0) := ⟨_, rfl⟩
    have hf1 : Fr h h1 := by rw [eh1]; exact .new _ _
    have hn1 : h1.next = h.next + 1 := by rw [eh1]; simp
    have gx : h1.get h.next = some (.cells (edL ((a : Int), (b : Int), x3)) 0) := by rw [eh1]; simp
    have hf01 : FrD (fun j => po ≤ j) h0 h1 := hf.trans hf1.D
    have rc := hrowc.frD hf01 (fun b o n c e => by have := hcv b o n c e; omega)
    have rm := hrowm.frD hf01 (fun b o n c e => by have := hmv b o n c e; omega)
    obtain ⟨b2, o2, cs2, e2, hv2, hb2, hg2, ht2⟩ := zgn rc (x := a) (by omega)
    obtain ⟨b3, o3, cs3, e3, hv3, hb3, hg3, ht3⟩ := zgn rc (x := b) (by omega)
    obtain ⟨k1, is1, ec1, q1, q2⟩ := bsI_ok ms hml hms (clsI c a) mv h1 rm
    obtain ⟨k2', is2, ec2, q3, q4⟩ := bsI_ok ms hml hms (clsI c b) mv h1 rm
    have ec1 := zbo leG2 ec1
    have ec2 := zbo leG2 ec2
    have hX : lgX ms (clsI c) ((a : Int), (b : Int), x3) = match ix ms (clsI c a), ix ms (clsI c b) with | some f, some t => some ((f : Int), (t : Int), x3) | _, _ => none := rfl
    have gp1 := (hf1.get po (by omega)).trans hg
    have hsv := hgr.slv
    obtain ⟨ca, eca⟩ : ∃ ca, ca = c.getD a 0 := ⟨_, rfl⟩
    obtain ⟨cb, ecb⟩ : ∃ cb, cb = c.getD b 0 := ⟨_, rfl⟩
    rw [show clsI c a = (ca : Int) from by rw [eca]; rfl] at ec1
    rw [show clsI c b = (cb : Int) from by rw [ecb]; rfl] at ec2
    rw [← eca] at ht2
    rw [← ecb] at ht3
    by_cases hb : is1 = true ∧ is2 = true
    · obtain ⟨rfl, rfl⟩ := hb
      rw [ix_some hms (q1 rfl), ix_some hms (q3 rfl)] at hX
      obtain ⟨h2, eh2⟩ : ∃ h2, h2 = h1.new (.cells (edL ((k1 : Int), (k2' : Int), x3)) 0) := ⟨_, rfl⟩
      have hf2 : Fr h1 h2 := by rw [eh2]; exact .new _ _
      have hn2 : h2.next = h.next + 2 := by rw [eh2]; simp; omega
      obtain ⟨h3, sv', ea, hg3', hn3, hf3⟩ := zj0 encE (h := h2) (bytes := 24) (x := ((k1 : Int), (k2' : Int), x3)) (b := h1.next) (e := 0) (hgr.fr (hf1.trans hf2)) (by rw [eh2]; simp) (by omega)
      have gp3 : h3.get po = some (.cells (gL (ms.length : Int) lb sv) 0) := by rw [hf3.get _ (by omega) (fun e => by have := hob _ e; omega), hf2.get _ (by omega)]; exact gp1
      have sv1 := hg3'.slv
      obtain ⟨h4, eh4⟩ : ∃ h4, h4 = h3.put po (.cells (gL (ms.length : Int) lb sv') 0) := ⟨_, rfl⟩
      have hf4 : FrD (fun j => po ≤ j) h0 h4 := by
        rw [eh4]
        exact ((hf01.trans (hf2.D)).trans (hf3.mono fun j _ e => by have := hob _ e; omega)).put (.inr (Nat.le_refl _)) _
      have := ih (i + 1) h4 sv' (some h2.next) (by omega) hf4 (by rw [eh4]; exact zu rfl) (by
        rw [htk, lgE_snoc, hX, eh4]
        exact hg3'.frD ((FrD.refl _ _).put (D := fun j => j = po) (.inr rfl) _) (fun b e e2 => by cases e; omega)) (fun b e => by cases e; omega)
      rw [s_m_8]
      refine OkV.eq (this.lp (l_m_8 G2 _ _ _ _ _ _ _ _)) ?_
      simp (disch := omega) [hil, hv1, hg1, ht1, ← eh1, gx, hv2, hg2, ht2, ec1, hv3, hg3, ht3, ec2, gp1, hsv.take, hsv.one, zr, zk, ← eh2, ea, gp3, sv1.cells, sv1.cell, sv1.clean, ← eh4, s_m_9, zx]
    · have hn : lgX ms (clsI c) ((a : Int), (b : Int), x3) = none := by
        rw [hX]
        by_cases c1 : is1 = true
        · have c2 : is2 ≠ true := fun h => hb ⟨c1, h⟩
          rw [ix_none (a := clsI c b) (fun h => c2 (q4.2 h))]
          cases ix ms (clsI c a) <;> rfl
        · rw [ix_none (a := clsI c a) (fun h => c1 (q2.2 h))]
      have := ih (i + 1) h1 sv ob (by omega) hf01 gp1 (by rw [htk, lgE_snoc, hn]; simpa using hgr.fr hf1) hob
      rw [s_m_8]
      refine OkV.eq (this.lp (l_m_8 G2 _ _ _ _ _ _ _ _)) ?_
      cases is1 with
      | true =>
        have c2 : is2 = false := by cases is2 with | false => rfl | true => exact absurd ⟨rfl, rfl⟩ hb
        subst c2
        simp (disch := omega) [hil, hv1, hg1, ht1, ← eh1, gx, hv2, hg2, ht2, ec1, hv3, hg3, ht3, ec2, s_m_9, zx]
      | false => simp (disch := omega) [hil, hv1, hg1, ht1, ← eh1, gx, hv2, hg2, ht2, ec1, hv3, hg3, ht3, ec2, s_m_9, zx]
end Go.Ideal.J
namespace Go.Ideal.J
open Go Go.Ideal
theorem srtI_lt (l : List Int) : (srtI l).Pairwise (· < ·) := by
  unfold srtI
  refine zgt (fun a b c h1 h2 => by omega) (fun i j a b hij hi hj => ?_) (by rw [List.length_mergeSort]; exact Nat.le_refl _)
  have hp := List.pairwise_mergeSort (le := leI) (fun a b c h1 h2 => by rw [leI_eq] at *; simp at *; omega) (fun a b => by rw [leI_eq, leI_eq]; simp; omega) l
  have := List.pairwise_iff_getElem.1 hp i j (List.getElem?_eq_some_iff.1 hi).1 (List.getElem?_eq_some_iff.1 hj).1 hij
  rw [(List.getElem?_eq_some_iff.1 hi).2, (List.getElem?_eq_some_iff.1 hj).2, leI_eq] at this
  simp at this; omega
theorem srtI_mem (l : List Int) (x : Int) : x ∈ srtI l ↔ x ∈ l := by
  unfold srtI
  rw [ddN_mem (by rw [List.length_mergeSort]; exact Nat.le_refl _), List.take_of_length_le (by rw [List.length_mergeSort]; exact Nat.le_refl _), List.mem_mergeSort]
theorem leE_eq (x y : Ed) : leE x y = !zbf y x := by unfold leE; rw [ltT]
theorem srtE_lt (l : List Ed) : (srtE l).Pairwise (fun a b => zbf a b = true) := by
  unfold srtE
  have tr := fun a b c => swoE.trans a b c
  have nt := fun a b c => swoE.ntrans a b c
  simp only [ltT] at tr nt
  have ir := fun a => swoE.irrefl a
  simp only [ltT] at ir
  refine zgt (fun a b c h1 h2 => tr a b c h1 h2) (fun i j a b hij hi hj => ?_) (by rw [List.length_mergeSort]; exact Nat.le_refl _)
  have hp := List.pairwise_mergeSort (le := leE) (fun a b c h1 h2 => by
      rw [leE_eq] at *
      simp only [Bool.not_eq_true'] at *
      exact nt c b a h2 h1) (fun a b => by
      rw [leE_eq, leE_eq]
      cases h1 : zbf b a with
      | false => rfl
      | true =>
        cases h2 : zbf a b with
        | false => rfl
        | true => have := tr a b a h2 h1; rw [ir] at this; cases this) l
  have := List.pairwise_iff_getElem.1 hp i j (List.getElem?_eq_some_iff.1 hi).1 (List.getElem?_eq_some_iff.1 hj).1 hij
  rw [(List.getElem?_eq_some_iff.1 hi).2, (List.getElem?_eq_some_iff.1 hj).2, leE_eq] at this
  have h1 : zbf b a = false := by simpa using this
  cases h2 : zbf a b with
  | true => exact .inl rfl
  | false =>
    refine .inr (zh9 a b ?_ ?_)
    · rw [ltT]; exact h2
    · rw [ltT]; exact h1
theorem srtE_mem (l : List Ed) (x : Ed) : x ∈ srtE l ↔ x ∈ l := by
  unfold srtE
  rw [ddN_mem (by rw [List.length_mergeSort]; exact Nat.le_refl _), List.take_of_length_le (by rw [List.length_mergeSort]; exact Nat.le_refl _), List.mem_mergeSort]
theorem srtI_len (l : List Int) : (srtI l).length ≤ l.length := ddN_len _ _
theorem srtE_len (l : List Ed) : (srtE l).length ≤ l.length := ddN_len _ _
theorem jleast7 (l : List Ed) (hl : l.length ≤ 1000000) (M lb : Int) (pr po : Nat) (h : H) (sv : Value) (ob : Option Nat) (hne : po ≠ pr) (hpo : po < h.next) (hg : h.get po = some (.cells (gL M lb sv) 0)) (r0 : List Value) (hr0 : r0.length = 3) (hpr : pr < h.next) (hgr : h.get pr = some (.cells r0 0)) (ho : OwnB edL 3 h sv l ob) (hob : ∀ b, ob = some b → b ≠ po ∧ b ≠ pr) {P : Value → H → Prop}
    (hP : ∀ h' u, FrD (fun j => j = po ∨ j = pr ∨ ob = some j) h h' → Row h' 3 u ((srtE l).map edL) → (∀ b o n c, u = .slice (some ⟨b, o, none⟩) n c → ob = some b) → P (zcK (gV M lb u) (.int .i64 0)) h') :
    OkV (sh (rI G2) c_m_7 (K_m_7 (rI G2)) (setL [p2, p11] [ptr pr, ptr po]) h) P := by
  rw [s_m_7]
  have hsv := ho.slv
  obtain ⟨u, h1, e1, hrow, hf1, hub⟩ := sortedE_ok hl ho
  have hfn1 := hf1.next
  have g1 := (hf1.get po hpo (fun e => (hob _ e).1 rfl)).trans hg
  have gr1 := (hf1.get pr hpr (fun e => (hob _ e).2 rfl)).trans hgr
  have su := hrow.slvM
  obtain ⟨a, b, c, rfl⟩ : ∃ a b c, r0 = [a, b, c] := by
    match r0, hr0 with
    | [a, b, c], _ => exact ⟨a, b, c, rfl⟩
  obtain ⟨h2, eh2⟩ : ∃ h2, h2 = h1.put po (.cells (gL M lb u) 0) := ⟨_, rfl⟩
  have g2 : h2.get po = some (.cells (gL M lb u) 0) := by rw [eh2]; exact zu rfl
  have gr2 : h2.get pr = some (.cells [a, b, c] 0) := by rw [eh2, zt (Ne.symm hne)]; exact gr1
  obtain ⟨h3, eh3⟩ : ∃ h3, h3 = h2.put pr (.cells (gL M lb u) 0) := ⟨_, rfl⟩
  have g3 : h3.get pr = some (.cells (gL M lb u) 0) := by rw [eh3]; exact zu rfl
  have hf3 : FrD (fun j => j = po ∨ j = pr ∨ ob = some j) h h3 := by
    rw [eh3, eh2]
    exact ((hf1.mono fun _ _ e => .inr (.inr e)).put (.inr (.inl rfl)) _).put (.inr (.inr (.inl rfl))) _
  have hrow3 : Row h3 3 u ((srtE l).map edL) := by
    rw [eh3, eh2]
    refine hrow.frD (((FrD.refl (fun j => j = po ∨ j = pr) h1).put (.inr (.inl rfl)) _).put (.inr (.inr rfl)) _) fun b o n c e => ?_
    have := hob b (hub b o n c e)
    rintro (h | h)
    · exact this.1 h
    · exact this.2 h
  refine OkV.eq (OkV.val (hP h3 u hf3 hrow3 hub)) ?_
  simp (disch := omega) [hg, hsv.take, hsv.one, e1, g1, su.cells, su.cell, su.clean, su.take, ← eh2, g2, gr2, ← eh3, g3]
structure LstOk (es : List Ed) (N : Nat) (lb : Int) (c : List Nat) (vs : List Int) (ms : List Int) (l : List Ed) : Prop where
  nd : vs.Nodup
  bd : ∀ v ∈ vs, 0 ≤ v ∧ v < N
  rch : ∀ a : Nat, (a : Int) ∈ vs ↔ Rch es a
  hm : ms = srtI (vs.map fun v => clsI c v.toNat)
  hl : l = srtE (lgE ms (clsI c) es)
theorem jleast5 (es : List Ed) (hsz : es.length ≤ 1000) (N : Nat) (hN : N ≤ 200) (hin : inB (N : Int) es) (lb : Int) (sl cv mv : Value) (c : List Nat) (hc : c.length = N) (vs : List Int) (hnd : vs.Nodup) (hbd : ∀ v ∈ vs, 0 ≤ v ∧ v < N) (hrch : ∀ a : Nat, (a : Int) ∈ vs ↔ Rch es a) (pg pr : Nat) (lo : Nat) (h : H) (hlo : lo ≤ h.next) (ob : Option Nat) (ho : OwnB intL 1 h mv (vs.map fun v => clsI c v.toNat) ob) (hob : ∀ b, ob = some b → lo ≤ b)
    (hrow : Row h 3 sl (es.map edL)) (hrowc : Row h 1 cv (c.map natL)) (hsl : ∀ b o n c, sl = .slice (some ⟨b, o, none⟩) n c → b < lo) (hcv : ∀ b o n c, cv = .slice (some ⟨b, o, none⟩) n c → b < lo) (hpg : pg < lo) (hgg : h.get pg = some (.cells (gL (N : Int) lb sl) 0)) (hpr : pr < lo) (r0 : List Value) (hr0 : r0.length = 3) (hgr : h.get pr = some (.cells r0 0)) {P : Value → H → Prop}
    (hP : ∀ h' u ms l, FrD (fun j => j = pr ∨ lo ≤ j) h h' → LstOk es N lb c vs ms l → Row h' 3 u (l.map edL) → (∀ b o n c, u = .slice (some ⟨b, o, none⟩) n c → lo ≤ b) → P (zcK (gV (ms.length : Int) lb u) (.int .i64 0)) h') :
    OkV (sh (rI G2) c_m_5 (K_m_5 (rI G2)) (setL [p1, p2, p4, p8] [ptr pg, ptr pr, cv, mv]) h) P := by
  have hvl : vs.length ≤ N := zcV hnd hbd
  have hsv := hrow.slvM
  rw [s_m_5]
  obtain ⟨mv', h1, e1, hrowm, hf1, hub⟩ := sortedI_ok (l := vs.map fun v => clsI c v.toNat) (by rw [List.length_map]; omega) ho
  obtain ⟨ms, ems⟩ : ∃ ms, ms = srtI (vs.map fun v => clsI c v.toNat) := ⟨_, rfl⟩
  rw [← ems] at hrowm
  have hmsl : ms.length ≤ N := by rw [ems]; refine Nat.le_trans (srtI_len _) ?_; rw [List.length_map]; exact hvl
  have hsm := hrowm.slvM
  have hfn1 := hf1.next
  have nob : ∀ b, b < lo → ¬ ob = some b := fun b hb e => by have := hob b e; omega
  have g1 := (hf1.get pg (by omega) (nob _ hpg)).trans hgg
  obtain ⟨h2, eh2⟩ : ∃ h2, h2 = h1.new (.cells (gL (ms.length : Int) lb (.slice none 0 0)) 0) := ⟨_, rfl⟩
  have hf2 : Fr h1 h2 := by rw [eh2]; exact .new _ _
  have hn2 : h2.next = h1.next + 1 := by rw [eh2]; simp
  have gp2 : h2.get h1.next = some (.cells (gL (ms.length : Int) lb (.slice none 0 0)) 0) := by rw [eh2]; simp
  have g2 := (hf2.get pg (by omega)).trans g1
  have hf12 : FrD (fun j => ob = some j) h h2 := hf1.trans hf2.D
  have hmv : ∀ b o n c, mv' = .slice (some ⟨b, o, none⟩) n c → b < h1.next := fun b o n c e => hrowm.lt e
  have := jleast8 es hsz N hin lb sl cv mv' c hc ms (by rw [ems]; exact srtI_lt _) (by omega) pr h1.next h2 (by omega) (hrow.frD hf12 fun b o n c e => nob b (hsl b o n c e)) (hrowc.frD hf12 fun b o n c e => nob b (hcv b o n c e)) (hrowm.fr hf2) (fun b o n c e => by have := hsl b o n c e; omega) (fun b o n c e => by have := hcv b o n c e; omega) hmv (P := P)
    (fun h' sv ob' hf' hg' ho' hob' => by
      have hfn' := hf'.next
      refine jleast7 (lgE ms (clsI c) es) (by refine Nat.le_trans (List.length_filterMap_le _ _) ?_; omega) (ms.length : Int) lb pr h1.next h' sv ob' (by omega) (by omega) hg' r0 hr0 (by omega) ?_ ho' (fun b e => by have := hob' b e; omega) (fun h'' u hf'' hrow'' hub'' => ?_)
      · rw [hf'.get pr (by omega) (by omega), hf2.get pr (by omega), hf1.get pr (by omega) (nob _ hpr)]; exact hgr
      · have hfn'' := hf''.next
        refine hP h'' u ms _ ⟨by omega, fun i hi hd => ?_⟩ ⟨hnd, hbd, hrch, ems, rfl⟩ hrow'' (fun b o n c e => by have := hob' b (hub'' b o n c e); omega)
        have h1 : ¬ i = pr := fun e => hd (.inl e)
        have h2 : i < lo := by
          rcases Nat.lt_or_ge i lo with h | h
          · exact h
          · exact absurd (.inr h) hd
        rw [hf''.get i (by omega) ?_, hf'.get i (by omega) (by omega), hf2.get i (by omega), hf1.get i (by omega) (nob _ h2)]
        rintro (h | h | h)
        · omega
        · exact h1 h
        · have := hob' _ h; omega) es.length 0 h2 _ none (by omega) (.refl _ _) gp2 (.inl ⟨rfl, rfl, by simp [lgE]⟩) (by simp)
  refine OkV.eq (this.lp (l_m_8 G2 _ _ _ _ _ _ _ _)) ?_
  simp (disch := omega) [e1, hsm.len, g1, zr, ← eh2, g2, hsv.take, hsv.one, hsv.len]
end Go.Ideal.J
namespace Go.Ideal.J
open Go Go.Ideal
section
variable (es : List Ed) (hsz : es.length ≤ 1000) (N : Nat) (hN : N ≤ 200) (hin : inB (N : Int) es) (lb : Int) (sl cv : Value) (c : List Nat) (hc : c.length = N) (vs : List Int) (hnd : vs.Nodup) (hbd : ∀ v ∈ vs, 0 ≤ v ∧ v < N) (hrch : ∀ a : Nat, (a : Int) ∈ vs ↔ Rch es a) (pg pr : Nat) (lo : Nat) (h0 : H) (hlo : lo ≤ h0.next)
  (hrow : Row h0 3 sl (es.map edL)) (hrowc : Row h0 1 cv (c.map natL)) (hsl : ∀ b o n c, sl = .slice (some ⟨b, o, none⟩) n c → b < lo) (hcv : ∀ b o n c, cv = .slice (some ⟨b, o, none⟩) n c → b < lo) (hpg : pg < lo) (hgg : h0.get pg = some (.cells (gL (N : Int) lb sl) 0)) (hpr : pr < lo) (r0 : List Value) (hr0 : r0.length = 3) (hgr : h0.get pr = some (.cells r0 0)) {P : Value → H → Prop}
  (hP : ∀ h' u ms l, FrD (fun j => j = pr ∨ lo ≤ j) h0 h' → LstOk es N lb c vs ms l → Row h' 3 u (l.map edL) → (∀ b o n c, u = .slice (some ⟨b, o, none⟩) n c → lo ≤ b) → P (zcK (gV (ms.length : Int) lb u) (.int .i64 0)) h')
include hsz hN hin hc hnd hbd hrch hlo hrow hrowc hsl hcv hpg hgg hpr hr0 hgr hP
theorem jleast6 (slv : Value) (ob0 : Option Nat) (hvs : Grow h0 1 slv (vs.map inL) ob0) : ∀ (n i : Nat) (h : H) (mv : Value) (ob : Option Nat), i + n = vs.length → FrD (fun j => h0.next ≤ j) h0 h → OwnB intL 1 h mv ((vs.take i).map fun v => clsI c v.toNat) ob → (∀ b, ob = some b → h0.next ≤ b) →
    OkV (sh (rI G2) c_m_6 (K_m_6 (rI G2)) (setL [p1, p2, p4, p8, p48, p49, p50] [ptr pg, ptr pr, cv, mv, slv, .int .i64 (vs.length : Int), .int .i64 (i : Int)]) h) P := by
  have hvl : vs.length ≤ N := zcV hnd hbd
  intro n
  induction n with
  | zero =>
    intro i h mv ob hi hf ho hob
    have e : i = vs.length := by omega
    subst e
    rw [List.take_length] at ho
    have hfn := hf.next
    rw [s_m_6]
    refine OkV.eq (jleast5 es hsz N hN hin lb sl cv mv c hc vs hnd hbd hrch pg pr lo h (by omega) ob ho (fun b e => by have := hob b e; omega) (hrow.frD hf fun b o n c e => by have := hrow.lt e; omega) (hrowc.frD hf fun b o n c e => by have := hrowc.lt e; omega) hsl hcv hpg ((hf.get _ (by omega) (by omega)).trans hgg) hpr r0 hr0 ((hf.get _ (by omega) (by omega)).trans hgr) (P := P) (fun h' u ms l hf' a b d => hP h' u ms l ((hf.mono fun j _ e => .inr (by omega)).trans hf') a b d)) ?_
    simp (disch := omega)
  | succ n ih =>
    intro i h mv ob hi hf ho hob
    have hil : i < vs.length := by omega
    have hfn := hf.next
    obtain ⟨v, hv⟩ : ∃ v, vs[i]? = some v := ⟨_, List.getElem?_eq_getElem hil⟩
    have hvb := hbd v (List.mem_of_getElem? hv)
    obtain ⟨a, ha⟩ := Int.eq_ofNat_of_zero_le hvb.1
    subst ha
    have rv := (hvs.frD hf fun b e => by subst e; have := hvs.lt; omega).row (by omega)
    obtain ⟨b1, o1, cs1, e1, hv1, hb1, hg1, ht1⟩ := rv.index (i := i) (r := inL (a : Int)) (by rw [List.getElem?_map, hv]; rfl)
    obtain ⟨b2, o2, cs2, e2, hv2, hb2, hg2, ht2⟩ := zgn (hrowc.frD hf fun b o n c e => by have := hrowc.lt e; omega) (x := a) (by omega)
    obtain ⟨ca, eca⟩ : ∃ ca, ca = c.getD a 0 := ⟨_, rfl⟩
    rw [← eca] at ht2
    obtain ⟨h1, eh1⟩ : ∃ h1, h1 = h.new (.cells (intL (ca : Int)) 0) := ⟨_, rfl⟩
    have hf1 : Fr h h1 := by rw [eh1]; exact .new _ _
    have hn1 : h1.next = h.next + 1 := by rw [eh1]; simp
    obtain ⟨h2, mv', ea, ho2, hn2, hf2⟩ := zj0 encI (h := h1) (bytes := 8) (x := (ca : Int)) (b := h.next) (e := 0) (ho.fr hf1) (by rw [eh1]; simp) (by rw [List.length_map, List.length_take]; omega)
    have htk : (vs.take (i + 1)).map (fun v => clsI c v.toNat) = (vs.take i).map (fun v => clsI c v.toNat) ++ [(ca : Int)] := by
      rw [List.take_add_one, hv, List.map_append, eca]; rfl
    have := ih (i + 1) h2 mv' (some h1.next) (by omega) ((hf.trans hf1.D).trans (hf2.mono fun j _ e => hob j e)) (by rw [htk]; exact ho2) (fun b e => by cases e; omega)
    rw [s_m_6]
    refine OkV.eq (this.lp (l_m_6 G2 _ _ _ _ _ _ _ _)) ?_
    unfold intL at eh1
    simp (disch := omega) [hil, hv1, hg1, ht1, hv2, hg2, ht2, zr, zk, ← eh1, ea, zx]
theorem jleast0 (slv : Value) (ob0 : Option Nat) (hvs : Grow h0 1 slv (vs.map inL) ob0) (pb : Nat) (hgb : h0.get pb = some (.cells [slv] 0)) :
    OkV (sh (rI G2) zjr (zjw (rI G2)) (setL [p1, p2, p4, p5] [ptr pg, ptr pr, cv, ptr pb]) h0) P := by
  have sv := hvs.slvM
  have := jleast6 es hsz N hN hin lb sl cv c hc vs hnd hbd hrch pg pr lo h0 hlo hrow hrowc hsl hcv hpg hgg hpr r0 hr0 hgr hP slv ob0 hvs vs.length 0 h0 (.slice none 0 0) none (by omega) (.refl _ _) (.inl ⟨rfl, rfl, by simp⟩) (by simp)
  rw [s_m_0]
  refine OkV.eq (this.lp (l_m_6 G2 _ _ _ _ _ _ _ _)) ?_
  simp (disch := omega) [hgb, sv.take, sv.one, sv.len]
end
def LstA (st lb : Int) (es : List Ed) (v : Value) (lo : Nat) (h' : H) : Prop :=
  (chk st lb es = false ∧ v = zcK (gV 0 0 (.slice none 0 0)) (.int .i64 2)) ∨
  (chk st lb es = true ∧ ∃ u k vs ms l, v = zcK (gV ((ms : List Int).length : Int) lb u) (.int .i64 0) ∧ fnd (rN es st.toNat k) es ((k : Int) + 1) st.toNat = [] ∧ LstOk es st.toNat lb (cls (alk es st.toNat k) st.toNat).1 vs ms l ∧ Row h' 3 u (l.map edL) ∧ ∀ b o n c, u = .slice (some ⟨b, o, none⟩) n c → lo ≤ b)
theorem jLeast_ok (st lb : Int) (es : List Ed) (sl : Value) (h : H) (hrow : Row h 3 sl (es.map edL)) :
    Ret G2 (fnV n_m) [gV st lb sl] h fun v h' => Fr h h' ∧ LstA st lb es v h.next h' := by
  obtain ⟨P, hPd⟩ : ∃ P : Value → H → Prop, P = fun v h' => Fr h h' ∧ LstA st lb es v h.next h' := ⟨_, rfl⟩
  rw [← hPd]
  have hsv := hrow.slvM
  refine Ret.fn (leG2 _ _ F_m) 1 (by decide) ?_
  rw [s_m]
  obtain ⟨q, eq⟩ : ∃ q, q = h.next := ⟨_, rfl⟩
  obtain ⟨h1, eh1⟩ : ∃ h1, h1 = (h.new (.cells (gL st lb sl) 0)).new (.cells (gL 0 0 (.slice none 0 0)) 0) := ⟨_, rfl⟩
  have hf1 : Fr h h1 := by rw [eh1]; exact (Fr.new _ _).newR _
  have hn1 : h1.next = q + 2 := by rw [eh1, eq]; simp
  have g0 : h1.get q = some (.cells (gL st lb sl) 0) := by rw [eh1, eq]; simp (disch := omega)
  have gr : h1.get (q + 1) = some (.cells (gL 0 0 (.slice none 0 0)) 0) := by rw [eh1, eq]; simp (disch := omega)
  obtain ⟨h2, e2, hf2⟩ := zfV st lb sl es h1 (hrow.fr hf1)
  have e2 := zbo leG2 e2
  have hfn2 := hf2.next
  have g02 := (hf2.get _ (by omega)).trans g0
  have gr2 := (hf2.get _ (by omega)).trans gr
  cases hc : chk st lb es with
  | false =>
    rw [hc] at e2
    obtain ⟨h3, eh3⟩ : ∃ h3, h3 = h2.put (q + 1) (.cells (gL 0 0 (.slice none 0 0)) 0) := ⟨_, rfl⟩
    have g3 : h3.get (q + 1) = some (.cells (gL 0 0 (.slice none 0 0)) 0) := by rw [eh3]; exact zu rfl
    refine OkV.eq (OkV.val (v := zcK (gV 0 0 (.slice none 0 0)) (.int .i64 2)) (h := h3) (by
      rw [hPd]
      refine ⟨(hf1.trans hf2).transD (D := fun j => j = q + 1) (by rw [eh3]; exact (FrD.refl (fun j => j = q + 1) _).put (.inr rfl) _) (fun i hi => by omega), .inl ⟨hc, rfl⟩⟩)) ?_
    simp (disch := first | omega | (simp only [zb, za]; done) | (simp only [zb, za]; omega)) [↓zE, ↓zK, ↓zA, hsv.clean, hsv.take, ← eq, ← eh1, g0, e2, erk, zr, gr2, ← eh3, g3]
  | true =>
    rw [hc] at e2
    have fm := (zgv st lb es).1 hc
    obtain ⟨N, rfl⟩ := Int.eq_ofNat_of_zero_le (show 0 ≤ st by have := fm.st1; omega)
    have hN := fm.st2
    have hN1 := fm.st1
    have hlen := fm.len
    obtain ⟨cv, h3, k, ob, e3, hf3, hk, hg3, hob⟩ := zjW es fm.sortedF (by omega) N (by omega) fm.inB lb sl h2 ((hrow.fr hf1).fr hf2)
    have e3 := zbo leG2 e3
    have hfn3 := hf3.next
    obtain ⟨c, ec⟩ : ∃ c, c = (cls (alk es N k) N).1 := ⟨_, rfl⟩
    have hcl : c.length = N := by rw [ec]; exact (zgY (zgD fm.inB hk) N (Nat.le_refl _)).len
    rw [← ec] at hg3
    have g03 := (hf3.get _ (by omega)).trans g02
    have gr3 := (hf3.get _ (by omega)).trans gr2
    obtain ⟨h4, eh4⟩ : ∃ h4, h4 = h3.new (.cells (inL 0) 0) := ⟨_, rfl⟩
    have hf4 : Fr h3 h4 := by rw [eh4]; exact .new _ _
    have hn4 : h4.next = h3.next + 1 := by rw [eh4]; simp
    have ga4 : h4.get h3.next = some (.cells (inL 0) 0) := by rw [eh4]; simp
    obtain ⟨slv, eslv⟩ : ∃ slv : Value, slv = .slice (some ⟨h3.next, 0, none⟩) 1 1 := ⟨_, rfl⟩
    obtain ⟨h5, eh5⟩ : ∃ h5, h5 = h4.new (.cells [slv] 0) := ⟨_, rfl⟩
    have hf5 : Fr h4 h5 := by rw [eh5]; exact .new _ _
    have hn5 : h5.next = h3.next + 2 := by rw [eh5]; simp; omega
    have gb5 : h5.get (h3.next + 1) = some (.cells [slv] 0) := by rw [eh5, ← hn4]; simp
    have hgrow : Grow h5 1 slv ([(0 : Int)].map inL) (some h3.next) := by
      have := Grow.full (h := h5) (sz := 1) (b := h3.next) (e := 0) (rows := [inL 0]) (by omega) ((hf5.get _ (by omega)).trans ga4) (by simp) (by decide)
      rw [eslv]; exact this
    have hF3 : Fr h h3 := (hf1.trans hf2).trans hf3
    have hF5 : Fr h h5 := (hF3.trans hf4).trans hf5
    have hrowc := hg3.row (by omega)
    have := jleast_loop es fm.sortedF (by omega) N lb fm.inB (by omega) sl (.int .i64 0) cv q (q + 1) (h3.next + 1) h3 (hrow.fr hF3) (by omega) g03 (by omega) (P := P)
      (fun h' slv' vs ob' hf' hgb' hpb' hgr' hob' hnd hbd hrch => by
        have hfn' := hf'.next
        refine jleast0 es (by omega) N (by omega) fm.inB lb sl cv c hcl vs hnd hbd hrch q (q + 1) h3.next h' (by omega) ((hrow.fr hF3).fr hf') (hrowc.fr hf') (fun b o n c e => by have := hrow.lt e; omega) (fun b o n c e => hrowc.lt e) (by omega) ((hf'.get _ (by omega)).trans g03) (by omega) _ rfl ((hf'.get _ (by omega)).trans gr3) (fun h'' u ms l hf'' hok hrow'' hu => ?_) slv' ob' hgr' (h3.next + 1) hgb'
        have hfn'' := hf''.next
        rw [hPd]
        refine ⟨⟨by omega, fun i hi => ?_⟩, .inr ⟨hc, u, k, vs, ms, l, rfl, ?_, ?_, hrow'', fun b o n c e => by have := hu b o n c e; omega⟩⟩
        · rw [hf''.get i (by omega) (by omega), hf'.get i (by omega), hF3.get i hi]
        · simpa using hk
        · rw [ec] at hok; simpa using hok) N 0 h5 [0] slv (some h3.next) rfl (hf4.trans hf5) gb5 (by omega) hgrow (fun b e => by cases e; omega) (by simp) (by simp; omega) (by simp) (by simp) (by simpa using Rch.zero) (by simp)
    refine OkV.eq (this.lp (l_m_1 G2 _ _ _ _ _ _ _)) ?_
    have bs : zM 1 [Value.int .i64 0] h3 = some (slv, h4) := by rw [vSlice_eq, eslv, eh4]
    have sc : zj slv = [slv] := by rw [eslv]; rfl
    have si : z6 slv = true := by rw [eslv]; rfl
    simp (disch := first | omega | (simp only [zb, za]; done) | (simp only [zb, za]; omega)) [↓zE, ↓zK, ↓zA, hsv.clean, hsv.take, ← eq, ← eh1, g0, e2, erk, g02, e3, zr, zk, ← eh4, ← eslv, sc, si, hn4, ← eh5]
end Go.Ideal.J
namespace Go.Ideal.J
open Go Go.Ideal
def z0 (x : Ed) : Ed := (x.1, x.2.1, 0)
theorem inB_z0 {st : Int} {es : List Ed} (h : inB st es) : inB st (es.map z0) := by
  intro x hx
  obtain ⟨y, hy, rfl⟩ := List.mem_map.1 hx
  exact h y hy
theorem rch_sil {es : List Ed} {k : Nat} : Rch es k ↔ Sil (es.map z0) 0 k := by
  constructor
  · intro h
    induction h with
    | zero => exact .refl
    | @step x _ hx ih => exact .step (x := z0 x) ih (List.mem_map_of_mem hx) rfl
  · intro h
    induction h with
    | refl => exact .zero
    | @step x _ hx h0 ih =>
      obtain ⟨y, hy, rfl⟩ := List.mem_map.1 hx
      exact .step (x := y) ih hy
section
variable (es : List Ed) (hsz : es.length ≤ 1000) (N : Nat) (hN : N ≤ 1000) (hin : inB (N : Int) es) (lb : Int) (sl : Value) (pg q : Nat) (h0 : H) (hrow0 : Row h0 3 sl (es.map edL)) (hpg : pg < h0.next) (hgg : h0.get pg = some (.cells (gL (N : Int) lb sl) 0)) (hq : q < h0.next) (hpq : pg ≠ q) (hsl : ∀ b o n c, sl = .slice (some ⟨b, o, none⟩) n c → b ≠ q) {P : Value → H → Prop}
include hsz hN hin hrow0 hpg hgg hq hpq hsl
theorem rch_pass : ∀ (n i : Nat) (h : H) (bs : List Bool) (ag : Bool), i + n = es.length → FrD (fun j => j = q) h0 h → h.get q = some (.cells (zZ bs) 0) → bs.length = N →
    (∀ h', FrD (fun j => j = q) h0 h' → h'.get q = some (.cells (zZ (zdu ((es.drop i).map z0) bs ag).1) 0) → OkV (sh (rI F) c_o_1 (K_o_1 (rI F)) (setL [p1, p3, p4] [ptr pg, slF q N, .bool (zdu ((es.drop i).map z0) bs ag).2]) h') P) →
    OkV (sh (rI F) c_o_2 (K_o_2 (rI F)) (setL [p1, p3, p4, p5] [ptr pg, slF q N, .bool ag, .int .i64 (i : Int)]) h) P := by
  intro n
  have sv := hrow0.slvM
  induction n with
  | zero =>
    intro i h bs ag hi hf hg hb hk
    have hfn := hf.next
    have g0 := (hf.get _ hpg hpq).trans hgg
    have hd : es.drop i = [] := List.drop_eq_nil_of_le (by omega)
    rw [hd] at hk
    rw [s_o_2]
    refine OkV.eq ((hk h hf hg).lp (l_o_1 F _ _ _ _)) ?_
    simp (disch := omega) [g0, sv.take, sv.one, sv.len, zdu]
  | succ n ih =>
    intro i h bs ag hi hf hg hb hk
    have hfn := hf.next
    have g0 := (hf.get _ hpg hpq).trans hgg
    have hil : i < es.length := by omega
    have hxin := hin _ (List.getElem_mem hil)
    obtain ⟨b1, o1, cs1, e1, hv1, hb1, hg1, ht1⟩ := (hrow0.frD hf hsl).index (i := i) (r := edL es[i]) (by simp [hil])
    have hd : es.drop i = es[i] :: es.drop (i + 1) := List.drop_eq_getElem_cons hil
    rw [hd] at hk
    generalize es[i] = x at *
    obtain ⟨x1, x2, x3⟩ := x
    obtain ⟨a, ha⟩ := Int.eq_ofNat_of_zero_le hxin.1
    obtain ⟨b, hb'⟩ := Int.eq_ofNat_of_zero_le hxin.2.2.1
    simp only at ha hb' hxin
    subst ha; subst hb'
    have ja : a < bs.length := by omega
    have jb : b < bs.length := by omega
    obtain ⟨ba, eba⟩ : ∃ ba, bs[a]? = some ba := ⟨_, List.getElem?_eq_getElem ja⟩
    obtain ⟨bb, ebb⟩ : ∃ bb, bs[b]? = some bb := ⟨_, List.getElem?_eq_getElem jb⟩
    have r1 : zO 1 (zbh a (zZ bs)) = some [.bool ba] := zb3 (by unfold zZ; rw [List.getElem?_map, eba]; rfl) rfl
    have r2 : zO 1 (zbh b (zZ bs)) = some [.bool bb] := zb3 (by unfold zZ; rw [List.getElem?_map, ebb]; rfl) rfl
    obtain ⟨cs', ecs⟩ : ∃ cs', cs' = zZ (bs.set b true) := ⟨_, rfl⟩
    have r3 : zJ (zZ bs) b [.bool true] = some cs' := by
      rw [zdq (by simpa using jb), ecs]; simp [List.map_set]
    have hhit : hit (z0 ((a : Int), (b : Int), x3)) bs = (ba && !bb) := by
      unfold hit z0; simp [eba, ebb]
    obtain ⟨h1, eh1⟩ : ∃ h1, h1 = h.new (.cells (edL ((a : Int), (b : Int), x3)) 0) := ⟨_, rfl⟩
    have hf1 : Fr h h1 := by rw [eh1]; exact .new _ _
    have hn1 : h1.next = h.next + 1 := by rw [eh1]; simp
    have gx : h1.get h.next = some (.cells (edL ((a : Int), (b : Int), x3)) 0) := by rw [eh1]; simp
    have gq1 := (hf1.get q (by omega)).trans hg
    rw [s_o_2]
    by_cases hc : ba = true ∧ bb = false
    · obtain ⟨rfl, rfl⟩ := hc
      obtain ⟨h2, eh2⟩ : ∃ h2, h2 = h1.put q (.cells cs' 0) := ⟨_, rfl⟩
      have := ih (i + 1) h2 (bs.set b true) true (by omega) (by rw [eh2]; exact (hf.trans hf1.D).put (.inr rfl) _) (by rw [eh2, ecs]; exact zu rfl) (by simpa using hb) (by
        rw [List.map_cons] at hk
        unfold zdu at hk
        rw [if_pos (by rw [hhit]; rfl)] at hk
        exact hk)
      refine OkV.eq (this.lp (l_o_2 F _ _ _ _ _)) ?_
      simp (disch := omega) [g0, sv.take, sv.one, sv.len, hil, hv1, hg1, ht1, ← eh1, gx, gq1, r1, r2, r3, ← eh2, s_o_3, zx]
    · have := ih (i + 1) h1 bs ag (by omega) (hf.trans hf1.D) gq1 hb (by
        rw [List.map_cons] at hk
        unfold zdu at hk
        rw [if_neg (by rw [hhit]; cases ba <;> cases bb <;> simp_all)] at hk
        exact hk)
      refine OkV.eq (this.lp (l_o_2 F _ _ _ _ _)) ?_
      cases ba with
      | false => simp (disch := omega) [g0, sv.take, sv.one, sv.len, hil, hv1, hg1, ht1, ← eh1, gx, gq1, r1, r2, s_o_3, zx]
      | true =>
        have : bb = true := by cases bb with | true => rfl | false => exact absurd ⟨rfl, rfl⟩ hc
        subst this
        simp (disch := omega) [g0, sv.take, sv.one, sv.len, hil, hv1, hg1, ht1, ← eh1, gx, gq1, r1, r2, s_o_3, zx]
theorem rch_outer {I : List Bool → Prop} (hI : ∀ x ∈ es.map z0, ∀ bs, I bs → hit x bs = true → I (bs.set x.2.1.toNat true))
    (hP : ∀ h' bs, FrD (fun j => j = q) h0 h' → h'.get q = some (.cells (zZ bs) 0) → bs.length = N → I bs → (∀ x ∈ es.map z0, hit x bs = false) → P (slF q N) h') :
    ∀ (m : Nat) (h : H) (bs : List Bool) (ag : Bool), unm bs + (if ag then 1 else 0) ≤ m → (ag = false → ∀ x ∈ es.map z0, hit x bs = false) → I bs → bs.length = N → FrD (fun j => j = q) h0 h → h.get q = some (.cells (zZ bs) 0) →
    OkV (sh (rI F) c_o_1 (K_o_1 (rI F)) (setL [p1, p3, p4] [ptr pg, slF q N, .bool ag]) h) P := by
  intro m
  induction m with
  | zero =>
    intro h bs ag hm hst hi hb hf hg
    cases ag with
    | true => simp at hm
    | false =>
      refine OkV.eq (OkV.val (hP h bs hf hg hb hi (hst rfl))) ?_
      rw [s_o_1]
      simp [s_o_0]
  | succ m ih =>
    intro h bs ag hm hst hi hb hf hg
    cases ag with
    | false =>
      refine OkV.eq (OkV.val (hP h bs hf hg hb hi (hst rfl))) ?_
      rw [s_o_1]
      simp [s_o_0]
    | true =>
      have hm' : unm bs ≤ m := by simp at hm; omega
      have hu := zh1 (es.map z0) bs false (inB_z0 hin) (by omega)
      have main := rch_pass es hsz N hN hin lb sl pg q h0 hrow0 hpg hgg hq hpq hsl (P := P) es.length 0 h bs false (by omega) hf hg hb (fun h' hf' hg' => by
        rw [List.drop_zero] at *
        refine ih h' _ _ ?_ ?_ (zh4 (es.map z0) bs false hI hi) (by rw [zh3]; exact hb) hf' hg'
        · simp at hu; split at hu <;> simp_all <;> omega
        · intro hx
          obtain ⟨e1, e2⟩ := zh2 (es.map z0) bs hx
          rw [e1]; exact e2)
      rw [s_o_1]
      refine OkV.eq (main.lp (l_o_2 F _ _ _ _ _)) ?_
      simp
end
theorem reached_ok (es : List Ed) (hsz : es.length ≤ 1000) (N : Nat) (hN : N ≤ 1000) (hN1 : 0 < N) (hin : inB (N : Int) es) (lb : Int) (sl : Value) (h : H) (hrow : Row h 3 sl (es.map edL)) :
    ∃ h' bs, zbm F (fnV n_o) [gV (N : Int) lb sl] h = some (slF (h.next + 1) N, h') ∧ Fr h h' ∧ h.next + 1 < h'.next ∧ h'.get (h.next + 1) = some (.cells (zZ bs) 0) ∧ bs.length = N ∧ ∀ k : Nat, bs[k]? = some true ↔ Rch es k := by
  suffices hr : Ret F (fnV n_o) [gV (N : Int) lb sl] h fun v h' => v = slF (h.next + 1) N ∧ ∃ bs, Fr h h' ∧ h.next + 1 < h'.next ∧ h'.get (h.next + 1) = some (.cells (zZ bs) 0) ∧ bs.length = N ∧ ∀ k : Nat, bs[k]? = some true ↔ Rch es k by
    obtain ⟨v, h', e, rfl, bs, q⟩ := hr; exact ⟨h', bs, e, q⟩
  obtain ⟨P, hPd⟩ : ∃ P : Value → H → Prop, P = fun v h' => v = slF (h.next + 1) N ∧ ∃ bs, Fr h h' ∧ h.next + 1 < h'.next ∧ h'.get (h.next + 1) = some (.cells (zZ bs) 0) ∧ bs.length = N ∧ ∀ k : Nat, bs[k]? = some true ↔ Rch es k := ⟨_, rfl⟩
  rw [← hPd]
  have sv := hrow.slvM
  obtain ⟨q, eq⟩ : ∃ q, q = h.next := ⟨_, rfl⟩
  obtain ⟨b0, eb0⟩ : ∃ b0 : List Bool, b0 = (List.replicate N false).set 0 true := ⟨_, rfl⟩
  obtain ⟨h1, eh1⟩ : ∃ h1, h1 = h.new (.cells (gL (N : Int) lb sl) 0) := ⟨_, rfl⟩
  have hf1 : Fr h h1 := by rw [eh1]; exact .new _ _
  have hn1 : h1.next = q + 1 := by rw [eh1, eq]; simp
  have g01 : h1.get q = some (.cells (gL (N : Int) lb sl) 0) := by rw [eh1, eq]; simp
  obtain ⟨c0, ec0⟩ : ∃ c0, c0 = zZ (List.replicate N false) := ⟨_, rfl⟩
  obtain ⟨c1, ec1⟩ : ∃ c1, c1 = zZ b0 := ⟨_, rfl⟩
  obtain ⟨h2, eh2⟩ : ∃ h2, h2 = h1.new (.cells c0 0) := ⟨_, rfl⟩
  have hf2 : Fr h1 h2 := by rw [eh2]; exact .new _ _
  have hn2 : h2.next = q + 2 := by rw [eh2]; simp; omega
  have gb2 : h2.get (q + 1) = some (.cells c0 0) := by rw [eh2, ← hn1]; simp
  have mk : zV 1 [.bool false] h1 (.int .i64 (N : Int)) (.int .i64 (N : Int)) = some (slF (q + 1) N, h2) := by rw [make_bools hN, eh2, hn1, ec0]
  have hset : zJ c0 0 [.bool true] = some c1 := by
    rw [ec0, ec1, zdq (by simpa using hN1), eb0]; simp [List.map_set]
  obtain ⟨h3, eh3⟩ : ∃ h3, h3 = h2.put (q + 1) (.cells c1 0) := ⟨_, rfl⟩
  have hf3 : FrD (fun j => j = q + 1) h2 h3 := by rw [eh3]; exact (FrD.refl (fun j => j = q + 1) _).put (.inr rfl) _
  have hn3 : h3.next = q + 2 := by rw [eh3]; simpa using hn2
  have g03 : h3.get q = some (.cells (gL (N : Int) lb sl) 0) := by rw [eh3, zt (by omega), hf2.get _ (by omega)]; exact g01
  have hF2 := hf1.trans hf2
  have hF3 : Fr h h3 := hF2.transD hf3 (fun i hi => by omega)
  have hlt : ∀ b o n c, sl = .slice (some ⟨b, o, none⟩) n c → b < q := fun b o n c e => by have := hrow.lt e; omega
  have hb0 : b0.length = N := by rw [eb0]; simp
  have hIs : ∀ x ∈ es.map z0, ∀ bs : List Bool, (bs.length = N ∧ bs[0]? = some true ∧ isSil (es.map z0) 0 bs) → hit x bs = true → ((bs.set x.2.1.toNat true).length = N ∧ (bs.set x.2.1.toNat true)[0]? = some true ∧ isSil (es.map z0) 0 (bs.set x.2.1.toNat true)) := by
    rintro x hx bs ⟨i1, i2, i3⟩ hh
    have hb := inB_z0 hin x hx
    refine ⟨by simpa using i1, ?_, fun k hk => ?_⟩
    · rw [List.getElem?_set]; split
      · simp; omega
      · exact i2
    · rw [List.getElem?_set] at hk
      split at hk
      · rename_i e
        subst e
        simp only [hit, Bool.and_eq_true, decide_eq_true_eq] at hh
        refine .step (i3 _ ?_) hx hh.1
        have := hh.2.1
        cases e : bs[x.1.toNat]? with
        | none => rw [e] at this; cases this
        | some b => rw [e] at this; simp at this; rw [this]
      · exact i3 k hk
  have := rch_outer es hsz N hN hin lb sl q (q + 1) h3 (hrow.fr hF3) (by omega) g03 (by omega) (by omega) (fun b o n c e => by have := hlt b o n c e; omega) (P := P) (I := fun bs => bs.length = N ∧ bs[0]? = some true ∧ isSil (es.map z0) 0 bs) hIs
    (fun h' bs hf' hg' hb' hI' hc' => by
      have hfn' := hf'.next
      rw [hPd, ← eq]
      refine ⟨rfl, bs, hF3.transD hf' (fun i hi => by omega), by omega, hg', hb', fun k => ?_⟩
      rw [rch_sil]
      exact ⟨fun hk => hI'.2.2 k hk, fun hk => sil_closed (st := (N : Int)) (inB_z0 hin) (by omega) hI'.2.1 hc' hk⟩) (unm b0 + 1) h3 b0 true (by simp) (by simp) ⟨hb0, by rw [eb0]; simp [hN1], fun k hk => by
      rw [eb0, List.getElem?_set] at hk
      split at hk
      · rename_i e; subst e; exact .refl
      · simp [List.getElem?_replicate] at hk⟩ hb0 (.refl _ _) (by rw [eh3, ec1]; exact zu rfl)
  refine Ret.fn F_o 1 (by decide) ?_
  rw [s_o]
  refine OkV.eq (this.lp (l_o_1 F _ _ _ _)) ?_
  simp (disch := omega) [sv.clean, ← eq, ← eh1, g01, mk, gb2, hset, ← eh3]
end Go.Ideal.J
namespace Go.Ideal.J
open Go Go.Ideal
theorem zfx {h : H} {sz bytes : Nat} {v w : Value} {rows news : List (List Value)} {ob : Option Nat} (hs : 0 < sz) (hsb : sz ≠ roE) (hg : Grow h sz v rows ob) (hrow : Row h sz w news) (hr : ∀ r ∈ news, r.length = sz ∧ r.all zR = true) (hi : ∀ r ∈ news, r.all z6 = true) (hsz : (rows.length + news.length) * bytes ≤ 1073741824) :
    ∃ h2 v' ob', bltV h (.append sz bytes) [v, w] = some (v', h2) ∧ Grow h2 sz v' (rows ++ news) ob' ∧ FrD (fun j => ob = some j) h h2 ∧ (ob' = ob ∨ ob' = some h.next) := by
  have hapx := appended_row hrow hr
  by_cases hnil : news = []
  · subst hnil
    refine ⟨h, v, ob, ?_, by rw [List.append_nil]; exact hg, .refl _ _, .inl rfl⟩
    show (zcL h sz w).bind _ = _
    rw [hapx]
    cases hg <;> rfl
  · obtain ⟨h2, v', ea, hg2, hn2, hf2⟩ := ziQ (bytes := bytes) (news := news) hs hsb hg hnil hapx (by
      rw [List.all_flatten]; exact List.all_eq_true.2 hi) hr hsz
    exact ⟨h2, v', some h.next, ea, hg2, hf2, .inr rfl⟩
theorem Grow.first {h : H} {sz : Nat} {v : Value} {rows : List (List Value)} {ob : Option Nat} (hs : 0 < sz) (hg : Grow h sz v rows ob) {k : Nat} (hk : k ≤ rows.length) : ∃ v', zbk sz h none (some (.int .i64 (k : Int))) v = some (v', h) ∧ Row h sz v' (rows.take k) := by
  have rd : ∀ {b e : Nat} {rows : List (List Value)}, (∀ r ∈ rows, r.length = sz ∧ r.all zR = true) → ∀ (i : Nat) r, rows[i]? = some r → zO sz (zbh (0 + i * sz) rows.flatten) = some r := by
    intro b e rows hr i r hi
    have hE : rows.flatten = (rows.take i).flatten ++ (r ++ (rows.drop (i + 1)).flatten) := by
      have hl := (List.getElem?_eq_some_iff.1 hi).1
      conv => lhs; rw [← List.take_append_drop i rows]
      rw [List.flatten_append, List.drop_eq_getElem_cons hl, List.flatten_cons, (List.getElem?_eq_some_iff.1 hi).2]
    have hm := hr r (List.mem_of_getElem? hi)
    have hl : (rows.take i).flatten.length = i * sz := by
      rw [zeY (sz := sz) (fun x hx => (hr x (List.mem_of_mem_take hx)).1), List.length_take, Nat.min_eq_left (by have := (List.getElem?_eq_some_iff.1 hi).1; omega)]
    rw [hE, Nat.zero_add, ← hl, zev]
    exact zdr hm.2 hm.1.symm
  have htl : (rows.take k).length = k := by rw [List.length_take]; omega
  cases hg with
  | nil =>
    have : k = 0 := by simpa using hk
    subst this
    exact ⟨_, rfl, .nil⟩
  | @cells b rows hlt hgb hr =>
    have hcl : rows.flatten.length = rows.length * sz := zeY fun r hx => (hr r hx).1
    refine ⟨_, slice_to hs hgb hcl hk, ?_⟩
    have := Row.cells (h := h) (off := 0) (cap := zm) (sz := sz) (rows := rows.take k) hlt hgb (fun i r hi => by
      rw [List.getElem?_take] at hi
      split at hi
      · exact rd (b := b) (e := 0) hr i r hi
      · cases hi) (.inl ⟨rfl, rfl, hs, by rw [htl, hcl, Nat.zero_add]; exact Nat.mul_le_mul_right _ hk⟩)
    rwa [htl] at this
  | @full b e rows hlt hgb hr hc =>
    have hs' : zbk sz h none (some (.int .i64 (k : Int))) (.slice (some ⟨b, 0, none⟩) rows.length rows.length) = some (.slice (some ⟨b, 0, none⟩) k rows.length, h) := by
      have : Go.Ideal.inB ((k : Nat) : Int) rows.length = some k := by show (if Nat.ble k rows.length = true then _ else _) = _; rw [if_pos (by simpa using hk)]
      unfold zbk; dsimp only
      rw [if_neg (by simp; omega)]
      simp only [zdB, Option.bind_some, this, Option.map_some]
      simp
    refine ⟨_, hs', ?_⟩
    have := Row.cells (h := h) (off := 0) (cap := rows.length) (sz := sz) (rows := rows.take k) hlt hgb (fun i r hi => by
      rw [List.getElem?_take] at hi
      split at hi
      · exact rd (b := b) (e := e) hr i r hi
      · cases hi) (.inr ⟨hc, by rw [htl]; exact hk⟩)
    rwa [htl] at this
theorem edL_ok' (es : List Ed) : ∀ r ∈ es.map edL, r.length = 3 ∧ r.all zR = true := fun r hr => by obtain ⟨x, _, rfl⟩ := List.mem_map.1 hr; exact ⟨rfl, rfl⟩
theorem zio (es : List Ed) : ∀ r ∈ es.map edL, r.all z6 = true := fun r hr => by obtain ⟨x, _, rfl⟩ := List.mem_map.1 hr; rfl
def addL : List Ed → Ed → List Ed
  | [], x => [x]
  | y :: l, x => if zbf y x then y :: addL l x else if y = x then y :: l else x :: y :: l
theorem addL_at : ∀ (ls : List Ed) (x : Ed) (n : Nat), n ≤ ls.length → (∀ (k : Nat) y, k < n → ls[k]? = some y → zbf y x = true) → (∀ y, ls[n]? = some y → zbf y x = false) → addL ls x = if ls[n]? = some x then ls else ls.take n ++ (x :: ls.drop n)
  | [], x, n, hn, _, _ => by
    have : n = 0 := by simpa using hn
    subst this; simp [addL]
  | y :: l, x, 0, _, _, h2 => by
    have := h2 y rfl
    simp only [addL, this]
    by_cases e : y = x
    · simp [e]
    · simp [e]
  | y :: l, x, n + 1, hn, h1, h2 => by
    have e1 := h1 0 y (by omega) rfl
    have := addL_at l x n (by simpa using hn) (fun k z hk hz => h1 (k + 1) z (by omega) hz) h2
    simp only [addL, e1, if_true, this]
    by_cases e : l[n]? = some x
    · simp [e]
    · simp [e]
theorem addL_mem (ls : List Ed) (x y : Ed) : y ∈ addL ls x ↔ y ∈ ls ∨ y = x := by
  induction ls with
  | nil => simp [addL]
  | cons z l ih =>
    unfold addL
    split
    · simp [ih, or_assoc]
    · split
      · rename_i e; subst e; simp
        intro h; exact .inl h
      · simp
        constructor
        · rintro (h | h | h)
          · exact .inr h
          · exact .inl (.inl h)
          · exact .inl (.inr h)
        · rintro ((h | h) | h)
          · exact .inr (.inl h)
          · exact .inr (.inr h)
          · exact .inl h
theorem addL_len (ls : List Ed) (x : Ed) : (addL ls x).length ≤ ls.length + 1 := by
  induction ls with
  | nil => simp [addL]
  | cons z l ih =>
    unfold addL
    split
    · simpa using ih
    · split <;> simp
theorem addL_sorted {ls : List Ed} (h : ls.Pairwise (fun a b => zbf a b = true)) (x : Ed) : (addL ls x).Pairwise (fun a b => zbf a b = true) := by
  have tr := fun a b c => swoE.trans a b c
  simp only [ltT] at tr
  induction ls with
  | nil => simp [addL]
  | cons z l ih =>
    obtain ⟨h1, h2⟩ := List.pairwise_cons.1 h
    unfold addL
    split
    · rename_i e
      refine List.pairwise_cons.2 ⟨fun y hy => ?_, ih h2⟩
      rcases (addL_mem l x y).1 hy with hy | rfl
      · exact h1 y hy
      · exact e
    · split
      · exact h
      · rename_i e1 e2
        have e3 : zbf x z = true := by
          cases h3 : zbf x z with
          | true => rfl
          | false => exact absurd (zh9 z x (by rw [ltT]; simpa using e1) (by rw [ltT]; exact h3)) e2
        refine List.pairwise_cons.2 ⟨fun y hy => ?_, h⟩
        rcases List.mem_cons.1 hy with rfl | hy
        · exact e3
        · exact tr _ _ _ e3 (h1 y hy)
theorem radd_loop (ls : List Ed) (hl : ls.length ≤ 1000) (x : Ed) (lv : Value) (px : Nat) (h0 : H) (ob : Option Nat) (hg0 : Grow h0 3 lv (ls.map edL) ob) (hpx : px < h0.next) (hgx : h0.get px = some (.cells (edL x) 0)) {P : Value → H → Prop}
    (hP : ∀ v h' ob', Fr h0 h' → Grow h' 3 v ((addL ls x).map edL) ob' → (ob' = ob ∨ ∃ b, ob' = some b ∧ h0.next ≤ b) → P v h') :
    ∀ (r n : Nat) (h : H), n + r = ls.length → Fr h0 h → (∀ (k : Nat) y, k < n → ls[k]? = some y → zbf y x = true) →
    OkV (sh (rI F) c_D_1 (K_D_1 (rI F)) (setL [p0, p3, p5] [lv, ptr px, .int .i64 (n : Int)]) h) P := by
  have sv := hg0.slvM
  have fin : ∀ (n : Nat) (h : H), n ≤ ls.length → Fr h0 h → (∀ (k : Nat) y, k < n → ls[k]? = some y → zbf y x = true) → (∀ y, ls[n]? = some y → zbf y x = false) → OkV (sh (rI F) c_D_0 (K_D_0 (rI F)) (setL [p0, p3, p5] [lv, ptr px, .int .i64 (n : Int)]) h) P := by
    intro n h hn hf h1 h2
    have ha := addL_at ls x n hn h1 h2
    have hfn := hf.next
    have gx := (hf.get _ hpx).trans hgx
    have hg := hg0.fr hf
    rw [s_D_0]
    by_cases hsame : ls[n]? = some x
    · rw [if_pos hsame] at ha
      have hnl := (List.getElem?_eq_some_iff.1 hsame).1
      obtain ⟨b1, o1, cs1, e1, hv1, hb1, hg1, ht1⟩ := (hg.row (by omega)).index (i := n) (r := edL x) (by rw [List.getElem?_map, hsame]; rfl)
      refine OkV.eq (OkV.val (hP lv h ob hf (by rw [ha]; exact hg) (.inl rfl))) ?_
      simp (disch := omega) [sv.len, hnl, hv1, hg1, ht1, gx, zht, sv.eq, sv.eqc]
    · rw [if_neg hsame] at ha
      obtain ⟨h3, eh3⟩ : ∃ h3, h3 = h.new (.cells (edL x) 0) := ⟨_, rfl⟩
      have hf3 : Fr h h3 := by rw [eh3]; exact .new _ _
      have hn3 : h3.next = h.next + 1 := by rw [eh3]; simp
      have g3 : h3.get h.next = some (.cells (edL x) 0) := by rw [eh3]; simp
      have hgx3 : Grow h3 3 (.slice (some ⟨h.next, 0, none⟩) 1 1) ([x].map edL) (some h.next) := by
        have := Grow.full (h := h3) (sz := 3) (b := h.next) (e := 0) (rows := [edL x]) (by omega) (by simpa using g3) (by simp) (by show 1 < zm; decide)
        exact this
      obtain ⟨dv, hd1, hd2, _⟩ := (hg.row (by omega)).drop (k := n) (by rw [List.length_map]; exact hn)
      rw [← List.map_drop] at hd2
      have hdr := hd1 h3 hf3.next (fun i hi => hf3.get i hi)
      have hdr0 := hd1 h (Nat.le_refl _) (fun _ _ => rfl)
      have sd := hd2.slvM
      obtain ⟨h4, rv, ob4, ea4, hg4, hf4, ho4⟩ := zfx (bytes := 24) (by omega) (by decide) hgx3 (hd2.fr hf3) (edL_ok' _) (zio _) (by simp; omega)
      have hfn4 := hf4.next
      obtain ⟨h5, eh5⟩ : ∃ h5, h5 = h4.new (.cells [] 0) := ⟨_, rfl⟩
      have hf5 : Fr h4 h5 := by rw [eh5]; exact .new _ _
      have hn5 : h5.next = h4.next + 1 := by rw [eh5]; simp
      have g5 : h5.get h4.next = some (.cells [] 0) := by rw [eh5]; simp
      have hF4 : Fr h h4 := hf3.transD hf4 (fun i hi e => by cases e; omega)
      have hF5 : Fr h h5 := hF4.trans hf5
      obtain ⟨tv, ht1, ht2⟩ := Grow.first (by omega) (hg.fr hF5) (k := n) (by rw [List.length_map]; exact hn)
      rw [← List.map_take] at ht2
      have hge5 : Grow h5 3 (.slice (some ⟨h4.next, 0, none⟩) 0 0) (([] : List Ed).map edL) (some h4.next) := Grow.full (b := h4.next) (e := 0) (rows := []) (by omega) (by simpa using g5) (by simp) (by decide)
      obtain ⟨h6, wv, ob6, ea6, hg6, hf6, ho6⟩ := zfx (bytes := 24) (by omega) (by decide) hge5 ht2 (edL_ok' _) (zio _) (by simp; omega)
      have hfn6 := hf6.next
      have o4 : ∀ b, ob4 = some b → h.next ≤ b ∧ b < h4.next := fun b e => by
        rw [e] at hg4
        have := hg4.lt
        rcases ho4 with o | o <;> (rw [e] at o; cases o; omega)
      have hg46 : Grow h6 3 rv ((x :: ls.drop n).map edL) ob4 := (hg4.fr hf5).frD hf6 (fun b e e2 => by have := o4 b e; cases e2; omega)
      obtain ⟨h7, zv, ob7, ea7, hg7, hf7, ho7⟩ := zfx (bytes := 24) (by omega) (by decide) hg6 (hg46.row (by omega)) (edL_ok' _) (zio _) (by simp; omega)
      have o6 : ∀ b, ob6 = some b → h4.next ≤ b := fun b e => by
        rcases ho6 with o | o <;> (rw [e] at o; cases o; omega)
      have hF7 : Fr h h7 := (hF5.transD hf6 (fun i hi e => by cases e; omega)).transD hf7 (fun i hi e => by have := o6 _ e; omega)
      have hres : Grow h7 3 zv ((addL ls x).map edL) ob7 := by
        rw [ha, List.map_append]
        simpa using hg7
      refine OkV.eq (OkV.val (hP zv h7 ob7 (hf.trans hF7) hres (.inr ?_))) ?_
      · rcases ho7 with o | o
        · rcases ho6 with o6' | o6'
          · exact ⟨h4.next, by rw [o, o6'], by omega⟩
          · exact ⟨h5.next, by rw [o, o6'], by omega⟩
        · exact ⟨h6.next, o, by omega⟩
      · by_cases hnl : n < ls.length
        · obtain ⟨y, hy⟩ : ∃ y, ls[n]? = some y := ⟨_, List.getElem?_eq_getElem hnl⟩
          obtain ⟨b1, o1, cs1, e1, hv1, hb1, hg1, ht1'⟩ := (hg.row (by omega)).index (i := n) (r := edL y) (by rw [List.getElem?_map, hy]; rfl)
          have hyx : ¬ y = x := fun e => hsame (by rw [hy, e])
          simp (disch := omega) [sv.len, hnl, hv1, hg1, ht1', gx, zht, hyx, sv.eq, sv.eqc, zr, zk, ← eh3, hdr, hdr0, sd.eq, sd.eqc, ea4, ← eh5, ht1, ea6, ea7]
        · simp (disch := omega) [sv.len, hnl, gx, sv.eq, sv.eqc, zr, zk, ← eh3, hdr, hdr0, sd.eq, sd.eqc, ea4, ← eh5, ht1, ea6, ea7]
  intro r
  induction r with
  | zero =>
    intro n h hi hf h1
    have := fin n h (by omega) hf h1 (fun y hy => by rw [List.getElem?_eq_none (by omega)] at hy; cases hy)
    rw [s_D_1]
    refine OkV.eq this ?_
    have hnl : ¬ n < ls.length := by omega
    simp (disch := omega) [sv.len, hnl]
  | succ r ih =>
    intro n h hi hf h1
    have hnl : n < ls.length := by omega
    have hfn := hf.next
    have gx := (hf.get _ hpx).trans hgx
    obtain ⟨y, hy⟩ : ∃ y, ls[n]? = some y := ⟨_, List.getElem?_eq_getElem hnl⟩
    obtain ⟨b1, o1, cs1, e1, hv1, hb1, hg1, ht1⟩ := ((hg0.fr hf).row (by omega)).index (i := n) (r := edL y) (by rw [List.getElem?_map, hy]; rfl)
    obtain ⟨h2, eh2⟩ : ∃ h2, h2 = (h.new (.cells (edL y) 0)).new (.cells (edL x) 0) := ⟨_, rfl⟩
    have hf2 : Fr h h2 := by rw [eh2]; exact (Fr.new _ _).newR _
    have el := less_ok y x h
    rw [← eh2] at el
    rw [s_D_1]
    cases hc : zbf y x with
    | true =>
      have := ih (n + 1) h2 (by omega) (hf.trans hf2) (fun k z hk hz => by
        by_cases e : k = n
        · subst e; rw [hy] at hz; cases hz; exact hc
        · exact h1 k z (by omega) hz)
      rw [hc] at el
      refine OkV.eq (this.lp (l_D_1 F _ _ _ _)) ?_
      simp (disch := omega) [sv.len, hnl, hv1, hg1, ht1, gx, el, zx]
    | false =>
      have := fin n h2 (by omega) (hf.trans hf2) h1 (fun z hz => by rw [hy] at hz; cases hz; exact hc)
      rw [hc] at el
      refine OkV.eq this ?_
      simp (disch := omega) [sv.len, hnl, hv1, hg1, ht1, gx, el]
theorem radd_ok (ls : List Ed) (hl : ls.length ≤ 1000) (x : Ed) (lv : Value) (h : H) (ob : Option Nat) (hg : Grow h 3 lv (ls.map edL) ob) :
    ∃ v h' ob', zbm F (fnV n_D) [lv, edV x] h = some (v, h') ∧ Fr h h' ∧ Grow h' 3 v ((addL ls x).map edL) ob' ∧ (ob' = ob ∨ ∃ b, ob' = some b ∧ h.next ≤ b) := by
  suffices hr : Ret F (fnV n_D) [lv, edV x] h fun v h' => ∃ ob', Fr h h' ∧ Grow h' 3 v ((addL ls x).map edL) ob' ∧ (ob' = ob ∨ ∃ b, ob' = some b ∧ h.next ≤ b) by
    obtain ⟨v, h', e, ob', q⟩ := hr; exact ⟨v, h', ob', e, q⟩
  obtain ⟨P, hPd⟩ : ∃ P : Value → H → Prop, P = fun v h' => ∃ ob', Fr h h' ∧ Grow h' 3 v ((addL ls x).map edL) ob' ∧ (ob' = ob ∨ ∃ b, ob' = some b ∧ h.next ≤ b) := ⟨_, rfl⟩
  rw [← hPd]
  refine Ret.fn F_D 2 (by decide) ?_
  rw [s_D]
  have hf1 : Fr h (h.new (.cells (edL x) 0)) := .new _ _
  have := radd_loop ls hl x lv h.next (h.new (.cells (edL x) 0)) ob (hg.fr hf1) (by simp) (by simp) (P := P) (fun v h' ob' hf hg' ho => by
    rw [hPd]
    exact ⟨ob', hf1.trans hf, hg', ho.imp id fun ⟨b, h1, h2⟩ => ⟨b, h1, by simp at h2; omega⟩⟩) ls.length 0 _ (by omega) (.refl _) (fun k y hk => by omega)
  refine OkV.eq (this.lp (l_D_1 F _ _ _ _)) ?_
  simp (disch := omega)
end Go.Ideal.J
set_option maxHeartbeats 2000000
namespace Go.Ideal.J
open Go Go.Ideal
theorem zjl {es : List Ed} {a : Int} {i : Nat} {x : Ed} (h : es[i]? = some x) : outs (es.take (i + 1)) a = outs (es.take i) a ++ if x.1 = a then [x] else [] := by
  unfold outs
  rw [List.take_add_one, h, List.filter_append]
  congr 1
  by_cases e : x.1 = a <;> simp [e]
theorem rsteps_loop (es : List Ed) (hsz : es.length ≤ 1000) (a st lb : Int) (sl : Value) (pg lo : Nat) (h0 : H) (hrow : Row h0 3 sl (es.map edL)) (hsl : ∀ b o n c, sl = .slice (some ⟨b, o, none⟩) n c → b < lo) (hgg : h0.get pg = some (.cells (gL st lb sl) 0)) (hpg : pg < lo) (hlo : lo ≤ h0.next) {P : Value → H → Prop}
    (hP : ∀ h' v ob, FrD (fun j => lo ≤ j) h0 h' → Grow h' 3 v ((outs es a).map edL) ob → (∀ b, ob = some b → lo ≤ b) → P v h') :
    ∀ (k i : Nat) (h : H) (v : Value) (ob : Option Nat), i + k = es.length → FrD (fun j => lo ≤ j) h0 h → Grow h 3 v ((outs (es.take i) a).map edL) ob → (∀ b, ob = some b → lo ≤ b) →
    OkV (sh (rI F) c_w_1 (K_w_1 (rI F)) (setL [p1, p2, p5, p6] [.int .i64 a, ptr pg, v, .int .i64 (i : Int)]) h) P := by
  intro k
  induction k with
  | zero =>
    intro i h v ob hi hf hg hob
    have e : i = es.length := by omega
    subst e
    rw [List.take_length] at hg
    have gpg := (hf.get _ (by omega) (by omega)).trans hgg
    have hv := hrow.slvM
    refine OkV.eq (OkV.val (hP h v ob hf hg hob)) ?_
    rw [s_w_1]
    simp (disch := first | omega | (simp only [zb, za]; done) | (simp only [zb, za]; omega)) [gpg, hv.take, hv.one, hv.len, s_w_0]
  | succ k ih =>
    intro i h v ob hi hf hg hob
    have hil : i < es.length := by omega
    have hfn := hf.next
    have gpg := (hf.get _ (by omega) (by omega)).trans hgg
    have hv := hrow.slvM
    have hx : (es.map edL)[i]? = some (edL es[i]) := by simp [hil]
    have hsucc := zjl (a := a) (List.getElem?_eq_getElem hil)
    obtain ⟨b, o, cs, e, hvi, hb, hgi, htc⟩ := (hrow.frD hf (fun b o n c e => by have := hsl b o n c e; omega)).index hx
    generalize es[i] = x at *
    have ht1 : zO 1 (zbh o cs) = some [.int .i64 x.1] := by
      have h1 := (zcN htc).1
      rw [zdK, zdh] at h1
      split at h1
      · rename_i hl
        rw [zdh]
        have hd : ∃ r, cs.drop o = Value.int .i64 x.1 :: r := by
          have h2 := Option.some.inj h1
          match hcs : cs.drop o with
          | [] => rw [hcs] at h2; simp at h2
          | c :: r => rw [hcs] at h2; simp at h2; exact ⟨r, by rw [h2.1]⟩
        obtain ⟨r, hr⟩ := hd
        rw [hr, takeC_int, takeC_z]; rfl
      · cases h1
    rw [s_w_1]
    by_cases c : x.1 = a
    · rw [if_pos c] at hsucc
      obtain ⟨x1, x2, x3⟩ := x
      obtain rfl : a = x1 := c.symm
      have hlen : (outs (es.take i) a).length ≤ 1000 := by
        unfold outs
        have := List.length_filter_le (fun x : Ed => decide (x.1 = a)) (es.take i)
        rw [List.length_take] at this; omega
      obtain ⟨h2, eh2⟩ : ∃ h2, h2 = h.new (.cells (edL (a, x2, x3)) 0) := ⟨_, rfl⟩
      have hf2 : Fr h h2 := by rw [eh2]; exact Fr.new _ _
      have hn2 : h2.next = h.next + 1 := by rw [eh2]; simp
      obtain ⟨h3, v', ea, hg3, hn3, hf3⟩ := zbC (h := h2) (sz := 3) (bytes := 24) (r := edL (a, x2, x3)) (b := h.next) (e := 0) (by omega) (by decide) (hg.fr hf2) (by rw [eh2]; simp) rfl rfl rfl (by rw [List.length_map]; omega)
      have := ih (i + 1) h3 v' (some h2.next) (by omega) ⟨by omega, fun j hj hd => (hf3.get _ (by omega) (fun e => hd (hob _ e))).trans ((hf2.get _ (by omega)).trans (hf.get _ hj hd))⟩ (by rw [hsucc, List.map_append]; exact hg3) (fun b e => by cases e; omega)
      refine OkV.eq (this.lp (l_w_1 F _ _ _ _ _)) ?_
      simp (disch := first | omega | (simp only [zb, za]; done) | (simp only [zb, za]; omega)) [gpg, hv.take, hv.one, hv.len, hil, hvi, hgi, ht1, htc, zr, zk, ← eh2, ea, s_w_2, zx]
    · rw [if_neg c, List.append_nil] at hsucc
      have := ih (i + 1) h v ob (by omega) hf (by rw [hsucc]; exact hg) hob
      refine OkV.eq (this.lp (l_w_1 F _ _ _ _ _)) ?_
      simp (disch := first | omega | (simp only [zb, za]; done) | (simp only [zb, za]; omega)) [gpg, hv.take, hv.one, hv.len, hil, hvi, hgi, ht1, c, s_w_2, zx]
theorem rsteps_ok (es : List Ed) (hsz : es.length ≤ 1000) (a st lb : Int) (sl : Value) (h : H) (hrow : Row h 3 sl (es.map edL)) {P : Value → H → Prop}
    (hP : ∀ h' v ob, Fr h h' → Grow h' 3 v ((outs es a).map edL) ob → (∀ b, ob = some b → h.next ≤ b) → P v h') : Ret F (fnV n_w) [gV st lb sl, .int .i64 a] h P := by
  refine Ret.fn F_w 2 (by decide) ?_
  rw [s_w]
  have hv := hrow.slvM
  have hf1 : Fr h (h.new (.cells (gL st lb sl) 0)) := .new _ _
  have := rsteps_loop es hsz a st lb sl h.next (h.next + 1) (h.new (.cells (gL st lb sl) 0)) (hrow.fr hf1) (fun b o n c e => by have := hrow.lt e; omega) (by simp) (by omega) (by simp) (P := P) (fun h' v ob q1 q2 q3 => hP h' v ob ⟨by have := q1.next; simp at this; omega, fun i hi => (q1.get _ (by simp; omega) (by omega)).trans (hf1.get _ hi)⟩ q2 (fun b e => by have := q3 b e; omega)) es.length 0 (h.new (.cells (gL st lb sl) 0)) (.slice none 0 0) none (by omega) (.refl _ _) (by simpa [outs] using Grow.nil) (by simp)
  refine OkV.eq (this.lp (l_w_1 F _ _ _ _ _)) ?_
  simp (disch := first | omega | (simp only [zb, za]; done) | (simp only [zb, za]; omega)) []
end Go.Ideal.J
namespace Go.Ideal.J
open Go Go.Ideal
structure RC2 (es : List Ed) (N : Nat) (h : H) (tl tr : Value) (lvs rvs : List Value) (R : Int → Int → Int) : Prop where
  rl : Row h 1 tl (lvs.map fun v => [v])
  rr : Row h 1 tr (rvs.map fun v => [v])
  lst : ∀ a : Nat, a < N → ∃ lv, lvs[a]? = some lv ∧ Row h 3 lv ((outs es a).map edL)
  mat : ∀ a : Nat, a < N → ∃ (q : Nat) (is : List Int), rvs[a]? = some (slF q N) ∧ h.get q = some (.cells (is.map fun i => .int .i64 i) 0) ∧ is.length = N ∧ (∀ c : Nat, c < N → is[c]? = some (R a c)) ∧ q < h.next
theorem RC2.fr {es : List Ed} {N : Nat} {h h' : H} {tl tr : Value} {lvs rvs : List Value} {R : Int → Int → Int} (r : RC2 es N h tl tr lvs rvs R) (hf : Fr h h') : RC2 es N h' tl tr lvs rvs R where
  rl := r.rl.fr hf
  rr := r.rr.fr hf
  lst := fun a ha => by obtain ⟨lv, h1, h2⟩ := r.lst a ha; exact ⟨lv, h1, h2.fr hf⟩
  mat := fun a ha => by
    obtain ⟨q, is, h1, h2, h3, h4, h5⟩ := r.mat a ha
    exact ⟨q, is, h1, (hf.get _ h5).trans h2, h3, h4, Nat.lt_of_lt_of_le h5 hf.next⟩
def badR (R : Int → Int → Int) (most u t : Int) : Bool := decide (R u t = 0) || (decide (0 ≤ most) && decide (most < R u t))
def ansR (R : Int → Int → Int) (es : List Ed) (x : Ed) (b most : Int) : Bool := (tos es b x.2.2).all fun t => !badR R most x.2.1 t
theorem answerless_ok (es : List Ed) (hsz : es.length ≤ 1000) (N : Nat) (hin : inB (N : Int) es) (tl tr : Value) (lvs rvs : List Value) (R : Int → Int → Int) (x : Ed) (hx : x ∈ es) (b : Nat) (hb : b < N) (most : Int) (h : H) (hr : RC2 es N h tl tr lvs rvs R) :
    ∃ h', zbm F (fnV n_r) [tl, tr, edV x, .int .i64 (b : Int), .int .i64 most] h = some (.bool (ansR R es x b most), h') ∧ Fr h h' := by
  suffices hr : Ret F (fnV n_r) [tl, tr, edV x, .int .i64 (b : Int), .int .i64 most] h fun v h' => v = .bool (ansR R es x b most) ∧ Fr h h' by
    obtain ⟨v, h', e, rfl, hf⟩ := hr; exact ⟨h', e, hf⟩
  obtain ⟨P, hPd⟩ : ∃ P : Value → H → Prop, P = fun v h' => v = .bool (ansR R es x b most) ∧ Fr h h' := ⟨_, rfl⟩
  rw [← hPd]
  have hxin := hin x hx
  obtain ⟨u, hu⟩ := Int.eq_ofNat_of_zero_le hxin.2.2.1
  obtain ⟨lv, l1, l2⟩ := hr.lst b hb
  obtain ⟨q, is, m1, m2, m3, m4, m5⟩ := hr.mat u (by omega)
  have hv := l2.slvM
  have hol : (outs es b).length ≤ es.length := by unfold outs; exact List.length_filter_le _ _
  have hf1 : Fr h (h.new (.cells (edL x) 0)) := .new _ _
  have loop : ∀ (k i : Nat) (h1 : H), i + k = (outs es b).length → Fr h h1 → h1.get h.next = some (.cells (edL x) 0) → h.next < h1.next → (∀ y ∈ (outs es b).take i, y.2.2 = x.2.2 → badR R most x.2.1 y.2.1 = false) →
      OkV (sh (rI F) c_r_1 (K_r_1 (rI F)) (setL [p0, p1, p3, p4, p7, p11] [tl, tr, .int .i64 (b : Int), .int .i64 most, ptr h.next, .int .i64 (i : Int)]) h1) P := by
    intro k
    induction k with
    | zero =>
      intro i h1 hi hf gx hl hall
      have e : i = (outs es b).length := by omega
      subst e
      rw [List.take_length] at hall
      obtain ⟨b1, o1, cs1, e1, hv1, hb1, hg1, ht1⟩ := (hr.rl.fr hf).index (i := b) (r := [lv]) (by rw [List.getElem?_map, l1]; rfl)
      refine OkV.eq (OkV.val (v := .bool true) (h := h1) (by
        rw [hPd]
        refine ⟨?_, hf⟩
        congr 1; symm
        refine List.all_eq_true.2 fun t ht => ?_
        obtain ⟨y, hy, q1, q2, rfl⟩ := zdk.1 ht
        rw [hall y (zbI.2 ⟨hy, q1⟩) q2]; rfl)) ?_
      rw [s_r_1]
      simp (disch := first | omega | (simp only [zb, za]; done) | (simp only [zb, za]; omega)) [hv1, hg1, ht1, hv.one, hv.len, s_r_0]
    | succ k ih =>
      intro i h1 hi hf gx hl hall
      have hil : i < (outs es b).length := by omega
      have hfn := hf.next
      have htk : (outs es b).take (i + 1) = (outs es b).take i ++ [(outs es b)[i]] := by rw [List.take_add_one, List.getElem?_eq_getElem hil]; rfl
      have hyo := zbI.1 (List.getElem_mem hil)
      obtain ⟨b1, o1, cs1, e1, hv1, hb1, hg1, ht1⟩ := (hr.rl.fr hf).index (i := b) (r := [lv]) (by rw [List.getElem?_map, l1]; rfl)
      obtain ⟨b2, o2, cs2, e2, hv2, hb2, hg2, ht2⟩ := (l2.fr hf).index (i := i) (r := edL (outs es b)[i]) (by simp [hil])
      have hyin := hin _ hyo.1
      generalize (outs es b)[i] = y at *
      have hf2 : Fr h (h1.new (.cells (edL y) 0)) := hf.newR _
      have next : (y.2.2 = x.2.2 → badR R most x.2.1 y.2.1 = false) → OkV (sh (rI F) c_r_2 (K_r_2 (rI F)) (setL [p0, p1, p3, p4, p7, p11] [tl, tr, .int .i64 (b : Int), .int .i64 most, ptr h.next, .int .i64 (i : Int)]) (h1.new (.cells (edL y) 0))) P := by
        intro hh
        rw [s_r_2]
        have := ih (i + 1) (h1.new (.cells (edL y) 0)) (by omega) hf2 (by rw [zbK (by omega)]; exact gx) (by simp; omega) (fun z hz => by
          rw [htk] at hz
          rcases List.mem_append.1 hz with hz | hz
          · exact hall z hz
          · rw [List.mem_singleton] at hz; subst hz; exact hh)
        refine OkV.eq (this.lp (l_r_1 F _ _ _ _ _ _ _)) ?_
        simp (disch := first | omega | (simp only [zb, za]; done) | (simp only [zb, za]; omega)) [zx]
      rw [s_r_1]
      by_cases c : y.2.2 = x.2.2
      · obtain ⟨w, hw⟩ := Int.eq_ofNat_of_zero_le hyin.2.2.1
        obtain ⟨b3, o3, cs3, e3, hv3, hb3, hg3, ht3⟩ := (hr.rr.fr hf).index (i := u) (r := [slF q N]) (by rw [List.getElem?_map, m1]; rfl)
        have gq : h1.get q = some (.cells (is.map fun i => .int .i64 i) 0) := (hf.get _ m5).trans m2
        have hwN : w < N := by omega
        have rq : zO 1 (zbh w (is.map fun i => Value.int .i64 i)) = some [.int .i64 (R u w)] := zb3 (by rw [List.getElem?_map, m4 w hwN]; rfl) rfl
        obtain ⟨x1, x2, x3⟩ := x
        obtain ⟨y1, y2, y3⟩ := y
        obtain rfl : x2 = (u : Int) := hu
        obtain rfl : y2 = (w : Int) := hw
        obtain rfl : y3 = x3 := c
        by_cases c1 : R u w = 0
        · refine OkV.eq (OkV.val (v := .bool false) (h := h1.new (.cells (edL (y1, (w : Int), y3)) 0)) (by
            rw [hPd]
            refine ⟨?_, hf2⟩
            congr 1; symm
            rw [Bool.eq_false_iff]; intro hh
            have := List.all_eq_true.1 hh (w : Int) (zdk.2 ⟨_, hyo.1, hyo.2, rfl, rfl⟩)
            simp [badR, c1] at this)) ?_
          simp (disch := first | omega | (simp only [zb, za]; done) | (simp only [zb, za]; omega)) [hv1, hg1, ht1, hv.one, hv.len, hil, hv2, hg2, ht2, gx, hv3, hg3, ht3, gq, rq, hwN, c1]
        · by_cases c2 : 0 ≤ most
          · by_cases c3 : most < R u w
            · refine OkV.eq (OkV.val (v := .bool false) (h := h1.new (.cells (edL (y1, (w : Int), y3)) 0)) (by
                rw [hPd]
                refine ⟨?_, hf2⟩
                congr 1; symm
                rw [Bool.eq_false_iff]; intro hh
                have := List.all_eq_true.1 hh (w : Int) (zdk.2 ⟨_, hyo.1, hyo.2, rfl, rfl⟩)
                simp [badR, c1, c2, c3] at this)) ?_
              simp (disch := first | omega | (simp only [zb, za]; done) | (simp only [zb, za]; omega)) [hv1, hg1, ht1, hv.one, hv.len, hil, hv2, hg2, ht2, gx, hv3, hg3, ht3, gq, rq, hwN, c1, c2, c3]
            · refine OkV.eq (next fun _ => by simp [badR, c1, c2, c3]) ?_
              simp (disch := first | omega | (simp only [zb, za]; done) | (simp only [zb, za]; omega)) [hv1, hg1, ht1, hv.one, hv.len, hil, hv2, hg2, ht2, gx, hv3, hg3, ht3, gq, rq, hwN, c1, c2, c3]
          · refine OkV.eq (next fun _ => by simp [badR, c1, c2]) ?_
            simp (disch := first | omega | (simp only [zb, za]; done) | (simp only [zb, za]; omega)) [hv1, hg1, ht1, hv.one, hv.len, hil, hv2, hg2, ht2, gx, hv3, hg3, ht3, gq, rq, hwN, c1, c2]
      · refine OkV.eq (next fun h => absurd h c) ?_
        simp (disch := first | omega | (simp only [zb, za]; done) | (simp only [zb, za]; omega)) [hv1, hg1, ht1, hv.one, hv.len, hil, hv2, hg2, ht2, gx, c]
  refine Ret.fn F_r 5 (by decide) ?_
  rw [s_r]
  have := loop (outs es b).length 0 (h.new (.cells (edL x) 0)) (by omega) hf1 (by simp) (by simp) (by simp)
  refine OkV.eq (this.lp (l_r_1 F _ _ _ _ _ _ _)) ?_
  simp (disch := first | omega | (simp only [zb, za]; done) | (simp only [zb, za]; omega)) []
def zeg (R : Int → Int → Int) (es : List Ed) (a b : Int) : Bool := (outs es a).any fun x => ansR R es x b (-1)
theorem split_ok (es : List Ed) (hsz : es.length ≤ 1000) (N : Nat) (hin : inB (N : Int) es) (tl tr : Value) (lvs rvs : List Value) (R : Int → Int → Int) (a b : Nat) (ha : a < N) (hb : b < N) (h : H) (hr : RC2 es N h tl tr lvs rvs R) :
    ∃ h', zbm F (fnV n_B) [tl, tr, .int .i64 (a : Int), .int .i64 (b : Int)] h = some (.bool (zeg R es a b), h') ∧ Fr h h' := by
  suffices hr : Ret F (fnV n_B) [tl, tr, .int .i64 (a : Int), .int .i64 (b : Int)] h fun v h' => v = .bool (zeg R es a b) ∧ Fr h h' by
    obtain ⟨v, h', e, rfl, hf⟩ := hr; exact ⟨h', e, hf⟩
  obtain ⟨P, hPd⟩ : ∃ P : Value → H → Prop, P = fun v h' => v = .bool (zeg R es a b) ∧ Fr h h' := ⟨_, rfl⟩
  rw [← hPd]
  obtain ⟨lv, l1, l2⟩ := hr.lst a ha
  have hv := l2.slvM
  have hol : (outs es a).length ≤ es.length := by unfold outs; exact List.length_filter_le _ _
  have loop : ∀ (k i : Nat) (h1 : H), i + k = (outs es a).length → Fr h h1 → (∀ x ∈ (outs es a).take i, ansR R es x b (-1) = false) →
      OkV (sh (rI F) c_B_1 (K_B_1 (rI F)) (setL [p0, p1, p2, p3, p9] [tl, tr, .int .i64 (a : Int), .int .i64 (b : Int), .int .i64 (i : Int)]) h1) P := by
    intro k
    induction k with
    | zero =>
      intro i h1 hi hf hall
      have e : i = (outs es a).length := by omega
      subst e
      rw [List.take_length] at hall
      obtain ⟨b1, o1, cs1, e1, hv1, hb1, hg1, ht1⟩ := (hr.rl.fr hf).index (i := a) (r := [lv]) (by rw [List.getElem?_map, l1]; rfl)
      refine OkV.eq (OkV.val (v := .bool false) (h := h1) (by
        rw [hPd]
        refine ⟨?_, hf⟩
        congr 1; symm
        unfold zeg
        rw [List.any_eq_false]
        intro x hx; rw [hall x hx]; simp)) ?_
      rw [s_B_1]
      simp (disch := first | omega | (simp only [zb, za]; done) | (simp only [zb, za]; omega)) [hv1, hg1, ht1, hv.one, hv.len, s_B_0]
    | succ k ih =>
      intro i h1 hi hf hall
      have hil : i < (outs es a).length := by omega
      have hfn := hf.next
      have htk : (outs es a).take (i + 1) = (outs es a).take i ++ [(outs es a)[i]] := by rw [List.take_add_one, List.getElem?_eq_getElem hil]; rfl
      have hxm := List.getElem_mem hil
      have hxo := zbI.1 hxm
      obtain ⟨b1, o1, cs1, e1, hv1, hb1, hg1, ht1⟩ := (hr.rl.fr hf).index (i := a) (r := [lv]) (by rw [List.getElem?_map, l1]; rfl)
      obtain ⟨b2, o2, cs2, e2, hv2, hb2, hg2, ht2⟩ := (l2.fr hf).index (i := i) (r := edL (outs es a)[i]) (by simp [hil])
      generalize (outs es a)[i] = x at *
      obtain ⟨h2, e3, hf2⟩ := answerless_ok es hsz N hin tl tr lvs rvs R x hxo.1 b hb (-1) h1 (hr.fr hf)
      rw [s_B_1]
      cases hc : ansR R es x b (-1) with
      | true =>
        rw [hc] at e3
        refine OkV.eq (OkV.val (v := .bool true) (h := h2) (by
          rw [hPd]
          refine ⟨?_, hf.trans hf2⟩
          congr 1; symm
          unfold zeg
          rw [List.any_eq_true]
          exact ⟨x, hxm, hc⟩)) ?_
        simp (disch := first | omega | (simp only [zb, za]; done) | (simp only [zb, za]; omega)) [hv1, hg1, ht1, hv.one, hv.len, hil, hv2, hg2, ht2, e3]
      | false =>
        rw [hc] at e3
        have := ih (i + 1) h2 (by omega) (hf.trans hf2) (fun z hz => by
          rw [htk] at hz
          rcases List.mem_append.1 hz with hz | hz
          · exact hall z hz
          · rw [List.mem_singleton] at hz; subst hz; exact hc)
        refine OkV.eq (this.lp (l_B_1 F _ _ _ _ _ _)) ?_
        simp (disch := first | omega | (simp only [zb, za]; done) | (simp only [zb, za]; omega)) [hv1, hg1, ht1, hv.one, hv.len, hil, hv2, hg2, ht2, e3, zx]
  refine Ret.fn F_B 4 (by decide) ?_
  rw [s_B]
  have := loop (outs es a).length 0 h (by omega) (.refl _) (by simp)
  refine OkV.eq (this.lp (l_B_1 F _ _ _ _ _ _)) ?_
  simp (disch := first | omega | (simp only [zb, za]; done) | (simp only [zb, za]; omega)) []
end Go.Ideal.J
namespace Go.Ideal.J
open Go Go.Ideal
def zha (R : Int → Int → Int) (es : List Ed) (a b : Int) : Bool := decide (R a b = 0) && (zeg R es a b || zeg R es b a)
def fzA (R : Int → Int → Int) (es : List Ed) (a b : Nat) : List (Int × Int) := ((List.range b).filter fun (b : Nat) => zha R es (a : Int) (b : Int)).map fun (b : Nat) => ((a : Int), (b : Int))
def fz (R : Int → Int → Int) (es : List Ed) (N a : Nat) : List (Int × Int) := (List.range a).flatMap fun a => fzA R es a N
theorem fzA_succ (R : Int → Int → Int) (es : List Ed) (a b : Nat) : fzA R es a (b + 1) = fzA R es a b ++ if zha R es a b then [((a : Int), (b : Int))] else [] := by
  unfold fzA
  rw [List.range_succ, List.filter_append, List.map_append]
  congr 1
  by_cases e : zha R es (a : Int) (b : Int) = true
  · rw [if_pos e]; simp [e]
  · rw [if_neg e]; simp [e]
theorem fz_succ (R : Int → Int → Int) (es : List Ed) (N a : Nat) : fz R es N (a + 1) = fz R es N a ++ fzA R es a N := by
  unfold fz
  rw [List.range_succ, List.flatMap_append]
  simp
theorem fzA_len (R : Int → Int → Int) (es : List Ed) (a b : Nat) : (fzA R es a b).length ≤ b := by
  unfold fzA
  rw [List.length_map]
  exact Nat.le_trans (List.length_filter_le _ _) (by simp)
theorem fz_len (R : Int → Int → Int) (es : List Ed) (N : Nat) : ∀ a, (fz R es N a).length ≤ a * N
  | 0 => by simp [fz]
  | a + 1 => by
    rw [fz_succ, List.length_append, Nat.succ_mul]
    have := fz_len R es N a
    have := fzA_len R es a N
    omega
theorem rnd7 (es : List Ed) (hsz : es.length ≤ 1000) (N : Nat) (hN : N ≤ 200) (hin : inB (N : Int) es) (tl tr : Value) (lvs rvs : List Value) (R : Int → Int → Int) (n : Int) (pg : Nat) (lb : Int) (sl : Value) (hv : SlV sl es.length) (a : Nat) (ha : a < N) (rows : List (Int × Int)) (hrows : rows.length ≤ 100000) (h0 : H) (hr : RC2 es N h0 tl tr lvs rvs R) (hgg : h0.get pg = some (.cells (gL (N : Int) lb sl) 0)) (hpg : pg < h0.next) {P : Value → H → Prop}
    (hP : ∀ h' fv ob, Fr h0 h' → Grow h' 2 fv ((rows ++ fzA R es a N).map prL) ob → (∀ q, ob = some q → h0.next ≤ q) → OkV (sh (rI F) c_c_6 (K_c_6 (rI F)) (setL [p1, p3, p4, p6, p7, p8] [ptr pg, tl, tr, .int .i64 n, fv, .int .i64 (a : Int)]) h') P) :
    ∀ (k b : Nat) (h : H) (fv : Value) (ob : Option Nat), b + k = N → Fr h0 h → Grow h 2 fv ((rows ++ fzA R es a b).map prL) ob → (∀ q, ob = some q → h0.next ≤ q) →
    OkV (sh (rI F) c_c_7 (K_c_7 (rI F)) (setL [p1, p3, p4, p6, p7, p8, p9] [ptr pg, tl, tr, .int .i64 n, fv, .int .i64 (a : Int), .int .i64 (b : Int)]) h) P := by
  intro k
  induction k with
  | zero =>
    intro b h fv ob hb hf hg hob
    have e : b = N := by omega
    subst e
    have gpg := (hf.get _ hpg).trans hgg
    rw [s_c_7]
    simp (disch := first | omega | (simp only [zb, za]; done) | (simp only [zb, za]; omega)) [gpg, hv.one, hv.len]
    exact hP h fv ob hf hg hob
  | succ k ih =>
    intro b h fv ob hb hf hg hob
    have hbN : b < N := by omega
    have hfn := hf.next
    have hsucc := fzA_succ R es a b
    have gpg := (hf.get _ hpg).trans hgg
    have hrh := hr.fr hf
    obtain ⟨q, is, m1, m2, m3, m4, m5⟩ := hrh.mat a ha
    obtain ⟨b3, o3, cs3, e3, hv3, hb3, hg3, ht3⟩ := hrh.rr.index (i := a) (r := [slF q N]) (by rw [List.getElem?_map, m1]; rfl)
    have rq : zO 1 (zbh b (is.map fun i => Value.int .i64 i)) = some [.int .i64 (R a b)] := zb3 (by rw [List.getElem?_map, m4 b hbN]; rfl) rfl
    have skip : zha R es a b = false → ∀ h', Fr h h' → OkV (sh (rI F) c_c_8 (K_c_8 (rI F)) (setL [p1, p3, p4, p6, p7, p8, p9] [ptr pg, tl, tr, .int .i64 n, fv, .int .i64 (a : Int), .int .i64 (b : Int)]) h') P := by
      intro hc h' hf'
      rw [s_c_8]
      have := ih (b + 1) h' fv ob (by omega) (hf.trans hf') (by rw [hsucc, hc]; simpa using hg.fr hf') hob
      refine OkV.eq (this.lp (l_c_7 F _ _ _ _ _ _ _ _)) ?_
      simp (disch := first | omega | (simp only [zb, za]; done) | (simp only [zb, za]; omega)) [zx]
    rw [s_c_7]
    by_cases c : R a b = 0
    · obtain ⟨h1, e1, hf1⟩ := split_ok es hsz N hin tl tr lvs rvs R a b ha hbN h hrh
      have take : ∀ h', zha R es a b = true → Fr h h' → ∃ h3 fv', bltV (h'.new (.cells [.int .i64 (a : Int), .int .i64 (b : Int)] 0)) (.append 2 16) [fv, .slice (some ⟨h'.next, 0, none⟩) 1 1] = some (fv', h3) ∧ OkV (sh (rI F) c_c_8 (K_c_8 (rI F)) (setL [p1, p3, p4, p6, p7, p8, p9] [ptr pg, tl, tr, .int .i64 n, fv', .int .i64 (a : Int), .int .i64 (b : Int)]) h3) P := by
        intro h' hc hf'
        obtain ⟨h2, eh2⟩ : ∃ h2, h2 = h'.new (.cells [.int .i64 (a : Int), .int .i64 (b : Int)] 0) := ⟨_, rfl⟩
        have hf2 : Fr h h2 := by rw [eh2]; exact hf'.newR _
        have hn2 : h2.next = h'.next + 1 := by rw [eh2]; simp
        have hfn' := hf'.next
        have hfl := fzA_len R es a b
        obtain ⟨h3, fv', ea, hg3, hn3, hf3⟩ := zbC (h := h2) (sz := 2) (bytes := 16) (r := prL ((a : Int), (b : Int))) (b := h'.next) (e := 0) (by omega) (by decide) (hg.fr hf2) (by rw [eh2]; simp) rfl rfl rfl (by rw [List.length_map, List.length_append]; omega)
        refine ⟨h3, fv', by rw [← eh2]; exact ea, ?_⟩
        rw [s_c_8]
        have := ih (b + 1) h3 fv' (some h2.next) (by omega) ⟨by omega, fun i hi => (hf3.get _ (by omega) (fun e => by have := hob _ e; omega)).trans ((hf2.get _ (by omega)).trans (hf.get _ hi))⟩ (by rw [hsucc, if_pos hc, ← List.append_assoc, List.map_append]; exact hg3) (fun q e => by cases e; omega)
        refine OkV.eq (this.lp (l_c_7 F _ _ _ _ _ _ _ _)) ?_
        simp (disch := first | omega | (simp only [zb, za]; done) | (simp only [zb, za]; omega)) [zx]
      cases h1c : zeg R es a b with
      | true =>
        rw [h1c] at e1
        obtain ⟨h3, fv', ea, ok⟩ := take h1 (by simp [zha, c, h1c]) hf1
        refine OkV.eq ok ?_
        simp (disch := first | omega | (simp only [zb, za]; done) | (simp only [zb, za]; omega)) [gpg, hv.one, hv.len, hbN, hv3, hg3, ht3, m2, rq, c, e1, zr, zk, ea]
      | false =>
        rw [h1c] at e1
        obtain ⟨h2, e2, hf2⟩ := split_ok es hsz N hin tl tr lvs rvs R b a hbN ha h1 (hrh.fr hf1)
        cases h2c : zeg R es b a with
        | true =>
          rw [h2c] at e2
          obtain ⟨h3, fv', ea, ok⟩ := take h2 (by simp [zha, c, h1c, h2c]) (hf1.trans hf2)
          refine OkV.eq ok ?_
          simp (disch := first | omega | (simp only [zb, za]; done) | (simp only [zb, za]; omega)) [gpg, hv.one, hv.len, hbN, hv3, hg3, ht3, m2, rq, c, e1, e2, zr, zk, ea]
        | false =>
          rw [h2c] at e2
          refine OkV.eq (skip (by simp [zha, h1c, h2c]) h2 (hf1.trans hf2)) ?_
          simp (disch := first | omega | (simp only [zb, za]; done) | (simp only [zb, za]; omega)) [gpg, hv.one, hv.len, hbN, hv3, hg3, ht3, m2, rq, c, e1, e2, zr, zk]
    · refine OkV.eq (skip (by simp [zha, c]) h (.refl _)) ?_
      simp (disch := first | omega | (simp only [zb, za]; done) | (simp only [zb, za]; omega)) [gpg, hv.one, hv.len, hbN, hv3, hg3, ht3, m2, rq, c, zr, zk]
end Go.Ideal.J
namespace Go.Ideal.J
open Go Go.Ideal
theorem repeat_i0 : ∀ n, zk [Value.int .i64 0] n = List.replicate n (.int .i64 0)
  | 0 => rfl
  | n + 1 => by simp [zk, repeat_i0 n, List.replicate_succ]
theorem make_ints0 {n : Nat} (hn : n ≤ 1000) (h : H) : zV 8 [.int .i64 0] h (.int .i64 (n : Int)) (.int .i64 (n : Int)) = some (slF h.next n, h.new (.cells (List.replicate n (.int .i64 0)) 0)) := by
  show (if (Nat.ble n n && Nat.ble (n * 8) 1073741824 && Nat.ble n 1073741824) = true then _ else none) = _
  rw [if_pos (by simp; omega), repeat_i0]
theorem map_i64 : ∀ {l l' : List Int}, l.map (fun i => Value.int .i64 i) = l'.map (fun i => Value.int .i64 i) → l = l'
  | [], [], _ => rfl
  | [], _ :: _, h => by simp at h
  | _ :: _, [], h => by simp at h
  | x :: l, y :: l', h => by have h := List.cons.inj h; rw [(Value.int.inj h.1).2, map_i64 h.2]
structure RC3 (es : List Ed) (N : Nat) (lo : Nat) (h : H) (tl tr : Value) (lvs : List Value) (qs : List Nat) (R : Int → Int → Int) : Prop where
  rl : Row h 1 tl (lvs.map fun v => [v])
  rr : Row h 1 tr (qs.map fun q => [slF q N])
  lst : ∀ a : Nat, a < N → ∃ lv, lvs[a]? = some lv ∧ Row h 3 lv ((outs es a).map edL) ∧ ∀ b o n c, lv = .slice (some ⟨b, o, none⟩) n c → b ∉ qs
  nl : ∀ b o n c, tl = .slice (some ⟨b, o, none⟩) n c → b ∉ qs
  nr : ∀ b o n c, tr = .slice (some ⟨b, o, none⟩) n c → b ∉ qs
  nd : qs.Nodup
  ql : ∀ q ∈ qs, lo ≤ q ∧ q < h.next
  len : qs.length = N
  mat : ∀ (a q : Nat), qs[a]? = some q → ∃ is : List Int, h.get q = some (.cells (is.map fun i => .int .i64 i) 0) ∧ is.length = N ∧ ∀ c : Nat, c < N → is[c]? = some (R a c)
theorem RC3.two {es : List Ed} {N lo : Nat} {h : H} {tl tr : Value} {lvs : List Value} {qs : List Nat} {R : Int → Int → Int} (r : RC3 es N lo h tl tr lvs qs R) : RC2 es N h tl tr lvs (qs.map fun q => slF q N) R where
  rl := r.rl
  rr := by rw [List.map_map]; exact r.rr
  lst := fun a ha => by obtain ⟨lv, h1, h2, _⟩ := r.lst a ha; exact ⟨lv, h1, h2⟩
  mat := fun a ha => by
    have hq : qs[a]? = some (qs[a]'(by rw [r.len]; exact ha)) := List.getElem?_eq_getElem _
    obtain ⟨is, h1, h2, h3⟩ := r.mat a _ hq
    exact ⟨_, is, by rw [List.getElem?_map, hq]; rfl, h1, h2, h3, (r.ql _ (List.mem_of_getElem? hq)).2⟩
theorem RC3.fr {es : List Ed} {N lo : Nat} {h h' : H} {tl tr : Value} {lvs : List Value} {qs : List Nat} {R : Int → Int → Int} (r : RC3 es N lo h tl tr lvs qs R) (hf : Fr h h') : RC3 es N lo h' tl tr lvs qs R where
  rl := r.rl.fr hf
  rr := r.rr.fr hf
  lst := fun a ha => by obtain ⟨lv, h1, h2, h3⟩ := r.lst a ha; exact ⟨lv, h1, h2.fr hf, h3⟩
  nl := r.nl
  nr := r.nr
  nd := r.nd
  ql := fun q hq => ⟨(r.ql q hq).1, Nat.lt_of_lt_of_le (r.ql q hq).2 hf.next⟩
  len := r.len
  mat := fun a q hq => by
    obtain ⟨is, h2, h3, h4⟩ := r.mat a q hq
    exact ⟨is, (hf.get _ (r.ql q (List.mem_of_getElem? hq)).2).trans h2, h3, h4⟩
def updR (R : Int → Int → Int) (a b n : Int) : Int → Int → Int := fun c d => if c = a ∧ d = b then n else R c d
theorem RC3.set {es : List Ed} {N lo : Nat} {h : H} {tl tr : Value} {lvs : List Value} {qs : List Nat} {R : Int → Int → Int} (r : RC3 es N lo h tl tr lvs qs R) {a c q : Nat} (ha : qs[a]? = some q) (hc : c < N) (n : Int) {is : List Int} (hg : h.get q = some (.cells (is.map fun i => .int .i64 i) 0)) :
    RC3 es N lo (h.put q (.cells ((is.set c n).map fun i => .int .i64 i) 0)) tl tr lvs qs (updR R a c n) := by
  have hqm := List.mem_of_getElem? ha
  have hf : FrD (fun j => j ∈ qs) h (h.put q (.cells ((is.set c n).map fun i => .int .i64 i) 0)) := (FrD.refl _ h).put (.inr hqm) _
  exact {
    rl := r.rl.frD hf (fun b o n c e hd => r.nl b o n c e hd)
    rr := r.rr.frD hf (fun b o n c e hd => r.nr b o n c e hd)
    lst := fun a ha => by obtain ⟨lv, h1, h2, h3⟩ := r.lst a ha; exact ⟨lv, h1, h2.frD hf (fun b o n c e hd => h3 b o n c e hd), h3⟩
    nl := r.nl
    nr := r.nr
    nd := r.nd
    ql := fun q' hq => by rw [za]; exact r.ql q' hq
    len := r.len
    mat := fun a' q' hq => by
      obtain ⟨is', h2, h3, h4⟩ := r.mat a' q' hq
      by_cases e : a' = a
      · subst e
        rw [ha] at hq; cases hq
        rw [hg] at h2
        have hii : is' = is := map_i64 (IObj.cells.inj (Option.some.inj h2)).1.symm
        subst hii
        refine ⟨is'.set c n, by simp, by simpa using h3, fun d hd => ?_⟩
        rw [List.getElem?_set]
        unfold updR
        by_cases e : c = d
        · subst e; rw [if_pos rfl, if_pos (by omega), if_pos ⟨rfl, rfl⟩]
        · rw [if_neg e, if_neg (by omega)]; exact h4 d hd
      · have hne : q' ≠ q := by
          intro e2; subst e2
          have h5 : qs[a']? = qs[a]? := by rw [hq, ha]
          have hl : a < qs.length := by
            rcases Nat.lt_or_ge a qs.length with h' | h'
            · exact h'
            · rw [List.getElem?_eq_none h'] at ha; cases ha
          exact e ((List.getElem?_inj hl r.nd).1 h5.symm).symm
        refine ⟨is', by rw [zt (hne)]; exact h2, h3, fun d hd => ?_⟩
        unfold updR
        rw [if_neg (by omega)]; exact h4 d hd }
end Go.Ideal.J
namespace Go.Ideal.J
open Go Go.Ideal
theorem takeC_two {o : Nat} {cs : List Value} {x y : Int} (h : zO 2 (zbh o cs) = some [.int .i64 x, .int .i64 y]) : zO 1 (zbh o cs) = some [.int .i64 x] ∧ zO 1 (zbh (o + 1) cs) = some [.int .i64 y] := by
  have h1 := (zcN h).1
  rw [zdK, zdh] at h1
  split at h1
  · rename_i hl
    have h2 := Option.some.inj h1
    have e0 : cs[o]? = some (.int .i64 x) := by
      have := congrArg (fun l => l[0]?) h2
      simpa [List.getElem?_take, List.getElem?_drop] using this
    have e1 : cs[o + 1]? = some (.int .i64 y) := by
      have := congrArg (fun l => l[1]?) h2
      simpa [List.getElem?_take, List.getElem?_drop] using this
    exact ⟨zb3 e0 rfl, zb3 e1 rfl⟩
  · cases h1
def updL (R : Int → Int → Int) (n : Int) (l : List (Int × Int)) : Int → Int → Int := l.foldl (fun R p => updR R p.1 p.2 n) R
theorem updL_get (n : Int) : ∀ (l : List (Int × Int)) (R : Int → Int → Int) (c d : Int), updL R n l c d = if (c, d) ∈ l then n else R c d
  | [], R, c, d => by simp [updL]
  | p :: l, R, c, d => by
    show updL (updR R p.1 p.2 n) n l c d = _
    rw [updL_get n l]
    by_cases h : (c, d) ∈ l
    · rw [if_pos h, if_pos (List.mem_cons_of_mem _ h)]
    · rw [if_neg h]
      unfold updR
      by_cases h2 : c = p.1 ∧ d = p.2
      · rw [if_pos h2, if_pos (by rw [h2.1, h2.2]; simp)]
      · rw [if_neg h2, if_neg]
        intro h3
        rcases List.mem_cons.1 h3 with h3 | h3
        · exact h2 ⟨by rw [← h3], by rw [← h3]⟩
        · exact h h3
theorem rnd9 (es : List Ed) (N lo : Nat) (hN : N ≤ 200) (n : Int) (pg : Nat) (tl tr : Value) (lvs : List Value) (qs : List Nat) (l : List (Int × Int)) (hl : l.length ≤ 100000) (hlb : ∀ p ∈ l, ∃ a b : Nat, p = ((a : Int), (b : Int)) ∧ a < N ∧ b < N) (fv : Value) (h0 : H) (hrow : Row h0 2 fv (l.map prL)) (hfq : ∀ b o n c, fv = .slice (some ⟨b, o, none⟩) n c → b ∉ qs) (R : Int → Int → Int) {P : Value → H → Prop}
    (hP : ∀ h', FrD (fun j => j ∈ qs) h0 h' → RC3 es N lo h' tl tr lvs qs (updL R n l) → OkV (sh (rI F) c_c_3 (K_c_3 (rI F)) (setL [p1, p3, p4, p6] [ptr pg, tl, tr, .int .i64 n]) h') P) :
    ∀ (k i : Nat) (h : H), i + k = l.length → FrD (fun j => j ∈ qs) h0 h → RC3 es N lo h tl tr lvs qs (updL R n (l.take i)) →
    OkV (sh (rI F) c_c_9 (K_c_9 (rI F)) (setL [p1, p3, p4, p6, p7, p10] [ptr pg, tl, tr, .int .i64 n, fv, .int .i64 (i : Int)]) h) P := by
  intro k
  have hv := hrow.slvM
  induction k with
  | zero =>
    intro i h hi hf hr
    have e : i = l.length := by omega
    subst e
    rw [List.take_length] at hr
    rw [s_c_9]
    simp (disch := first | omega | (simp only [zb, za]; done) | (simp only [zb, za]; omega)) [hv.one, hv.len]
    exact hP h hf hr
  | succ k ih =>
    intro i h hi hf hr
    have hil : i < l.length := by omega
    have hx : (l.map prL)[i]? = some (prL l[i]) := by simp [hil]
    have htk : l.take (i + 1) = l.take i ++ [l[i]] := by rw [List.take_add_one, List.getElem?_eq_getElem hil]; rfl
    obtain ⟨b1, o1, cs1, e1, hv1, hb1, hg1, ht1⟩ := (hrow.frD hf hfq).index hx
    obtain ⟨a, b, hpe, ha, hb⟩ := hlb _ (List.getElem_mem hil)
    rw [hpe] at ht1 htk
    obtain ⟨t1, t2⟩ := takeC_two ht1
    have hqa : qs[a]? = some (qs[a]'(by rw [hr.len]; exact ha)) := List.getElem?_eq_getElem _
    generalize qs[a]'(by rw [hr.len]; exact ha) = q at *
    obtain ⟨is, m1, m2, m3⟩ := hr.mat a q hqa
    obtain ⟨b3, o3, cs3, e3, hv3, hb3, hg3, ht3⟩ := hr.rr.index (i := a) (r := [slF q N]) (by rw [List.getElem?_map, hqa]; rfl)
    have hw : zJ (is.map fun i => Value.int .i64 i) b [.int .i64 n] = some ((is.set b n).map fun i => Value.int .i64 i) := by
      rw [zdq (by rw [List.length_map, m2]; exact hb)]; simp [List.map_set]
    have := ih (i + 1) (h.put q (.cells ((is.set b n).map fun i => .int .i64 i) 0)) (by omega) (hf.put (.inr (List.mem_of_getElem? hqa)) _) (by
      rw [htk]
      have := hr.set hqa hb n m1
      show RC3 _ _ _ _ _ _ _ _ ((l.take i ++ [((a : Int), (b : Int))]).foldl (fun R p => updR R p.1 p.2 n) R)
      rw [List.foldl_append]; exact this)
    rw [s_c_9]
    refine OkV.eq (this.lp (l_c_9 F _ _ _ _ _ _ _)) ?_
    have a1 : ∀ h' : H, zch 2 1 (.pointer (some ⟨b1, o1, none⟩)) (.int .i64 1) h' = some (.pointer (some ⟨b1, o1 + 1 * 1, none⟩), h') := fun h' => rfl
    have a0 : ∀ h' : H, zch 2 1 (.pointer (some ⟨b1, o1, none⟩)) (.int .i64 0) h' = some (.pointer (some ⟨b1, o1 + 0 * 1, none⟩), h') := fun h' => rfl
    simp (disch := first | omega | (simp only [zb, za]; done) | (simp only [zb, za]; omega)) [hv.one, hv.len, hil, hv1, hg1, t1, t2, a0, a1, hv3, hg3, ht3, m1, hw, hb, zx]
theorem rnd5 (es : List Ed) (hsz : es.length ≤ 1000) (N : Nat) (hN : N ≤ 200) (hin : inB (N : Int) es) (tl tr : Value) (lvs rvs : List Value) (R : Int → Int → Int) (n : Int) (pg : Nat) (lb : Int) (sl : Value) (hv : SlV sl es.length) (h0 : H) (hr : RC2 es N h0 tl tr lvs rvs R) (hgg : h0.get pg = some (.cells (gL (N : Int) lb sl) 0)) (hpg : pg < h0.next) {P : Value → H → Prop}
    (hP : ∀ h' fv ob, Fr h0 h' → Grow h' 2 fv ((fz R es N N).map prL) ob → (∀ q, ob = some q → h0.next ≤ q) → OkV (sh (rI F) c_c_4 (zi8 (rI F)) (setL [p1, p3, p4, p6, p7] [ptr pg, tl, tr, .int .i64 n, fv]) h') P) :
    ∀ (k a : Nat) (h : H) (fv : Value) (ob : Option Nat), a + k = N → Fr h0 h → Grow h 2 fv ((fz R es N a).map prL) ob → (∀ q, ob = some q → h0.next ≤ q) →
    OkV (sh (rI F) c_c_5 (K_c_5 (rI F)) (setL [p1, p3, p4, p6, p7, p8] [ptr pg, tl, tr, .int .i64 n, fv, .int .i64 (a : Int)]) h) P := by
  intro k
  induction k with
  | zero =>
    intro a h fv ob ha hf hg hob
    have e : a = N := by omega
    subst e
    have gpg := (hf.get _ hpg).trans hgg
    rw [s_c_5]
    simp (disch := first | omega | (simp only [zb, za]; done) | (simp only [zb, za]; omega)) [gpg, hv.one, hv.len]
    exact hP h fv ob hf hg hob
  | succ k ih =>
    intro a h fv ob ha hf hg hob
    have haN : a < N := by omega
    have gpg := (hf.get _ hpg).trans hgg
    have hfn := hf.next
    have hfl := fz_len R es N a
    have hfl2 : a * N ≤ 200 * 200 := Nat.mul_le_mul (by omega) hN
    have := rnd7 es hsz N hN hin tl tr lvs rvs R n pg lb sl hv a haN (fz R es N a) (by omega) h0 hr hgg hpg (P := P) (fun h' fv' ob' q1 q2 q3 => by
      rw [s_c_6]
      have := ih (a + 1) h' fv' ob' (by omega) q1 (by rw [fz_succ]; exact q2) q3
      refine OkV.eq (this.lp (l_c_5 F _ _ _ _ _ _ _)) ?_
      simp (disch := first | omega | (simp only [zb, za]; done) | (simp only [zb, za]; omega)) [zx]) N 0 h fv ob (by omega) hf (by simpa [fzA] using hg) hob
    rw [s_c_5]
    refine OkV.eq (this.lp (l_c_7 F _ _ _ _ _ _ _ _)) ?_
    simp (disch := first | omega | (simp only [zb, za]; done) | (simp only [zb, za]; omega)) [gpg, hv.one, hv.len, haN]
end Go.Ideal.J
namespace Go.Ideal.J
open Go Go.Ideal
def RZ (es : List Ed) (N k : Nat) (a b : Int) : Int := (rN es N k a b).getD 0
theorem rN_pos {es : List Ed} {N : Nat} : ∀ {k : Nat} {a b : Int} {v : Int}, rN es N k a b = some v → 1 ≤ v
  | 0, a, b, v, h => by cases h
  | k + 1, a, b, v, h => by
    have h : zcG (rN es N k) ((k : Int) + 1) (fnd (rN es N k) es ((k : Int) + 1) N) a b = some v := h
    rw [zbA] at h
    split at h
    · cases h; omega
    · exact rN_pos h
theorem zgK {es : List Ed} {N k : Nat} {a b : Int} : RZ es N k a b = 0 ↔ rN es N k a b = none := by
  unfold RZ
  cases h : rN es N k a b with
  | none => simp
  | some v => have := rN_pos h; simp; omega
theorem ans_told (es : List Ed) (N k : Nat) (x : Ed) (b : Int) : ansR (RZ es N k) es x b (-1) = zfE (rN es N k) es x b k := by
  unfold ansR zfE
  congr 1
  funext t
  unfold badR zbL
  cases h : rN es N k x.2.1 t with
  | none => simp [zgK.2 h]
  | some v =>
    have h0 : ¬ RZ es N k x.2.1 t = 0 := fun e => by rw [zgK.1 e] at h; cases h
    have := (zdj h).1
    simp [h0, this, (zdj h).2.1]
theorem zii {α : Type} (p : α → Bool) : ∀ l : List α, (l.find? p).isSome = l.any p
  | [] => rfl
  | a :: l => by
    rw [List.find?_cons, List.any_cons]
    cases h : p a
    · simpa using zii p l
    · rfl
theorem split_eq (es : List Ed) (N k : Nat) (a b : Int) : zeg (RZ es N k) es a b = (zbl (rN es N k) es a b k).isSome := by
  unfold zeg zbl
  rw [zii]
  congr 1
  funext x
  exact ans_told es N k x b
theorem cond_eq (es : List Ed) (N k : Nat) (a b : Int) : zha (RZ es N k) es a b = zcE (rN es N k) es ((k : Int) + 1) a b := by
  unfold zha zcE
  rw [split_eq, split_eq, show ((k : Int) + 1 - 1) = k by omega]
  congr 1
  cases h : rN es N k a b with
  | none => simp [zgK.2 h]
  | some v =>
    have h0 : ¬ RZ es N k a b = 0 := fun e => by rw [zgK.1 e] at h; cases h
    simp [h0]
theorem cond_symm (es : List Ed) (N k : Nat) (n a b : Int) : zcE (rN es N k) es n a b = zcE (rN es N k) es n b a := by
  unfold zcE
  rw [zdR k a b, Bool.or_comm]
theorem cond_self (es : List Ed) (N k : Nat) (n a : Int) : zcE (rN es N k) es n a a = false := by
  unfold zcE
  have : zbl (rN es N k) es a a (n - 1) = none := by
    unfold zbl
    rw [List.find?_eq_none]
    intro x hx hh
    have hxo := zbI.1 hx
    have := List.all_eq_true.1 hh x.2.1 (zdk.2 ⟨x, hxo.1, hxo.2, rfl, rfl⟩)
    unfold zbL at this
    cases h : rN es N k x.2.1 x.2.1 with
    | none => rw [h] at this; simp at this
    | some v => exact absurd rfl (zdj h).2.1
  rw [this]; simp
theorem mem_fz {R : Int → Int → Int} {es : List Ed} {N : Nat} {p : Int × Int} : p ∈ fz R es N N ↔ ∃ a b : Nat, p = ((a : Int), (b : Int)) ∧ a < N ∧ b < N ∧ zha R es a b = true := by
  unfold fz fzA
  rw [List.mem_flatMap]
  constructor
  · rintro ⟨a, h1, h2⟩
    obtain ⟨b, h3, rfl⟩ := List.mem_map.1 h2
    obtain ⟨h4, h5⟩ := List.mem_filter.1 h3
    exact ⟨a, b, rfl, List.mem_range.1 h1, List.mem_range.1 h4, h5⟩
  · rintro ⟨a, b, rfl, h1, h2, h3⟩
    exact ⟨a, List.mem_range.2 h1, List.mem_map.2 ⟨b, List.mem_filter.2 ⟨List.mem_range.2 h2, h3⟩, rfl⟩⟩
theorem fz_fnd (es : List Ed) (N k : Nat) (a b : Int) : (a, b) ∈ fz (RZ es N k) es N N ↔ (a, b) ∈ fnd (rN es N k) es ((k : Int) + 1) N ∨ (b, a) ∈ fnd (rN es N k) es ((k : Int) + 1) N := by
  constructor
  · intro h
    obtain ⟨c, d, e, h1, h2, h3⟩ := mem_fz.1 h
    cases e
    rw [cond_eq] at h3
    rcases Nat.lt_trichotomy c d with hl | hl | hl
    · exact .inr (zdl.2 ⟨d, c, rfl, h2, hl, by rw [cond_symm]; exact h3⟩)
    · subst hl; rw [cond_self] at h3; cases h3
    · exact .inl (zdl.2 ⟨c, d, rfl, h1, hl, h3⟩)
  · rintro (h | h)
    · obtain ⟨c, d, e, h1, h2, h3⟩ := zdl.1 h
      cases e
      exact mem_fz.2 ⟨c, d, rfl, h1, by omega, by rw [cond_eq]; exact h3⟩
    · obtain ⟨c, d, e, h1, h2, h3⟩ := zdl.1 h
      cases e
      exact mem_fz.2 ⟨d, c, rfl, by omega, h1, by rw [cond_eq, cond_symm]; exact h3⟩
theorem RZ_succ (es : List Ed) (N k : Nat) : updL (RZ es N k) ((k : Int) + 1) (fz (RZ es N k) es N N) = RZ es N (k + 1) := by
  funext a b
  rw [updL_get]
  show _ = (zcG (rN es N k) ((k : Int) + 1) (fnd (rN es N k) es ((k : Int) + 1) N) a b).getD 0
  rw [zbA]
  by_cases h : (a, b) ∈ fz (RZ es N k) es N N
  · rw [if_pos h, if_pos ((fz_fnd es N k a b).1 h)]; rfl
  · rw [if_neg h, if_neg (fun h2 => h ((fz_fnd es N k a b).2 h2))]; rfl
theorem fz_nil (es : List Ed) (N k : Nat) : fz (RZ es N k) es N N = [] ↔ fnd (rN es N k) es ((k : Int) + 1) N = [] := by
  constructor
  · intro h
    cases h2 : fnd (rN es N k) es ((k : Int) + 1) N with
    | nil => rfl
    | cons p l =>
      have : p ∈ fz (RZ es N k) es N N := (fz_fnd es N k p.1 p.2).2 (.inl (by rw [h2]; simp))
      rw [h] at this; cases this
  · intro h
    cases h2 : fz (RZ es N k) es N N with
    | nil => rfl
    | cons p l =>
      have : (p.1, p.2) ∈ fz (RZ es N k) es N N := by rw [h2]; simp
      rw [fz_fnd, h] at this
      rcases this with h | h <;> cases h
end Go.Ideal.J
namespace Go.Ideal.J
open Go Go.Ideal
theorem rnd2 (es : List Ed) (hsz : es.length ≤ 1000) (N : Nat) (hN : N ≤ 200) (hin : inB (N : Int) es) (lo : Nat) (tl tr : Value) (lvs : List Value) (qs : List Nat) (pg : Nat) (lb : Int) (sl : Value) (hv : SlV sl es.length) (hI : H) (hgg : hI.get pg = some (.cells (gL (N : Int) lb sl) 0)) (hpg : pg < hI.next) (hlo : hI.next ≤ lo) {P : Value → H → Prop}
    (hP : ∀ h' k, Fr hI h' → RC3 es N lo h' tl tr lvs qs (RZ es N k) → fnd (rN es N k) es ((k : Int) + 1) N = [] → P tr h') :
    ∀ (μ k : Nat) (h : H), meas N (rN es N k) = μ → k + μ ≤ 100000 → Fr hI h → RC3 es N lo h tl tr lvs qs (RZ es N k) →
    OkV (sh (rI F) c_c_2 (K_c_2 (rI F)) (setL [p1, p3, p4, p6] [ptr pg, tl, tr, .int .i64 ((k : Int) + 1)]) h) P := by
  intro μ
  induction μ using Nat.strongRecOn with
  | _ μ ih =>
    intro k h hμ hk hf hr
    have hfn := hf.next
    have gpg := (hf.get _ hpg).trans hgg
    rw [s_c_2]
    have := rnd5 es hsz N hN hin tl tr lvs (qs.map fun q => slF q N) (RZ es N k) ((k : Int) + 1) pg lb sl hv h hr.two gpg (by omega) (P := P)
      (fun h' fv ob hf' hg' hob' => by
        have hfn' := hf'.next
        have hfv := hg'.slvM
        have htv := hr.rr.slvM
        rw [s_c_4]
        by_cases hnil : fz (RZ es N k) es N N = []
        · have hl0 : (fz (RZ es N k) es N N).length = 0 := by rw [hnil]; rfl
          refine OkV.eq (OkV.val (hP h' k (hf.trans hf') (hr.fr hf') ((fz_nil es N k).1 hnil))) ?_
          simp (disch := first | omega | (simp only [zb, za]; done) | (simp only [zb, za]; omega)) [hfv.len, hl0, hfv.one]
        · have hl0 : ¬ ((fz (RZ es N k) es N N).length : Int) = 0 := by
            have := List.length_pos_iff.2 hnil; omega
          have hfl := fz_len (RZ es N k) es N N
          have hNN : N * N ≤ 200 * 200 := Nat.mul_le_mul hN hN
          have hlt := meas_lt (fun e => hnil ((fz_nil es N k).2 e))
          have h9 := rnd9 es N lo hN ((k : Int) + 1) pg tl tr lvs qs (fz (RZ es N k) es N N) (by omega) (fun p hp => by obtain ⟨a, b, e, h1, h2, _⟩ := mem_fz.1 hp; exact ⟨a, b, e, h1, h2⟩) fv h' (hg'.row (by omega)) (fun b o n c e hd => by have := hob' _ (hg'.block e); have := (hr.ql b hd).2; omega) (RZ es N k) (P := P)
            (fun h'' hf'' hr'' => by
              rw [s_c_3]
              rw [RZ_succ] at hr''
              have := ih (meas N (rN es N (k + 1))) (by rw [← hμ]; exact hlt) (k + 1) h'' rfl (by
                have : meas N (rN es N (k + 1)) < μ := by rw [← hμ]; exact hlt
                omega) ((hf.trans hf').transD hf'' (fun i hi hd => by have := (hr.ql i hd).1; omega)) hr''
              refine OkV.eq (this.lp (l_c_2 F _ _ _ _ _)) ?_
              simp (disch := first | omega | (simp only [zb, za]; done) | (simp only [zb, za]; omega)) [zx]) (fz (RZ es N k) es N N).length 0 h' (by omega) (.refl _ _) (by simpa [updL] using hr.fr hf')
          refine OkV.eq (h9.lp (l_c_9 F _ _ _ _ _ _ _)) ?_
          simp (disch := first | omega | (simp only [zb, za]; done) | (simp only [zb, za]; omega)) [hfv.len, hl0, hfv.one, hnil]) N 0 h (.slice none 0 0) none (by omega) (.refl _) (by simpa [fz] using Grow.nil) (by simp)
    refine OkV.eq (this.lp (l_c_5 F _ _ _ _ _ _ _)) ?_
    simp (disch := first | omega | (simp only [zb, za]; done) | (simp only [zb, za]; omega)) []
structure RC1 (es : List Ed) (N lo i : Nat) (h : H) (ob1 ob2 : Option Nat) (lvs : List Value) (qs : List Nat) : Prop where
  l1 : lvs.length = i
  l2 : qs.length = i
  lst : ∀ a : Nat, a < i → ∃ lv, lvs[a]? = some lv ∧ Row h 3 lv ((outs es a).map edL) ∧ ∀ b o n c, lv = .slice (some ⟨b, o, none⟩) n c → b ∉ qs ∧ ob1 ≠ some b ∧ ob2 ≠ some b
  nd : qs.Nodup
  ql : ∀ q ∈ qs, lo ≤ q ∧ q < h.next ∧ ob1 ≠ some q ∧ ob2 ≠ some q
  mat : ∀ q ∈ qs, h.get q = some (.cells (List.replicate N (.int .i64 0)) 0)
  ne : ∀ q, ob1 = some q → ob2 ≠ some q
  o1 : ∀ q, ob1 = some q → lo ≤ q ∧ q < h.next
  o2 : ∀ q, ob2 = some q → lo ≤ q ∧ q < h.next
theorem rnd1 (es : List Ed) (hsz : es.length ≤ 1000) (N : Nat) (hN : N ≤ 200) (lo : Nat) (pg : Nat) (lb : Int) (sl : Value) (hI : H) (hrow : Row hI 3 sl (es.map edL)) (hgg : hI.get pg = some (.cells (gL (N : Int) lb sl) 0)) (hpg : pg < hI.next) (hlo : lo = hI.next) {P : Value → H → Prop}
    (hP : ∀ h' tl tr lvs qs, Fr hI h' → RC3 es N lo h' tl tr lvs qs (RZ es N 0) → OkV (sh (rI F) c_c_0 (zi9 (rI F)) (setL [p1, p3, p4] [ptr pg, tl, tr]) h') P) :
    ∀ (k i : Nat) (h : H) (tl tr : Value) (lvs : List Value) (qs : List Nat) (ob1 ob2 : Option Nat), i + k = N → Fr hI h → Grow h 1 tl (lvs.map fun v => [v]) ob1 → Grow h 1 tr (qs.map fun q => [slF q N]) ob2 → RC1 es N lo i h ob1 ob2 lvs qs →
    OkV (sh (rI F) c_c_1 (K_c_1 (rI F)) (setL [p1, p3, p4, p5] [ptr pg, tl, tr, .int .i64 (i : Int)]) h) P := by
  intro k
  induction k with
  | zero =>
    intro i h tl tr lvs qs ob1 ob2 hi hf hg1 hg2 hr
    have e : i = N := by omega
    subst e
    have gpg := (hf.get _ hpg).trans hgg
    have hv := hrow.slvM
    rw [s_c_1]
    simp (disch := first | omega | (simp only [zb, za]; done) | (simp only [zb, za]; omega)) [gpg, hv.one, hv.len]
    refine hP h tl tr lvs qs hf ?_
    exact {
      rl := hg1.row (by omega)
      rr := hg2.row (by omega)
      lst := fun a ha => by obtain ⟨lv, h1, h2, h3⟩ := hr.lst a ha; exact ⟨lv, h1, h2, fun b o n c e => (h3 b o n c e).1⟩
      nl := fun b o n c e hd => (hr.ql b hd).2.2.1 (hg1.block e)
      nr := fun b o n c e hd => (hr.ql b hd).2.2.2 (hg2.block e)
      nd := hr.nd
      ql := fun q hq => ⟨(hr.ql q hq).1, (hr.ql q hq).2.1⟩
      len := hr.l2
      mat := fun a q hq => ⟨List.replicate i 0, by rw [hr.mat q (List.mem_of_getElem? hq)]; simp, by simp, fun c hc => by rw [List.getElem?_replicate, if_pos hc]; rfl⟩ }
  | succ k ih =>
    intro i h tl tr lvs qs ob1 ob2 hi hf hg1 hg2 hr
    have hiN : i < N := by omega
    have gpg := (hf.get _ hpg).trans hgg
    have hv := hrow.slvM
    have hfn := hf.next
    obtain ⟨lv, h1, es1, ov, hf1, hgl, hov⟩ : ∃ lv h1, zbm F (fnV n_w) [gV (N : Int) lb sl, .int .i64 (i : Int)] h = some (lv, h1) ∧ ∃ ov, Fr h h1 ∧ Grow h1 3 lv ((outs es i).map edL) ov ∧ (∀ b, ov = some b → h.next ≤ b) := by
      obtain ⟨v, h', e, q⟩ := rsteps_ok es hsz i (N : Int) lb sl h (hrow.fr hf) (P := fun v h' => ∃ ov, Fr h h' ∧ Grow h' 3 v ((outs es i).map edL) ov ∧ (∀ b, ov = some b → h.next ≤ b)) (fun h' v ob q1 q2 q3 => ⟨ob, q1, q2, q3⟩)
      exact ⟨v, h', e, q⟩
    have hfn1 := hf1.next
    obtain ⟨bv, cv, elv⟩ := hgl.len
    have hcl : zj lv = [lv] := by rw [elv]; rfl
    obtain ⟨h2, eh2⟩ : ∃ h2, h2 = h1.new (.cells [lv] 0) := ⟨_, rfl⟩
    have hf2 : Fr h h2 := by rw [eh2]; exact hf1.newR _
    have hn2 : h2.next = h1.next + 1 := by rw [eh2]; simp
    obtain ⟨h3, tl', ea, hg3, hn3, hf3⟩ := zbC (h := h2) (sz := 1) (bytes := 24) (r := [lv]) (b := h1.next) (e := 0) (by omega) (by decide) (hg1.fr hf2) (by rw [eh2]; simp) rfl (by rw [elv]; rfl) (by rw [elv]; rfl) (by rw [List.length_map, hr.l1]; omega)
    have hmk := make_ints0 (n := N) (by omega) h3
    obtain ⟨h4, eh4⟩ : ∃ h4, h4 = h3.new (.cells (List.replicate N (.int .i64 0)) 0) := ⟨_, rfl⟩
    have hn4 : h4.next = h3.next + 1 := by rw [eh4]; simp
    obtain ⟨h5, eh5⟩ : ∃ h5, h5 = h4.new (.cells [slF h3.next N] 0) := ⟨_, rfl⟩
    have hn5 : h5.next = h4.next + 1 := by rw [eh5]; simp
    have hf35 : Fr h3 h5 := by rw [eh5, eh4]; exact (Fr.new _ _).newR _
    have hd1 : ∀ j, ob1 = some j → lo ≤ j ∧ j < h.next := hr.o1
    have hd2 : ∀ j, ob2 = some j → lo ≤ j ∧ j < h.next := hr.o2
    have hfa : FrD (fun j => ob1 = some j) h h3 := hf2.D.trans hf3
    have hg2' : Grow h5 1 tr (qs.map fun q => [slF q N]) ob2 := (hg2.frD hfa (fun b e e' => hr.ne b e' e)).fr hf35
    obtain ⟨h6, tr', eb, hg6, hn6, hf6⟩ := zbC (h := h5) (sz := 1) (bytes := 24) (r := [slF h3.next N]) (b := h4.next) (e := 0) (by omega) (by decide) hg2' (by rw [eh5]; simp) rfl rfl rfl (by rw [List.length_map, hr.l2]; omega)
    have hfD : FrD (fun j => ob1 = some j ∨ ob2 = some j) h h6 := ((hfa.mono (fun _ _ h => .inl h)).trans hf35.D).trans (hf6.mono (fun _ _ h => .inr h))
    have hf36 : FrD (fun j => ob2 = some j) h3 h6 := hf35.D.trans hf6
    have hf16 : FrD (fun j => ob1 = some j ∨ ob2 = some j) h1 h6 := ((((Fr.new h1 (.cells [lv] 0)).D (D := fun j => ob1 = some j ∨ ob2 = some j)).trans (by rw [← eh2]; exact hf3.mono (fun _ _ h => .inl h))).trans hf35.D).trans (hf6.mono (fun _ _ h => .inr h))
    have hr' : RC1 es N lo (i + 1) h6 (some h2.next) (some h5.next) (lvs ++ [lv]) (qs ++ [h3.next]) := {
      l1 := by simp [hr.l1]
      l2 := by simp [hr.l2]
      lst := fun a ha => by
        by_cases e : a = i
        · subst e
          refine ⟨lv, by rw [List.getElem?_append_right (by rw [hr.l1]; omega), hr.l1]; simp, ?_, ?_⟩
          · exact (hgl.row (by omega)).frD hf16 (fun b o n c e hd => by
              have := hov _ (hgl.block e)
              rcases hd with hd | hd
              · have := hd1 _ hd; omega
              · have := hd2 _ hd; omega)
          · intro b o n c e
            have hb1 := hov _ (hgl.block e)
            have hb2 := (hgl.row (by omega)).lt e
            refine ⟨fun hd => ?_, ?_, ?_⟩
            · rcases List.mem_append.1 hd with hd | hd
              · have := (hr.ql b hd).2.1; omega
              · rw [List.mem_singleton] at hd; omega
            · intro e2; cases e2; omega
            · intro e2; cases e2; omega
        · obtain ⟨lv', q1, q2, q3⟩ := hr.lst a (by omega)
          refine ⟨lv', by rw [List.getElem?_append_left (by rw [hr.l1]; omega)]; exact q1, ?_, ?_⟩
          · exact q2.frD hfD (fun b o n c e hd => by
              rcases hd with hd | hd
              · exact (q3 b o n c e).2.1 hd
              · exact (q3 b o n c e).2.2 hd)
          · intro b o n c e
            have hb2 := q2.lt e
            refine ⟨fun hd => ?_, ?_, ?_⟩
            · rcases List.mem_append.1 hd with hd | hd
              · exact (q3 b o n c e).1 hd
              · rw [List.mem_singleton] at hd; omega
            · intro e2; cases e2; omega
            · intro e2; cases e2; omega
      nd := by
        rw [List.nodup_append]
        refine ⟨hr.nd, by simp, fun a ha b hb => ?_⟩
        rw [List.mem_singleton] at hb
        have := (hr.ql a ha).2.1
        omega
      ql := fun q hq => by
        rcases List.mem_append.1 hq with hq | hq
        · have := hr.ql q hq
          exact ⟨this.1, by omega, by intro e; cases e; omega, by intro e; cases e; omega⟩
        · rw [List.mem_singleton] at hq; subst hq
          exact ⟨by omega, by omega, by intro e; have := Option.some.inj e; omega, by intro e; have := Option.some.inj e; omega⟩
      mat := fun q hq => by
        rcases List.mem_append.1 hq with hq | hq
        · have := hr.ql q hq
          rw [hfD.get q this.2.1 (fun hd => hd.elim this.2.2.1 this.2.2.2)]
          exact hr.mat q hq
        · rw [List.mem_singleton] at hq; subst hq
          rw [hf6.get _ (by omega) (fun hd => by have := hd2 _ hd; omega), eh5, zbK (by omega), eh4]; simp
      ne := fun q e1 e2 => by have := Option.some.inj e1; have := Option.some.inj e2; omega
      o1 := fun q e => by cases e; omega
      o2 := fun q e => by cases e; omega }
    have := ih (i + 1) h6 tl' tr' (lvs ++ [lv]) (qs ++ [h3.next]) (some h2.next) (some h5.next) (by omega) (hf.transD hfD (fun j hj hd => by
        rcases hd with hd | hd
        · have := hd1 _ hd; omega
        · have := hd2 _ hd; omega)) (by
        rw [List.map_append]
        exact hg3.frD hf36 (fun b e hd => by cases e; have := hd2 _ hd; omega)) (by rw [List.map_append]; exact hg6) hr'
    have gpg3 : h3.get pg = some (.cells (gL (N : Int) lb sl) 0) := (hfa.get _ (by omega) (fun hd => by have := hd1 _ hd; omega)).trans gpg
    rw [s_c_1]
    refine OkV.eq (this.lp (l_c_1 F _ _ _ _ _)) ?_
    simp (disch := first | omega | (simp only [zb, za]; done) | (simp only [zb, za]; omega)) [gpg, hiN, hv.one, hv.len, hv.clean, hv.take, hv.eqc, es1, zr, zk, hcl, gpg3, ← eh2, ea, hmk, ← eh4, ← eh5, eb, zx]
structure RndA (es : List Ed) (N k lo : Nat) (h : H) (tl tr : Value) (lvs : List Value) (qs : List Nat) : Prop where
  r3 : RC3 es N lo h tl tr lvs qs (RZ es N k)
  fin : fnd (rN es N k) es ((k : Int) + 1) N = []
theorem Rounds_ok (es : List Ed) (hsz : es.length ≤ 1000) (N : Nat) (hN : N ≤ 200) (hin : inB (N : Int) es) (lb : Int) (sl : Value) (h : H) (hrow : Row h 3 sl (es.map edL)) :
    Ret F (fnV n_c) [gV (N : Int) lb sl] h fun v h' => ∃ k tl lvs qs, Fr h h' ∧ RndA es N k h.next h' tl v lvs qs := by
  refine Ret.fn F_c 1 (by decide) ?_
  obtain ⟨P, hPd⟩ : ∃ P : Value → H → Prop, P = fun v h' => ∃ k tl lvs qs, Fr h h' ∧ RndA es N k h.next h' tl v lvs qs := ⟨_, rfl⟩
  rw [← hPd]
  rw [s_c]
  have hv := hrow.slvM
  obtain ⟨h2, eh2⟩ : ∃ h2, h2 = h.new (.cells (gL (N : Int) lb sl) 0) := ⟨_, rfl⟩
  have hf2 : Fr h h2 := by rw [eh2]; exact .new _ _
  have hn2 : h2.next = h.next + 1 := by rw [eh2]; simp
  have g2 : h2.get h.next = some (.cells (gL (N : Int) lb sl) 0) := by rw [eh2]; simp
  have hNN : N * N ≤ 200 * 200 := Nat.mul_le_mul hN hN
  have := rnd1 es hsz N hN h2.next h.next lb sl h2 (hrow.fr hf2) g2 (by omega) rfl (P := P) (fun h' tl tr lvs qs hf hr => by
    rw [s_c_0]
    have := rnd2 es hsz N hN hin h2.next tl tr lvs qs h.next lb sl hv h2 g2 (by omega) (by omega) (P := P) (fun h'' k q1 q2 q3 => by
      rw [hPd]
      exact ⟨k, tl, lvs, qs, hf2.trans q1, { q2 with ql := fun q hq => ⟨by have := (q2.ql q hq).1; omega, (q2.ql q hq).2⟩ }, q3⟩) (meas N (rN es N 0)) 0 h' rfl (by have := meas_le N (rN es N 0); omega) hf hr
    refine OkV.eq (this.lp (l_c_2 F _ _ _ _ _)) ?_
    simp (disch := first | omega | (simp only [zb, za]; done) | (simp only [zb, za]; omega)) []) N 0 h2 (.slice none 0 0) (.slice none 0 0) [] [] none none (by omega) (.refl _) .nil .nil
    { l1 := rfl, l2 := rfl, lst := fun a ha => by omega, nd := by simp, ql := by simp, mat := by simp, ne := by simp, o1 := by simp, o2 := by simp }
  refine OkV.eq (this.lp (l_c_1 F _ _ _ _ _)) ?_
  simp (disch := first | omega | (simp only [zb, za]; done) | (simp only [zb, za]; omega)) [hv.clean, hv.take, ← eh2]
end Go.Ideal.J
namespace Go.Ideal.J
open Go Go.Ideal
inductive Fml where | mk (op lab : Int) (kids : List Fml)
mutual
def sz : Fml → Nat
  | .mk _ _ ks => 1 + szs ks
def szs : List Fml → Nat
  | [] => 0
  | k :: ks => sz k + szs ks
end
theorem fnd_none {es : List Ed} {N k : Nat} {n : Int} {a b : Int} (h : (a, b) ∈ fnd (rN es N k) es n N ∨ (b, a) ∈ fnd (rN es N k) es n N) : rN es N k a b = none := by
  rcases h with h | h
  · obtain ⟨c, d, e, _, _, h3⟩ := zdl.1 h
    cases e
    unfold zcE at h3
    simp only [Bool.and_eq_true] at h3
    simpa using h3.1
  · obtain ⟨c, d, e, _, _, h3⟩ := zdl.1 h
    cases e
    unfold zcE at h3
    simp only [Bool.and_eq_true] at h3
    rw [zdR]
    simpa using h3.1
theorem tells_succ (es : List Ed) (N k : Nat) (j : Int) (hj : j ≤ k) (u t : Int) : zbL (rN es N (k + 1)) j u t = zbL (rN es N k) j u t := by
  unfold zbL
  congr 1
  show (match zcG (rN es N k) ((k : Int) + 1) (fnd (rN es N k) es ((k : Int) + 1) N) u t with | some k => decide (k ≤ j) | none => false) = _
  rw [zbA]
  by_cases h : (u, t) ∈ fnd (rN es N k) es ((k : Int) + 1) N ∨ (t, u) ∈ fnd (rN es N k) es ((k : Int) + 1) N
  · rw [if_pos h, fnd_none h]
    simp <;> omega
  · rw [if_neg h] <;> (cases rN es N k u t <;> rfl)
theorem tells_stable (es : List Ed) (N : Nat) {j k : Nat} (h : j ≤ k) (u t : Int) : zbL (rN es N k) j u t = zbL (rN es N j) j u t := by
  induction k with
  | zero => have : j = 0 := by omega
            subst this; rfl
  | succ k ih =>
    by_cases e : j = k + 1
    · subst e; rfl
    · rw [tells_succ es N k j (by omega), ih (by omega)]
theorem zbZ (es : List Ed) (N : Nat) {j k : Nat} (h : j ≤ k) (a b : Int) : zbl (rN es N k) es a b j = zbl (rN es N j) es a b j := by
  unfold zbl
  congr 1
  funext x
  unfold zfE
  congr 1
  funext t
  exact tells_stable es N h x.2.1 t
theorem rN_found {es : List Ed} {N : Nat} : ∀ {k : Nat} {a b v : Int}, rN es N k a b = some v → (zbl (rN es N k) es a b (v - 1)).isSome = true ∨ (zbl (rN es N k) es b a (v - 1)).isSome = true
  | 0, a, b, v, h => by cases h
  | k + 1, a, b, v, h => by
    have h0 := h
    have h : zcG (rN es N k) ((k : Int) + 1) (fnd (rN es N k) es ((k : Int) + 1) N) a b = some v := h
    rw [zbA] at h
    have key : ∀ a b : Int, (a, b) ∈ fnd (rN es N k) es ((k : Int) + 1) N → (zbl (rN es N (k + 1)) es a b k).isSome = true ∨ (zbl (rN es N (k + 1)) es b a k).isSome = true := by
      intro a b hm
      obtain ⟨c, d, e, _, _, h3⟩ := zdl.1 hm
      cases e
      unfold zcE at h3
      simp only [Bool.and_eq_true, Bool.or_eq_true] at h3
      rw [show ((k : Int) + 1 - 1) = k by omega] at h3
      rw [zbZ es N (by omega : k ≤ k + 1), zbZ es N (by omega : k ≤ k + 1)]
      exact h3.2
    split at h
    · rename_i hm
      cases h
      rw [show ((k : Int) + 1 - 1) = k by omega]
      rcases hm with hm | hm
      · exact key a b hm
      · exact (key b a hm).symm
    · have := rN_found h
      have h1 := rN_pos h
      have h2 := (zdj h).1
      obtain ⟨j, hj⟩ := Int.eq_ofNat_of_zero_le (show 0 ≤ v - 1 by omega)
      rw [hj] at this ⊢
      have hjk : j ≤ k := by omega
      rw [zbZ es N (by omega : j ≤ k + 1), zbZ es N (by omega : j ≤ k + 1)]
      rw [zbZ es N hjk, zbZ es N hjk] at this
      exact this
theorem fix_succ {es : List Ed} {N j : Nat} (h : fnd (rN es N j) es ((j : Int) + 1) N = []) : rN es N (j + 1) = rN es N j ∧ fnd (rN es N (j + 1)) es (((j + 1 : Nat) : Int) + 1) N = [] := by
  have e : rN es N (j + 1) = rN es N j := by
    show zcG (rN es N j) ((j : Int) + 1) (fnd (rN es N j) es ((j : Int) + 1) N) = _
    rw [h]; rfl
  refine ⟨e, ?_⟩
  rw [← fz_nil]
  have e2 : RZ es N (j + 1) = RZ es N j := by
    funext a b; unfold RZ; rw [e]
  rw [e2, fz_nil]; exact h
theorem rN_fix {es : List Ed} {N j : Nat} (h : fnd (rN es N j) es ((j : Int) + 1) N = []) : ∀ k, j ≤ k → rN es N k = rN es N j ∧ fnd (rN es N k) es ((k : Int) + 1) N = [] := by
  intro k hk
  induction k with
  | zero => have : j = 0 := by omega
            subst this; exact ⟨rfl, h⟩
  | succ k ih =>
    by_cases e : j = k + 1
    · subst e; exact ⟨rfl, h⟩
    · obtain ⟨h1, h2⟩ := ih (by omega)
      obtain ⟨h3, h4⟩ := fix_succ h2
      exact ⟨h3.trans h1, h4⟩
theorem rN_end {es : List Ed} {N j k : Nat} (h : fnd (rN es N j) es ((j : Int) + 1) N = []) (h' : fnd (rN es N k) es ((k : Int) + 1) N = []) : rN es N j = rN es N k := by
  rcases Nat.le_total j k with hl | hl
  · exact ((rN_fix h k hl).1).symm
  · exact (rN_fix h' j hl).1
def Ok (es : List Ed) (N k : Nat) (n : Nat) (a b : Int) : Prop := ∃ v, rN es N k a b = some v ∧ 2 * v ≤ n ∧ (zbl (rN es N k) es a b (v - 1) = none → 2 * v + 1 ≤ n)
theorem Ok.pos {es : List Ed} {N k n : Nat} {a b : Int} (h : Ok es N k n a b) : ∃ m, n = m + 1 := by
  obtain ⟨v, h1, h2, _⟩ := h
  have := rN_pos h1
  exact ⟨n - 1, by omega⟩
theorem Ok.mono {es : List Ed} {N k n m : Nat} {a b : Int} (h : Ok es N k n a b) (hm : n ≤ m) : Ok es N k m a b := by
  obtain ⟨v, h1, h2, h3⟩ := h
  exact ⟨v, h1, by omega, fun e => by have := h3 e; omega⟩
theorem Ok.can {es : List Ed} {N k n : Nat} {a b v : Int} {x : Ed} (h : Ok es N k (n + 1) a b) (hv : rN es N k a b = some v) (hx : zbl (rN es N k) es a b (v - 1) = some x) {t : Int} (ht : t ∈ tos es b x.2.2) : Ok es N k n x.2.1 t := by
  obtain ⟨v', h1, h2, h3⟩ := h
  rw [hv] at h1; cases h1
  have h4 := List.find?_some hx
  have h5 := List.all_eq_true.1 h4 t ht
  unfold zbL at h5
  cases hr : rN es N k x.2.1 t with
  | none => rw [hr] at h5; simp at h5
  | some u =>
    rw [hr] at h5
    simp at h5
    exact ⟨u, hr, by omega, fun _ => by omega⟩
theorem Ok.not {es : List Ed} {N k n : Nat} {a b v : Int} (h : Ok es N k (n + 1) a b) (hv : rN es N k a b = some v) (hx : zbl (rN es N k) es a b (v - 1) = none) : Ok es N k n b a := by
  obtain ⟨v', h1, h2, h3⟩ := h
  rw [hv] at h1; cases h1
  refine ⟨v, by rw [zdR]; exact hv, by have := h3 hx; omega, fun e => ?_⟩
  rcases rN_found hv with h | h
  · rw [hx] at h; cases h
  · rw [e] at h; cases h
end Go.Ideal.J
namespace Go.Ideal.J
open Go Go.Ideal
abbrev fmL (op lab : Int) (slv : Value) : List Value := [.int .i64 op, .int .i64 lab, slv]
mutual
def FV (B : Nat → Prop) (h : H) : Fml → List Value → Prop
  | .mk op lab ks, r => ∃ slv rows, r = fmL op lab slv ∧ Row h 3 slv rows ∧ (∀ b o n c, slv = .slice (some ⟨b, o, none⟩) n c → B b) ∧ rows.length ≤ 100000 ∧ FVs B h ks rows
def FVs (B : Nat → Prop) (h : H) : List Fml → List (List Value) → Prop
  | [], rows => rows = []
  | k :: ks, rows => ∃ r rs, rows = r :: rs ∧ FV B h k r ∧ FVs B h ks rs
end
mutual
theorem FV.mono {B C : Nat → Prop} {h : H} (hBC : ∀ b, b < h.next → B b → C b) : ∀ {f : Fml} {r : List Value}, FV B h f r → FV C h f r
  | .mk op lab ks, r, hf => by
    unfold FV at hf ⊢
    obtain ⟨slv, rows, h1, h2, h3, h4, h5⟩ := hf
    exact ⟨slv, rows, h1, h2, fun b o n c e => hBC b (h2.lt e) (h3 b o n c e), h4, FVs.mono hBC h5⟩
theorem FVs.mono {B C : Nat → Prop} {h : H} (hBC : ∀ b, b < h.next → B b → C b) : ∀ {fs : List Fml} {rs : List (List Value)}, FVs B h fs rs → FVs C h fs rs
  | [], rs, hf => by unfold FVs at hf ⊢; exact hf
  | f :: fs, rs, hf => by
    unfold FVs at hf ⊢
    obtain ⟨r, rs', h1, h2, h3⟩ := hf
    exact ⟨r, rs', h1, FV.mono hBC h2, FVs.mono hBC h3⟩
end
mutual
theorem FV.frD {B D : Nat → Prop} {h h' : H} (hf' : FrD D h h') (hBC : ∀ b, b < h.next → B b → ¬ D b) : ∀ {f : Fml} {r : List Value}, FV B h f r → FV B h' f r
  | .mk op lab ks, r, hf => by
    unfold FV at hf ⊢
    obtain ⟨slv, rows, h1, h2, h3, h4, h5⟩ := hf
    exact ⟨slv, rows, h1, h2.frD hf' (fun b o n c e => hBC b (h2.lt e) (h3 b o n c e)), h3, h4, FVs.frD hf' hBC h5⟩
theorem FVs.frD {B D : Nat → Prop} {h h' : H} (hf' : FrD D h h') (hBC : ∀ b, b < h.next → B b → ¬ D b) : ∀ {fs : List Fml} {rs : List (List Value)}, FVs B h fs rs → FVs B h' fs rs
  | [], rs, hf => by unfold FVs at hf ⊢; exact hf
  | f :: fs, rs, hf => by
    unfold FVs at hf ⊢
    obtain ⟨r, rs', h1, h2, h3⟩ := hf
    exact ⟨r, rs', h1, FV.frD hf' hBC h2, FVs.frD hf' hBC h3⟩
end
mutual
theorem FV.bnd {B : Nat → Prop} {h : H} : ∀ {f : Fml} {r : List Value}, FV B h f r → FV (fun b => B b ∧ b < h.next) h f r
  | .mk op lab ks, r, hf => by
    unfold FV at hf ⊢
    obtain ⟨slv, rows, h1, h2, h3, h4, h5⟩ := hf
    exact ⟨slv, rows, h1, h2, fun b o n c e => ⟨h3 b o n c e, h2.lt e⟩, h4, FVs.bnd h5⟩
theorem FVs.bnd {B : Nat → Prop} {h : H} : ∀ {fs : List Fml} {rs : List (List Value)}, FVs B h fs rs → FVs (fun b => B b ∧ b < h.next) h fs rs
  | [], rs, hf => by unfold FVs at hf ⊢; exact hf
  | f :: fs, rs, hf => by
    unfold FVs at hf ⊢
    obtain ⟨r, rs', h1, h2, h3⟩ := hf
    exact ⟨r, rs', h1, FV.bnd h2, FVs.bnd h3⟩
end
theorem FVs.append {B : Nat → Prop} {h : H} {g : Fml} {q : List Value} (hg : FV B h g q) : ∀ {fs : List Fml} {rs : List (List Value)}, FVs B h fs rs → FVs B h (fs ++ [g]) (rs ++ [q])
  | [], rs, hf => by
    unfold FVs at hf; subst hf
    show FVs B h [g] [q]
    unfold FVs
    exact ⟨q, [], rfl, hg, by unfold FVs; rfl⟩
  | f :: fs, rs, hf => by
    unfold FVs at hf
    obtain ⟨r, rs', rfl, h2, h3⟩ := hf
    show FVs B h (f :: (fs ++ [g])) (r :: (rs' ++ [q]))
    unfold FVs
    exact ⟨r, _, rfl, h2, FVs.append hg h3⟩
theorem FVs.len {B : Nat → Prop} {h : H} : ∀ {fs : List Fml} {rs : List (List Value)}, FVs B h fs rs → rs.length = fs.length
  | [], rs, hf => by unfold FVs at hf; rw [hf]; rfl
  | f :: fs, rs, hf => by
    unfold FVs at hf
    obtain ⟨r, rs', rfl, h2, h3⟩ := hf
    rw [List.length_cons, List.length_cons, FVs.len h3]
theorem FVs.at {B : Nat → Prop} {h : H} : ∀ {fs : List Fml} {rs : List (List Value)}, FVs B h fs rs → ∀ {i : Nat} {f : Fml}, fs[i]? = some f → ∃ r, rs[i]? = some r ∧ FV B h f r
  | [], rs, hf, i, f, hi => by simp at hi
  | g :: fs, rs, hf, i, f, hi => by
    unfold FVs at hf
    obtain ⟨r, rs', rfl, h2, h3⟩ := hf
    cases i with
    | zero => simp at hi; subst hi; exact ⟨r, rfl, h2⟩
    | succ i => exact FVs.at h3 (by simpa using hi)
theorem FV.cells {B : Nat → Prop} {h : H} {f : Fml} {r : List Value} (hf : FV B h f r) : ∃ op lab bs n c, r = fmL op lab (.slice bs n c) ∧ r.length = 3 ∧ r.all zR = true ∧ r.all z6 = true := by
  cases f with
  | mk op lab ks =>
    unfold FV at hf
    obtain ⟨slv, rows, rfl, h2, h3, h4, h5⟩ := hf
    obtain ⟨b, c, rfl⟩ := h2.len
    exact ⟨op, lab, b, _, c, rfl, rfl, rfl, rfl⟩
theorem FV.fr {B : Nat → Prop} {h h' : H} (hf' : Fr h h') {f : Fml} {r : List Value} (hf : FV B h f r) : FV B h' f r := FV.frD (D := fun _ => False) hf'.D (fun _ _ _ => id) hf
theorem FVs.fr {B : Nat → Prop} {h h' : H} (hf' : Fr h h') {f : List Fml} {r : List (List Value)} (hf : FVs B h f r) : FVs B h' f r := FVs.frD (D := fun _ => False) hf'.D (fun _ _ _ => id) hf
end Go.Ideal.J
namespace Go.Ideal.J
open Go Go.Ideal
end Go.Ideal.J
namespace Go.Ideal.J
open Go Go.Ideal
end Go.Ideal.J
namespace Go.Ideal.J
open Go Go.Ideal
theorem FV.one {B : Nat → Prop} {h : H} {op lab : Int} {f : Fml} {r : List Value} {b e : Nat} (hf : FV B h f r) (hg : h.get b = some (.cells r e)) (hlt : b < h.next) (hB : B b) : FV B h (.mk op lab [f]) (fmL op lab (.slice (some ⟨b, 0, none⟩) 1 1)) := by
  obtain ⟨_, _, _, _, _, _, h1, h2, _⟩ := hf.cells
  unfold FV
  refine ⟨_, [r], rfl, ?_, fun b' o n c e => by cases e; exact hB, by simp, ?_⟩
  · have := Grow.full (h := h) (sz := 3) (b := b) (e := e) (rows := [r]) hlt (by simpa using hg) (by intro x hx; rw [List.mem_singleton] at hx; subst hx; exact ⟨h1, h2⟩) (by show 1 < zm; decide)
    exact this.row (by omega)
  · unfold FVs
    exact ⟨r, [], rfl, hf, by unfold FVs; rfl⟩
end Go.Ideal.J
namespace Go.Ideal.J
open Go Go.Ideal
end Go.Ideal.J
namespace Go.Ideal.J
open Go Go.Ideal
def zF : Fml := .mk 0 0 []
theorem FV.zero (B : Nat → Prop) (h : H) : FV B h zF (fmL 0 0 (.slice none 0 0)) := by
  unfold zF FV
  exact ⟨_, [], rfl, .nil, (fun b o n c e => by cases e), by simp, by unfold FVs; rfl⟩
end Go.Ideal.J
namespace Go.Ideal.J
open Go Go.Ideal
end Go.Ideal.J
namespace Go.Ideal.J
open Go Go.Ideal
end Go.Ideal.J
namespace Go.Ideal.J
open Go Go.Ideal
end Go.Ideal.J
namespace Go.Ideal.J
open Go Go.Ideal
end Go.Ideal.J
namespace Go.Ideal.J
open Go Go.Ideal
section
variable {es fs : List Ed} {N M K : Nat}
end
end Go.Ideal.J
namespace Go.Ideal.J
open Go Go.Ideal
theorem known_ok' (h : H) : zbm F (fnV n_N) [] h = some (.bool true, h) := by
  refine zY F_N 0 (by decide) ?_
  rfl
end Go.Ideal.J
namespace Go.Ideal.J
open Go Go.Ideal
end Go.Ideal.J
namespace Go.Ideal.J
open Go Go.Ideal
end Go.Ideal.J
namespace Go.Ideal.J
open Go Go.Ideal
def two (st lb : Int) (es : List Ed) (st' lb' : Int) (fs : List Ed) : Bool := chk st lb es && chk st' lb' fs && decide (lb = lb')
end Go.Ideal.J
