/- JudgeHolds: for any graph, any formula and any state the law answers true: both say alike whether the formula holds, or that they cannot say. No condition. -/
import Derived.Test.YtanaepeilcjhcaaRows
import Derived.Test.YtanaepeilcjhcaaE
set_option linter.unusedSimpArgs false
set_option linter.unusedVariables false
set_option linter.unusedSimpArgs false
set_option linter.unusedVariables false
set_option maxRecDepth 10000
set_option maxHeartbeats 2000000
namespace Go.Ideal.J
open Go Go.Ideal
theorem rformula_ok (es : List Ed) (st lb : Int) (hlb : 1 ≤ lb) (sl : Value) (pl : Nat) (h0 : H) (hrow : Row h0 3 sl (es.map edL)) (hpl : h0.next ≤ pl) :
    ∀ (n : Nat) (f : Fml) (r : List Value) (h : H) (L : Int), FW h0 f r → Fr h0 h → pl < h.next → h.get pl = some (.cells [.int .i64 L] 0) → 0 ≤ L → L < n → L ≤ 3000 →
      ∃ h', callI F (fnV n_cabotageref22_formula) [gV st lb sl, .agg ⟨r⟩, ptr pl] h = some (.bool (fmd lb f L).1, h') ∧ FrD (fun j => j = pl) h h' ∧ h'.get pl = some (.cells [.int .i64 (fmd lb f L).2] 0) := by
  intro n
  induction n with
  | zero => intro f r h L _ _ _ _ h1 h2; omega
  | succ n ih =>
    intro f r h L hfw hf0 hpn gpl hL0 hLn hL3
    cases f with
    | mk op lab ks =>
    unfold FW at hfw
    obtain ⟨slv, rows, rfl, hkr, hks⟩ := hfw
    have hkl := FWs.len hks
    have hkv := hkr.slv
    rw [hkl] at hkv
    have hsv := hrow.slvM
    suffices hr : Ret F (fnV n_cabotageref22_formula) [gV st lb sl, .agg ⟨fmL op lab slv⟩, ptr pl] h fun v h' => v = .bool (fmd lb (.mk op lab ks) L).1 ∧ FrD (fun j => j = pl) h h' ∧ h'.get pl = some (.cells [.int .i64 (fmd lb (.mk op lab ks) L).2] 0) by
      obtain ⟨v, h', e, rfl, q1, q2⟩ := hr; exact ⟨h', e, q1, q2⟩
    obtain ⟨P, hPd⟩ : ∃ P : Value → H → Prop, P = fun v h' => v = .bool (fmd lb (.mk op lab ks) L).1 ∧ FrD (fun j => j = pl) h h' ∧ h'.get pl = some (.cells [.int .i64 (fmd lb (.mk op lab ks) L).2] 0) := ⟨_, rfl⟩
    rw [← hPd]
    refine Ret.fn F_cabotageref22_formula 3 (by decide) ?_
    rw [s_cabotageref22_formula]
    have hfn0 := hf0.next
    obtain ⟨q, eq⟩ : ∃ q, q = h.next := ⟨_, rfl⟩
    obtain ⟨h1, eh1⟩ : ∃ h1, h1 = (h.new (.cells (gL st lb sl) 0)).new (.cells (fmL op lab slv) 0) := ⟨_, rfl⟩
    have hf1 : Fr h h1 := by rw [eh1]; exact (Fr.new _ _).newR _
    have hn1 : h1.next = q + 2 := by rw [eh1, eq]; simp
    have g01 : h1.get q = some (.cells (gL st lb sl) 0) := by rw [eh1, eq]; simp (disch := omega)
    have g11 : h1.get (q + 1) = some (.cells (fmL op lab slv) 0) := by rw [eh1, eq]; simp (disch := omega)
    have gpl1 := (hf1.get _ hpn).trans gpl
    obtain ⟨h2, eh2⟩ : ∃ h2, h2 = h1.put pl (.cells [.int .i64 (L - 1)] 0) := ⟨_, rfl⟩
    have hf2 : FrD (fun j => j = pl) h1 h2 := by rw [eh2]; exact (FrD.refl (fun j => j = pl) _).put (.inr rfl) _
    have hn2 : h2.next = h1.next := by rw [eh2]; simp
    have g0 := (hf2.get _ (by omega) (by omega)).trans g01
    have g1 := (hf2.get _ (by omega) (by omega)).trans g11
    have gpl2 : h2.get pl = some (.cells [.int .i64 (L - 1)] 0) := by rw [eh2, get_put_eq rfl]
    have hfh2 : FrD (fun j => j = pl) h h2 := hf1.D.trans hf2
    by_cases cL : L - 1 < 0
    · refine OkV.eq (OkV.val (v := .bool false) (h := h2) (by
        rw [hPd]; unfold fmd; rw [if_pos cL]; exact ⟨rfl, hfh2, gpl2⟩)) ?_
      simp (disch := first | omega | (simp only [new_next, put_next]; done) | (simp only [new_next, put_next]; omega)) [↓k2_val, ↓br_true, ↓br_false, hsv.clean, hsv.take, hkv.clean, ← eq, ← eh1, vNil_eq, gpl1, i64_sub, ← eh2, gpl2, cL]
    · have bad : opOk lb op lab ks.length = false → OkV (some (Out.val (.bool false) h2)) P := fun ho => OkV.val (by
        rw [hPd]; unfold fmd; rw [if_neg cL, ho]; exact ⟨rfl, hfh2, gpl2⟩)
      -- the kids
      have kids : opOk lb op lab ks.length = true → OkV (sh (rI F) c_cabotageref22_formula_2 (K_cabotageref22_formula_2 (rI F)) (setL [p2, p3, p4, p7] [ptr pl, ptr q, ptr (q + 1), .int .i64 0]) h2) P := by
        intro ho
        have hres : fmd lb (.mk op lab ks) L = fmds lb ks (L - 1) := by
          conv => lhs; unfold fmd
          rw [if_neg cL, if_pos ho]
        have loop : ∀ (m i : Nat) (h3 : H) (L' : Int), i + m = ks.length → FrD (fun j => j = pl) h2 h3 → h3.get pl = some (.cells [.int .i64 L'] 0) → 0 ≤ L' → i + L' ≤ 3000 → L' ≤ L - 1 → fmds lb ks (L - 1) = fmds lb (ks.drop i) L' →
            OkV (sh (rI F) c_cabotageref22_formula_2 (K_cabotageref22_formula_2 (rI F)) (setL [p2, p3, p4, p7] [ptr pl, ptr q, ptr (q + 1), .int .i64 (i : Int)]) h3) P := by
          intro m
          induction m with
          | zero =>
            intro i h3 L' hi hf gp hL' hiL hLL hd
            have e : i = ks.length := by omega
            subst e
            rw [List.drop_length] at hd
            refine OkV.eq (OkV.val (v := .bool true) (h := h3) (by
              rw [hPd, hres, hd]; unfold fmds; exact ⟨rfl, hfh2.trans hf, gp⟩)) ?_
            have g13 := (hf.get _ (by omega) (by omega)).trans g1
            rw [s_cabotageref22_formula_2]
            simp (disch := first | omega | (simp only [new_next, put_next]; done) | (simp only [new_next, put_next]; omega)) [↓k2_val, ↓br_true, ↓br_false, g13, hkv.one, hkv.take, hkv.len, s_cabotageref22_formula_1]
          | succ m ihm =>
            intro i h3 L' hi hf gp hL' hiL hLL hd
            have hil : i < ks.length := by omega
            have hfn := hf.next
            have hki : ks[i]? = some ks[i] := List.getElem?_eq_getElem hil
            obtain ⟨ra, ea, fa⟩ := FWs.at hks hki
            have hdr : ks.drop i = ks[i] :: ks.drop (i + 1) := List.drop_eq_getElem_cons hil
            rw [hdr] at hd
            have hF03 : Fr h0 h3 := ⟨by omega, fun j hj => by
              rw [hf.get _ (by omega) (by omega), hfh2.get _ (by omega) (by omega)]; exact hf0.get _ hj⟩
            obtain ⟨x1, o1, cs1, u1, hv1, _, hg1, ht1⟩ := (hkr.fr hF03).index ea
            have g03 := (hf.get _ (by omega) (by omega)).trans g0
            obtain ⟨op', lab', bs', nn', cc', era⟩ := fa.cells
            have g13 := (hf.get _ (by omega) (by omega)).trans g1
            obtain ⟨h5, e5, hf5, gp5⟩ := ih ks[i] ra h3 L' fa hF03 (by omega) gp hL' (by omega) (by omega)
            have hlt := fmd_lt lb ks[i] L'
            rw [s_cabotageref22_formula_2]
            cases hc : (fmd lb ks[i] L').1 with
            | false =>
              rw [hc] at e5
              refine OkV.eq (OkV.val (v := .bool false) (h := h5) (by
                rw [hPd, hres, hd]; unfold fmds; rw [hc]
                exact ⟨rfl, (hfh2.trans hf).trans hf5, gp5⟩)) ?_
              subst era
              simp (disch := first | omega | (simp only [new_next, put_next]; done) | (simp only [new_next, put_next]; omega)) [↓k2_val, ↓br_true, ↓br_false, hil, hv1, hg1, ht1, g13, hkv.one, hkv.take, hkv.len, g03, hsv.clean, hsv.take, e5]
            | true =>
              rw [hc] at e5
              have := ihm (i + 1) h5 (fmd lb ks[i] L').2 (by omega) (hf.trans hf5) gp5 (hlt.2 hc) (by omega) (by omega) (by
                rw [hd]; conv => lhs; unfold fmds
                rw [hc]; rfl)
              refine OkV.eq (this.lp (l_cabotageref22_formula_2 F _ _ _ _ _)) ?_
              subst era
              simp (disch := first | omega | (simp only [new_next, put_next]; done) | (simp only [new_next, put_next]; omega)) [↓k2_val, ↓br_true, ↓br_false, hil, hv1, hg1, ht1, g13, hkv.one, hkv.take, hkv.len, g03, hsv.clean, hsv.take, e5, i64_add]
        exact loop ks.length 0 h2 (L - 1) (by omega) (.refl _ _) gpl2 (by omega) (by omega) (Int.le_refl _) (by rw [List.drop_zero])
      have kidsL := fun ho => (kids ho).lp (l_cabotageref22_formula_2 F _ _ _ _ _)
      have cn : ∀ m : Nat, ((ks.length : Int) = (m : Int)) ↔ ks.length = m := fun m => by omega
      by_cases ho : opOk lb op lab ks.length = true
      · have hkk := kidsL ho
        have hob := ho
        unfold opOk at ho
        simp only [Bool.or_eq_true, Bool.and_eq_true, decide_eq_true_eq] at ho
        rcases ho with ((⟨⟨rfl, hn⟩, rfl⟩ | ⟨⟨rfl, hn⟩, rfl⟩) | ⟨rfl, rfl⟩) | ⟨⟨⟨rfl, hn⟩, hl1⟩, hl2⟩
        · have hkn : ks = [] := List.length_eq_zero_iff.1 hn
          refine OkV.eq (OkV.val (v := .bool true) (h := h2) (by
            rw [hPd]; unfold fmd; rw [if_neg cL, if_pos hob, hkn]; unfold fmds; exact ⟨rfl, hfh2, gpl2⟩)) ?_
          simp (disch := first | omega | (simp only [new_next, put_next]; done) | (simp only [new_next, put_next]; omega)) [↓k2_val, ↓br_true, ↓br_false, hsv.clean, hsv.take, hkv.clean, hkv.one, hkv.take, hkv.len, ← eq, ← eh1, vNil_eq, gpl1, i64_sub, ← eh2, gpl2, cL, g0, g1, s_cabotageref22_formula_0, hn, hlb]
        · refine OkV.eq hkk ?_
          simp (disch := first | omega | (simp only [new_next, put_next]; done) | (simp only [new_next, put_next]; omega)) [↓k2_val, ↓br_true, ↓br_false, hsv.clean, hsv.take, hkv.clean, hkv.one, hkv.take, hkv.len, ← eq, ← eh1, vNil_eq, gpl1, i64_sub, ← eh2, gpl2, cL, g0, g1, s_cabotageref22_formula_0, hn, hlb]
        · refine OkV.eq hkk ?_
          simp (disch := first | omega | (simp only [new_next, put_next]; done) | (simp only [new_next, put_next]; omega)) [↓k2_val, ↓br_true, ↓br_false, hsv.clean, hsv.take, hkv.clean, hkv.one, hkv.take, hkv.len, ← eq, ← eh1, vNil_eq, gpl1, i64_sub, ← eh2, gpl2, cL, g0, g1, s_cabotageref22_formula_0, hlb]
        · refine OkV.eq hkk ?_
          by_cases hl0 : lab = 0
          · subst hl0
            simp (disch := first | omega | (simp only [new_next, put_next]; done) | (simp only [new_next, put_next]; omega)) [↓k2_val, ↓br_true, ↓br_false, hsv.clean, hsv.take, hkv.clean, hkv.one, hkv.take, hkv.len, ← eq, ← eh1, vNil_eq, gpl1, i64_sub, ← eh2, gpl2, cL, g0, g1, s_cabotageref22_formula_0, hn, hl2]
          · simp (disch := first | omega | (simp only [new_next, put_next]; done) | (simp only [new_next, put_next]; omega)) [↓k2_val, ↓br_true, ↓br_false, hsv.clean, hsv.take, hkv.clean, hkv.one, hkv.take, hkv.len, ← eq, ← eh1, vNil_eq, gpl1, i64_sub, ← eh2, gpl2, cL, g0, g1, s_cabotageref22_formula_0, hn, hl1, hl2, hl0]
      · have hb := bad (by rw [Bool.eq_false_iff]; exact ho)
        refine OkV.eq hb ?_
        by_cases c1 : op = 1
        · subst c1
          by_cases hn : ks.length = 0
          · have hl : ¬ lab = 0 := fun e => ho (by simp [opOk, hn, e])
            simp (disch := first | omega | (simp only [new_next, put_next]; done) | (simp only [new_next, put_next]; omega)) [↓k2_val, ↓br_true, ↓br_false, hsv.clean, hsv.take, hkv.clean, hkv.one, hkv.take, hkv.len, ← eq, ← eh1, vNil_eq, gpl1, i64_sub, ← eh2, gpl2, cL, g0, g1, s_cabotageref22_formula_0, hn, hl]
          · have hn' : ¬ ((ks.length : Nat) : Int) = 0 := by omega
            simp (disch := first | omega | (simp only [new_next, put_next]; done) | (simp only [new_next, put_next]; omega)) [↓k2_val, ↓br_true, ↓br_false, hsv.clean, hsv.take, hkv.clean, hkv.one, hkv.take, hkv.len, ← eq, ← eh1, vNil_eq, gpl1, i64_sub, ← eh2, gpl2, cL, g0, g1, s_cabotageref22_formula_0, hn, hn']
        · by_cases c2 : op = 2
          · subst c2
            by_cases hn : ks.length = 1
            · have hl : ¬ lab = 0 := fun e => ho (by simp [opOk, hn, e])
              simp (disch := first | omega | (simp only [new_next, put_next]; done) | (simp only [new_next, put_next]; omega)) [↓k2_val, ↓br_true, ↓br_false, hsv.clean, hsv.take, hkv.clean, hkv.one, hkv.take, hkv.len, ← eq, ← eh1, vNil_eq, gpl1, i64_sub, ← eh2, gpl2, cL, g0, g1, s_cabotageref22_formula_0, hn, hl]
            · have hn' : ¬ ((ks.length : Nat) : Int) = 1 := by omega
              simp (disch := first | omega | (simp only [new_next, put_next]; done) | (simp only [new_next, put_next]; omega)) [↓k2_val, ↓br_true, ↓br_false, hsv.clean, hsv.take, hkv.clean, hkv.one, hkv.take, hkv.len, ← eq, ← eh1, vNil_eq, gpl1, i64_sub, ← eh2, gpl2, cL, g0, g1, s_cabotageref22_formula_0, hn, hn']
          · by_cases c4 : op = 4
            · subst c4
              by_cases hn : ks.length = 1
              · by_cases hl1 : lab < 0
                · have hl0 : ¬ lab = 0 := by omega
                  simp (disch := first | omega | (simp only [new_next, put_next]; done) | (simp only [new_next, put_next]; omega)) [↓k2_val, ↓br_true, ↓br_false, hsv.clean, hsv.take, hkv.clean, hkv.one, hkv.take, hkv.len, ← eq, ← eh1, vNil_eq, gpl1, i64_sub, ← eh2, gpl2, cL, g0, g1, s_cabotageref22_formula_0, hn, hl1, hl0]
                · have hl2 : lb ≤ lab := by
                    by_cases h : lab < lb
                    · exact absurd (by simp [opOk, hn, h]; omega) ho
                    · omega
                  have hl0 : ¬ lab = 0 := by omega
                  simp (disch := first | omega | (simp only [new_next, put_next]; done) | (simp only [new_next, put_next]; omega)) [↓k2_val, ↓br_true, ↓br_false, hsv.clean, hsv.take, hkv.clean, hkv.one, hkv.take, hkv.len, ← eq, ← eh1, vNil_eq, gpl1, i64_sub, ← eh2, gpl2, cL, g0, g1, s_cabotageref22_formula_0, hn, hl1, hl2, hl0]
              · have hn' : ¬ ((ks.length : Nat) : Int) = 1 := by omega
                simp (disch := first | omega | (simp only [new_next, put_next]; done) | (simp only [new_next, put_next]; omega)) [↓k2_val, ↓br_true, ↓br_false, hsv.clean, hsv.take, hkv.clean, hkv.one, hkv.take, hkv.len, ← eq, ← eh1, vNil_eq, gpl1, i64_sub, ← eh2, gpl2, cL, g0, g1, s_cabotageref22_formula_0, hn, hn']
            · by_cases c3 : op = 3
              · subst c3
                have hl : ¬ lab = 0 := fun e => ho (by simp [opOk, e])
                simp (disch := first | omega | (simp only [new_next, put_next]; done) | (simp only [new_next, put_next]; omega)) [↓k2_val, ↓br_true, ↓br_false, hsv.clean, hsv.take, hkv.clean, hkv.one, hkv.take, hkv.len, ← eq, ← eh1, vNil_eq, gpl1, i64_sub, ← eh2, gpl2, cL, g0, g1, s_cabotageref22_formula_0, hl]
              · simp (disch := first | omega | (simp only [new_next, put_next]; done) | (simp only [new_next, put_next]; omega)) [↓k2_val, ↓br_true, ↓br_false, hsv.clean, hsv.take, hkv.clean, hkv.one, hkv.take, hkv.len, ← eq, ← eh1, vNil_eq, gpl1, i64_sub, ← eh2, gpl2, cL, g0, g1, s_cabotageref22_formula_0, c1, c2, c3, c4]
end Go.Ideal.J
set_option linter.unusedSimpArgs false
set_option linter.unusedVariables false
set_option maxRecDepth 10000
set_option maxHeartbeats 2000000
namespace Go.Ideal.J
open Go Go.Ideal
theorem rh2 (q N : Nat) (h : H) {P : Value → H → Prop} (hP : P (slF q N) h) : OkV (sh (rI F) c_cabotageref22_holdsIn_2 (K_cabotageref22_holdsIn_2 (rI F)) (setL [p5] [slF q N]) h) P := by
  refine OkV.eq (OkV.val hP) ?_
  rw [s_cabotageref22_holdsIn_2]
  simp (disch := first | omega | (simp only [new_next, put_next]; done) | (simp only [new_next, put_next]; omega)) [↓k2_val, ↓br_true, ↓br_false]
theorem rh1 (N : Nat) (hN : N ≤ 1000) (qo pf pg : Nat) (h0 : H) {P : Value → H → Prop}
    (hP : ∀ h', FrD (fun j => j = qo) h0 h' → Tru h' qo N (fun _ => true) → OkV (sh (rI F) c_cabotageref22_holdsIn_0 (K_cabotageref22_holdsIn_0 (rI F)) (setL [p2, p3, p5] [ptr pg, ptr pf, slF qo N]) h') P) :
    ∀ (m i : Nat) (h : H) (t : Int → Bool), i + m = N → FrD (fun j => j = qo) h0 h → Tru h qo N t → (∀ s : Nat, s < i → t s = true) →
    OkV (sh (rI F) c_cabotageref22_holdsIn_1 (K_cabotageref22_holdsIn_1 (rI F)) (setL [p2, p3, p5, p6] [ptr pg, ptr pf, slF qo N, .int .i64 (i : Int)]) h) P := by
  intro m
  induction m with
  | zero =>
    intro i h t hi hf ht hs
    have e : i = N := by omega
    subst e
    rw [s_cabotageref22_holdsIn_1]
    refine OkV.eq (hP h hf (ht.congr hs)) ?_
    simp (disch := first | omega | (simp only [new_next, put_next]; done) | (simp only [new_next, put_next]; omega)) [↓k2_val, ↓br_true, ↓br_false, slF_len]
  | succ m ih =>
    intro i h t hi hf ht hs
    have hiN : i < N := by omega
    obtain ⟨bo, o1, o2, o3, o4, o5⟩ := ht.set hiN true
    have := ih (i + 1) _ _ (by omega) (hf.put (.inr rfl) _) o5 (fun s hs' => by
      by_cases e : s = i
      · subst e; simp
      · rw [if_neg (by omega)]; exact hs s (by omega))
    rw [s_cabotageref22_holdsIn_1]
    refine OkV.eq (this.lp (l_cabotageref22_holdsIn_1 F _ _ _ _ _)) ?_
    simp (disch := first | omega | (simp only [new_next, put_next]; done) | (simp only [new_next, put_next]; omega)) [↓k2_val, ↓br_true, ↓br_false, slF_len, hiN, o1, o4, i64_add]
/-- what one kid does to a row. -/
def kidT (op : Int) (t u : Bool) : Bool := if op = 2 then !u else if op = 3 then t && u else false
theorem rh6 (op lab : Int) (hop : op = 2 ∨ op = 3 ∨ op = 4) (kv : Value) (N : Nat) (hN : N ≤ 1000) (qo qk pf : Nat) (hne : qo ≠ qk) (hpf : pf ≠ qo) (u t0 : Int → Bool) (t2 t7 : Value) (h0 : H) (hk : Tru h0 qk N u) (gf : h0.get pf = some (.cells (fmL op lab kv) 0)) (hpl : pf < h0.next) {P : Value → H → Prop}
    (hP : ∀ h', FrD (fun j => j = qo) h0 h' → Tru h' qo N (fun s => kidT op (t0 s) (u s)) → OkV (sh (rI F) c_cabotageref22_holdsIn_5 (K_cabotageref22_holdsIn_5 (rI F)) (setL [p2, p3, p5, p7, p8] [t2, ptr pf, slF qo N, t7, slF qk N]) h') P) :
    ∀ (m i : Nat) (h : H) (t : Int → Bool), i + m = N → FrD (fun j => j = qo) h0 h → Tru h qo N t → (∀ s : Nat, s < i → t s = kidT op (t0 s) (u s)) → (∀ s : Nat, i ≤ s → t s = t0 s) →
    OkV (sh (rI F) c_cabotageref22_holdsIn_6 (K_cabotageref22_holdsIn_6 (rI F)) (setL [p2, p3, p5, p7, p8, p9] [t2, ptr pf, slF qo N, t7, slF qk N, .int .i64 (i : Int)]) h) P := by
  intro m
  induction m with
  | zero =>
    intro i h t hi hf ht hs hs2
    have e : i = N := by omega
    subst e
    rw [s_cabotageref22_holdsIn_6]
    refine OkV.eq (hP h hf (ht.congr hs)) ?_
    simp (disch := first | omega | (simp only [new_next, put_next]; done) | (simp only [new_next, put_next]; omega)) [↓k2_val, ↓br_true, ↓br_false, slF_len]
  | succ m ih =>
    intro i h t hi hf ht hs hs2
    have hiN : i < N := by omega
    have gf1 := (hf.get _ hpl hpf).trans gf
    obtain ⟨bk, k1, k2, k3⟩ := (hk.frD hf (fun e => hne e.symm)).ex
    have k4 : takeC 1 (dropN i (boolsL bk)) = some [.bool (u i)] := takeC_at (by unfold boolsL; rw [List.getElem?_map, k3 i hiN]; rfl) rfl
    obtain ⟨bo, o1, o2, o3, o4, o5⟩ := ht.set hiN (kidT op (t0 i) (u i))
    have := ih (i + 1) _ _ (by omega) (hf.put (.inr rfl) _) o5 (fun s hs' => by
      by_cases e : s = i
      · subst e; simp
      · rw [if_neg (by omega)]; exact hs s (by omega)) (fun s hs' => by rw [if_neg (by omega)]; exact hs2 s (by omega))
    have hti := hs2 i (Nat.le_refl _)
    rw [hti] at o3
    rw [s_cabotageref22_holdsIn_6]
    refine OkV.eq (this.lp (l_cabotageref22_holdsIn_6 F _ _ _ _ _ _ _)) ?_
    rcases hop with rfl | rfl | rfl
    · have ek : kidT 2 (t0 i) (u i) = !u i := rfl
      rw [ek] at o4 ⊢
      simp (disch := first | omega | (simp only [new_next, put_next]; done) | (simp only [new_next, put_next]; omega)) [↓k2_val, ↓br_true, ↓br_false, slF_len, hiN, gf1, k1, k4, o1, o4, i64_add, s_cabotageref22_holdsIn_7]
    · have ek : kidT 3 (t0 i) (u i) = (t0 i && u i) := rfl
      rw [ek] at o4 ⊢
      cases hc : t0 i with
      | true => rw [hc] at o3; rw [hc, Bool.true_and] at o4; simp (disch := first | omega | (simp only [new_next, put_next]; done) | (simp only [new_next, put_next]; omega)) [↓k2_val, ↓br_true, ↓br_false, slF_len, hiN, gf1, k1, k4, o1, o3, o4, i64_add, hc, s_cabotageref22_holdsIn_7]
      | false => rw [hc] at o3; rw [hc, Bool.false_and] at o4; simp (disch := first | omega | (simp only [new_next, put_next]; done) | (simp only [new_next, put_next]; omega)) [↓k2_val, ↓br_true, ↓br_false, slF_len, hiN, gf1, k1, k4, o1, o3, o4, i64_add, hc, s_cabotageref22_holdsIn_7]
    · have ek : kidT 4 (t0 i) (u i) = false := rfl
      rw [ek] at o4 ⊢
      simp (disch := first | omega | (simp only [new_next, put_next]; done) | (simp only [new_next, put_next]; omega)) [↓k2_val, ↓br_true, ↓br_false, slF_len, hiN, gf1, o1, o4, i64_add, s_cabotageref22_holdsIn_7]
end Go.Ideal.J
set_option linter.unusedSimpArgs false
set_option linter.unusedVariables false
set_option maxRecDepth 10000
set_option maxHeartbeats 2000000
namespace Go.Ideal.J
open Go Go.Ideal
theorem rh5n (es : List Ed) (st lb : Int) (sl : Value) (hsv : SlV sl es.length) (op lab : Int) (hop : ¬ op = 4) (kv t7 : Value) (N qo qk pf pg : Nat) (h : H) (gf : h.get pf = some (.cells (fmL op lab kv) 0)) (gg : h.get pg = some (.cells (gL st lb sl) 0)) {P : Value → H → Prop}
    (hP : OkV (sh (rI F) c_cabotageref22_holdsIn_4 (K_cabotageref22_holdsIn_4 (rI F)) (setL [p2, p3, p5, p7] [ptr pg, ptr pf, slF qo N, t7]) h) P) :
    OkV (sh (rI F) c_cabotageref22_holdsIn_5 (K_cabotageref22_holdsIn_5 (rI F)) (setL [p2, p3, p5, p7, p8] [ptr pg, ptr pf, slF qo N, t7, slF qk N]) h) P := by
  have : OkV (sh (rI F) c_cabotageref22_holdsIn_8 (K_cabotageref22_holdsIn_8 (rI F)) (setL [p2, p3, p5, p7, p8, p10] [ptr pg, ptr pf, slF qo N, t7, slF qk N, .int .i64 0]) h) P := by
    rw [s_cabotageref22_holdsIn_8]
    refine OkV.eq hP ?_
    by_cases c : es.length = 0
    · simp (disch := first | omega | (simp only [new_next, put_next]; done) | (simp only [new_next, put_next]; omega)) [↓k2_val, ↓br_true, ↓br_false, gg, hsv.one, hsv.len, hsv.take, c]
    · have c' : 0 < es.length := by omega
      simp (disch := first | omega | (simp only [new_next, put_next]; done) | (simp only [new_next, put_next]; omega)) [↓k2_val, ↓br_true, ↓br_false, gg, hsv.one, hsv.len, hsv.take, c', gf, hop]
  rw [s_cabotageref22_holdsIn_5]
  refine OkV.eq (this.lp (l_cabotageref22_holdsIn_8 F _ _ _ _ _ _ _)) ?_
  simp (disch := first | omega | (simp only [new_next, put_next]; done) | (simp only [new_next, put_next]; omega)) [↓k2_val, ↓br_true, ↓br_false]
theorem rh8 (es : List Ed) (hsz : es.length ≤ 1000) (st lb : Int) (sl : Value) (lab : Int) (kv t7 : Value) (N : Nat) (hN : N ≤ 1000) (hin : inB (N : Int) es) (qo qk pf pg : Nat) (hne : qo ≠ qk) (hpf : pf ≠ qo) (hpg : pg ≠ qo) (u : Int → Bool) (h0 : H) (hk : Tru h0 qk N u) (hrow : Row h0 3 sl (es.map edL)) (hsl : ∀ b o n c, sl = .slice (some ⟨b, o, none⟩) n c → b ≠ qo) (gf : h0.get pf = some (.cells (fmL 4 lab kv) 0)) (hpl : pf < h0.next) (gg : h0.get pg = some (.cells (gL st lb sl) 0)) (hpgl : pg < h0.next) {P : Value → H → Prop}
    (hP : ∀ h', FrD (fun j => j = qo) h0 h' → Tru h' qo N (canT es lab u) → OkV (sh (rI F) c_cabotageref22_holdsIn_4 (K_cabotageref22_holdsIn_4 (rI F)) (setL [p2, p3, p5, p7] [ptr pg, ptr pf, slF qo N, t7]) h') P) :
    ∀ (m i : Nat) (h : H) (t : Int → Bool), i + m = es.length → FrD (fun j => j = qo) h0 h → Tru h qo N t → (∀ s : Nat, s < N → t s = canT (es.take i) lab u s) →
    OkV (sh (rI F) c_cabotageref22_holdsIn_8 (K_cabotageref22_holdsIn_8 (rI F)) (setL [p2, p3, p5, p7, p8, p10] [ptr pg, ptr pf, slF qo N, t7, slF qk N, .int .i64 (i : Int)]) h) P := by
  intro m
  have hsv := hrow.slvM
  induction m with
  | zero =>
    intro i h t hi hf ht hs
    have e : i = es.length := by omega
    subst e
    rw [List.take_length] at hs
    have gg1 := (hf.get _ hpgl hpg).trans gg
    rw [s_cabotageref22_holdsIn_8]
    refine OkV.eq (hP h hf (ht.congr hs)) ?_
    simp (disch := first | omega | (simp only [new_next, put_next]; done) | (simp only [new_next, put_next]; omega)) [↓k2_val, ↓br_true, ↓br_false, gg1, hsv.one, hsv.len, hsv.take]
  | succ m ih =>
    intro i h t hi hf ht hs
    have hil : i < es.length := by omega
    have hfn := hf.next
    have gg1 := (hf.get _ hpgl hpg).trans gg
    have gf0 := (hf.get _ hpl hpf).trans gf
    have htk : es.take (i + 1) = es.take i ++ [es[i]] := by rw [List.take_add_one, List.getElem?_eq_getElem hil]; rfl
    have hxin := hin _ (List.getElem_mem hil)
    obtain ⟨b1, o1, cs1, e1, hv1, hb1, hg1, ht1⟩ := (hrow.frD hf hsl).index (i := i) (r := edL es[i]) (by simp [hil])
    generalize es[i] = x at *
    obtain ⟨x1, x2, x3⟩ := x
    obtain ⟨a, ha⟩ := Int.eq_ofNat_of_zero_le hxin.1
    obtain ⟨b, hb⟩ := Int.eq_ofNat_of_zero_le hxin.2.2.1
    simp only at ha hb hxin
    subst ha; subst hb
    have haN : a < N := by omega
    have hbN : b < N := by omega
    obtain ⟨h1, eh1⟩ : ∃ h1, h1 = h.new (.cells (edL ((a : Int), (b : Int), x3)) 0) := ⟨_, rfl⟩
    have hf1 : Fr h h1 := by rw [eh1]; exact .new _ _
    have hn1 : h1.next = h.next + 1 := by rw [eh1]; simp
    have gx : h1.get h.next = some (.cells (edL ((a : Int), (b : Int), x3)) 0) := by rw [eh1]; simp
    have gf1 := (hf1.get _ (by omega)).trans gf0
    obtain ⟨bk, k1, k2, k3⟩ := ((hk.frD hf (fun e => hne e.symm)).fr hf1).ex
    have k4 : takeC 1 (dropN b (boolsL bk)) = some [.bool (u b)] := takeC_at (by unfold boolsL; rw [List.getElem?_map, k3 b hbN]; rfl) rfl
    have hstep : ∀ s : Nat, s < N → canT (es.take (i + 1)) lab u s = (canT (es.take i) lab u s || (decide ((a : Int) = s) && (decide (x3 = lab) && u b))) := fun s hs' => by
      unfold canT
      rw [htk, List.any_append]
      simp
    rw [s_cabotageref22_holdsIn_8]
    have skip : (decide (x3 = lab) && u b) = false → OkV (sh (rI F) c_cabotageref22_holdsIn_9 (K_cabotageref22_holdsIn_9 (rI F)) (setL [p2, p3, p5, p7, p8, p10] [ptr pg, ptr pf, slF qo N, t7, slF qk N, .int .i64 (i : Int)]) h1) P := fun hc => by
      have := ih (i + 1) h1 t (by omega) (hf.trans hf1.D) (ht.fr hf1) (fun s hs' => by rw [hstep s hs', hs s hs', hc]; simp)
      rw [s_cabotageref22_holdsIn_9]
      refine OkV.eq (this.lp (l_cabotageref22_holdsIn_8 F _ _ _ _ _ _ _)) ?_
      simp (disch := first | omega | (simp only [new_next, put_next]; done) | (simp only [new_next, put_next]; omega)) [↓k2_val, ↓br_true, ↓br_false, i64_add]
    by_cases c : x3 = lab
    · subst c
      cases hu : u b with
      | false =>
        refine OkV.eq (skip (by rw [hu]; simp)) ?_
        rw [hu] at k4
        simp (disch := first | omega | (simp only [new_next, put_next]; done) | (simp only [new_next, put_next]; omega)) [↓k2_val, ↓br_true, ↓br_false, gg1, hsv.one, hsv.len, hsv.take, hil, gf0, hv1, hg1, ht1, ← eh1, gx, gf1, hbN, k1, k4]
      | true =>
        obtain ⟨bo, q1, q2, q3, q4, q5⟩ := (ht.fr hf1).set haN true
        have := ih (i + 1) _ _ (by omega) ((hf.trans hf1.D).put (.inr rfl) _) q5 (fun s hs' => by
          rw [hstep s hs', hu]
          by_cases e : s = a
          · subst e; simp
          · rw [if_neg (by omega), hs s hs']
            have : ¬ ((a : Int) = (s : Int)) := by omega
            simp [this])
        refine OkV.eq (this.lp (l_cabotageref22_holdsIn_8 F _ _ _ _ _ _ _)) ?_
        rw [hu] at k4
        simp (disch := first | omega | (simp only [new_next, put_next]; done) | (simp only [new_next, put_next]; omega)) [↓k2_val, ↓br_true, ↓br_false, gg1, hsv.one, hsv.len, hsv.take, hil, gf0, hv1, hg1, ht1, ← eh1, gx, gf1, hbN, haN, k1, k4, q1, q4, s_cabotageref22_holdsIn_9, i64_add]
    · refine OkV.eq (skip (by simp [c])) ?_
      simp (disch := first | omega | (simp only [new_next, put_next]; done) | (simp only [new_next, put_next]; omega)) [↓k2_val, ↓br_true, ↓br_false, gg1, hsv.one, hsv.len, hsv.take, hil, gf0, hv1, hg1, ht1, ← eh1, gx, gf1, c]
end Go.Ideal.J
set_option linter.unusedSimpArgs false
set_option linter.unusedVariables false
set_option maxRecDepth 10000
set_option maxHeartbeats 2000000
namespace Go.Ideal.J
open Go Go.Ideal
def stepT (es : List Ed) (op lab : Int) (t u : Int → Bool) : Int → Bool := if op = 4 then canT es lab u else fun s => kidT op (t s) (u s)
def foldT (es : List Ed) (op lab : Int) (ks : List Fml) : Int → Bool := ks.foldl (fun t k => stepT es op lab t (hv es k)) (fun _ => true)
theorem foldT_take (es : List Ed) (op lab : Int) (ks : List Fml) (i : Nat) {k : Fml} (hk : ks[i]? = some k) : foldT es op lab (ks.take (i + 1)) = stepT es op lab (foldT es op lab (ks.take i)) (hv es k) := by
  unfold foldT
  rw [List.take_add_one, hk, List.foldl_append]; rfl
theorem foldT_all (es : List Ed) (lab : Int) (ks : List Fml) (s : Int) : foldT es 3 lab ks s = hva es ks s := by
  have key : ∀ (ks : List Fml) (t : Int → Bool), ks.foldl (fun t k => stepT es 3 lab t (hv es k)) t s = (t s && hva es ks s) := by
    intro ks
    induction ks with
    | nil => intro t; simp [hva]
    | cons k ks ih =>
      intro t
      rw [List.foldl_cons, ih]
      simp [stepT, kidT, hva, Bool.and_assoc]
  unfold foldT
  rw [key]; simp
theorem foldT_hv (es : List Ed) (lb op lab : Int) (ks : List Fml) (ho : opOk lb op lab ks.length = true) (s : Int) : foldT es op lab ks s = hv es (.mk op lab ks) s := by
  unfold opOk at ho
  simp only [Bool.or_eq_true, Bool.and_eq_true, decide_eq_true_eq] at ho
  rcases ho with ((⟨⟨rfl, hn⟩, rfl⟩ | ⟨⟨rfl, hn⟩, rfl⟩) | ⟨rfl, rfl⟩) | ⟨⟨⟨rfl, hn⟩, hl1⟩, hl2⟩
  · obtain rfl := List.length_eq_zero_iff.1 hn
    simp [foldT, hv, hva]
  · match ks, hn with
    | [k], _ => simp [foldT, hv, hvh, stepT, kidT]
  · rw [foldT_all]; simp [hv]
  · match ks, hn with
    | [k], _ => simp [foldT, hv, hvh, stepT, canT]
def RHOK (es : List Ed) (N : Nat) (lb : Int) (sl : Value) (n : Nat) : Prop :=
  ∀ (f : Fml) (r : List Value) (h : H), sz f ≤ n → wf lb f → FW h f r → Row h 3 sl (es.map edL) → ∃ h' q, callI F (fnV n_cabotageref22_holdsIn) [gV (N : Int) lb sl, .agg ⟨r⟩] h = some (slF q N, h') ∧ Fr h h' ∧ h.next ≤ q ∧ Tru h' q N (hv es f)
theorem rholdsIn_ok (es : List Ed) (hsz : es.length ≤ 1000) (N : Nat) (hN : N ≤ 1000) (hin : inB (N : Int) es) (lb : Int) (sl : Value) : ∀ n, RHOK es N lb sl n := by
  intro n
  induction n with
  | zero => intro f r h hf; have := sz_pos f; omega
  | succ n ih =>
    intro f r h hf hwf hfw hrow
    cases f with
    | mk op lab ks =>
    obtain ⟨ho, hkw, hkl3⟩ := wf_kids hwf
    have hszk : szs ks ≤ n := by simp only [sz] at hf; omega
    unfold FW at hfw
    obtain ⟨slv, rows, rfl, hkr, hks⟩ := hfw
    have hkl := FWs.len hks
    have hkv := hkr.slv
    rw [hkl] at hkv
    have hsv := hrow.slvM
    have hkall : ∀ k ∈ ks, wf lb k ∧ sz k ≤ n := fun k hk => ⟨hkw k hk, by
      obtain ⟨i, hi⟩ := List.getElem?_of_mem hk
      have := szs_at hi; omega⟩
    have hop : 0 < ks.length → op = 2 ∨ op = 3 ∨ op = 4 := fun hp => by
      have ho := ho
      unfold opOk at ho
      simp only [Bool.or_eq_true, Bool.and_eq_true, decide_eq_true_eq] at ho
      omega
    suffices hr : Ret F (fnV n_cabotageref22_holdsIn) [gV (N : Int) lb sl, .agg ⟨fmL op lab slv⟩] h fun v h' => ∃ q, v = slF q N ∧ Fr h h' ∧ h.next ≤ q ∧ Tru h' q N (hv es (.mk op lab ks)) by
      obtain ⟨v, h', e, q, rfl, q1, q2, q3⟩ := hr; exact ⟨h', q, e, q1, q2, q3⟩
    obtain ⟨P, hPd⟩ : ∃ P : Value → H → Prop, P = fun v h' => ∃ q, v = slF q N ∧ Fr h h' ∧ h.next ≤ q ∧ Tru h' q N (hv es (.mk op lab ks)) := ⟨_, rfl⟩
    rw [← hPd]
    refine Ret.fn F_cabotageref22_holdsIn 2 (by decide) ?_
    rw [s_cabotageref22_holdsIn]
    obtain ⟨q, eq⟩ : ∃ q, q = h.next := ⟨_, rfl⟩
    obtain ⟨h1, eh1⟩ : ∃ h1, h1 = (h.new (.cells (gL (N : Int) lb sl) 0)).new (.cells (fmL op lab slv) 0) := ⟨_, rfl⟩
    have hf1 : Fr h h1 := by rw [eh1]; exact (Fr.new _ _).newR _
    have hn1 : h1.next = q + 2 := by rw [eh1, eq]; simp
    have g01 : h1.get q = some (.cells (gL (N : Int) lb sl) 0) := by rw [eh1, eq]; simp (disch := omega)
    have g11 : h1.get (q + 1) = some (.cells (fmL op lab slv) 0) := by rw [eh1, eq]; simp (disch := omega)
    have hmk := make_bools (n := N) hN h1
    rw [hn1, show boolsL (List.replicate N false) = List.replicate N (.bool false) by simp [boolsL]] at hmk
    obtain ⟨h2, eh2⟩ : ∃ h2, h2 = h1.new (.cells (List.replicate N (.bool false)) 0) := ⟨_, rfl⟩
    have hf2 : Fr h1 h2 := by rw [eh2]; exact .new _ _
    have hn2 : h2.next = q + 3 := by rw [eh2, new_next, hn1]
    have g0 := (hf2.get _ (by omega)).trans g01
    have g1 := (hf2.get _ (by omega)).trans g11
    have hT2 : Tru h2 (q + 2) N (fun _ => false) := ⟨by omega, List.replicate N false, by rw [eh2, ← hn1]; simp [boolsL], by simp, fun s hs => by rw [List.getElem?_replicate, if_pos hs]⟩
    have hF2 : Fr h h2 := hf1.trans hf2
    have done : ∀ h', FrD (fun j => j = q + 2) h2 h' → Tru h' (q + 2) N (hv es (.mk op lab ks)) → P (slF (q + 2) N) h' := fun h' r1 r2 => by
      rw [hPd]
      exact ⟨q + 2, rfl, hF2.transD r1 (fun i hi hd => by omega), by omega, r2⟩
    have loop : ∀ (m i : Nat) (h3 : H), i + m = ks.length → FrD (fun j => j = q + 2) h2 h3 → Tru h3 (q + 2) N (foldT es op lab (ks.take i)) →
        OkV (sh (rI F) c_cabotageref22_holdsIn_3 (K_cabotageref22_holdsIn_3 (rI F)) (setL [p2, p3, p5, p7] [ptr q, ptr (q + 1), slF (q + 2) N, .int .i64 (i : Int)]) h3) P := by
      intro m
      induction m with
      | zero =>
        intro i h3 hi hf3 ht
        have e : i = ks.length := by omega
        subst e
        rw [List.take_length] at ht
        have g13 := (hf3.get _ (by omega) (by omega)).trans g1
        rw [s_cabotageref22_holdsIn_3]
        refine OkV.eq (rh2 (q + 2) N h3 (done h3 hf3 (ht.congr fun s _ => foldT_hv es lb op lab ks ho s))) ?_
        simp (disch := first | omega | (simp only [new_next, put_next]; done) | (simp only [new_next, put_next]; omega)) [↓k2_val, ↓br_true, ↓br_false, g13, hkv.one, hkv.take, hkv.len]
      | succ m ihm =>
        intro i h3 hi hf3 ht
        have hil : i < ks.length := by omega
        have hfn := hf3.next
        have g03 := (hf3.get _ (by omega) (by omega)).trans g0
        have g13 := (hf3.get _ (by omega) (by omega)).trans g1
        have hki : ks[i]? = some ks[i] := List.getElem?_eq_getElem hil
        have hF3 : Fr h h3 := hF2.transD hf3 (fun j hj hd => by omega)
        obtain ⟨ra, ea, fa⟩ := FWs.at (FWs.fr hF3 hks) hki
        obtain ⟨x1, o1, cs1, u1, hv1, _, hg1, ht1⟩ := (hkr.fr hF3).index ea
        obtain ⟨op', lab', bs', nn', cc', era⟩ := fa.cells
        have hkm := hkall _ (List.getElem_mem hil)
        obtain ⟨h5, qk, e5, hf5, hqk, hT5⟩ := ih ks[i] ra h3 hkm.2 hkm.1 fa (hrow.fr hF3)
        have hfn5 := hf5.next
        have g05 := (hf5.get _ (by omega)).trans g03
        have g15 := (hf5.get _ (by omega)).trans g13
        have hft := foldT_take es op lab ks i hki
        have next : ∀ h', FrD (fun j => j = q + 2) h5 h' → Tru h' (q + 2) N (foldT es op lab (ks.take (i + 1))) → OkV (sh (rI F) c_cabotageref22_holdsIn_4 (K_cabotageref22_holdsIn_4 (rI F)) (setL [p2, p3, p5, p7] [ptr q, ptr (q + 1), slF (q + 2) N, .int .i64 (i : Int)]) h') P := fun h' r1 r2 => by
          have := ihm (i + 1) h' (by omega) ((hf3.trans hf5.D).trans r1) r2
          rw [s_cabotageref22_holdsIn_4]
          refine OkV.eq (this.lp (l_cabotageref22_holdsIn_3 F _ _ _ _ _)) ?_
          simp (disch := first | omega | (simp only [new_next, put_next]; done) | (simp only [new_next, put_next]; omega)) [↓k2_val, ↓br_true, ↓br_false, i64_add]
        have := rh6 op lab (hop (by omega)) slv N hN (q + 2) qk (q + 1) (by omega) (by omega) (hv es ks[i]) (foldT es op lab (ks.take i)) (ptr q) (.int .i64 (i : Int)) h5 hT5 g15 (by omega) (P := P) (fun h6 r1 r2 => by
          have hfn6 := r1.next
          have g06 := (r1.get _ (by omega) (by omega)).trans g05
          have g16 := (r1.get _ (by omega) (by omega)).trans g15
          by_cases c4 : op = 4
          · subst c4
            have hF6 : Fr h h6 := (hF3.trans hf5).transD r1 (fun j hj hd => by omega)
            have := rh8 es hsz (N : Int) lb sl lab slv (.int .i64 (i : Int)) N hN hin (q + 2) qk (q + 1) q (by omega) (by omega) (by omega) (hv es ks[i]) h6 (hT5.frD r1 (by omega)) (hrow.fr hF6) (fun b o n c e => by have := hrow.lt e; omega) g16 (by omega) g06 (by omega) (P := P) (fun h' s1 s2 => next h' (r1.trans s1) (by rw [hft]; exact s2)) es.length 0 h6 _ (by omega) (.refl _ _) r2 (fun s hs => by simp [kidT, canT])
            rw [s_cabotageref22_holdsIn_5]
            refine OkV.eq (this.lp (l_cabotageref22_holdsIn_8 F _ _ _ _ _ _ _)) ?_
            simp (disch := first | omega | (simp only [new_next, put_next]; done) | (simp only [new_next, put_next]; omega)) [↓k2_val, ↓br_true, ↓br_false]
          · exact rh5n es (N : Int) lb sl hsv op lab c4 slv (.int .i64 (i : Int)) N (q + 2) qk (q + 1) q h6 g16 g06 (next h6 r1 (by rw [hft]; exact r2.congr fun s _ => by simp [stepT, c4]))) N 0 h5 _ (by omega) (.refl _ _) (ht.fr hf5) (fun s hs => by omega) (fun s _ => rfl)
        rw [s_cabotageref22_holdsIn_3]
        refine OkV.eq (this.lp (l_cabotageref22_holdsIn_6 F _ _ _ _ _ _ _)) ?_
        subst era
        simp (disch := first | omega | (simp only [new_next, put_next]; done) | (simp only [new_next, put_next]; omega)) [↓k2_val, ↓br_true, ↓br_false, g13, hkv.one, hkv.take, hkv.len, hil, g03, hsv.clean, hsv.take, hv1, hg1, ht1, e5]
    have h1' := rh1 N hN (q + 2) (q + 1) q h2 (P := P) (fun h3 r1 r2 => by
      have := loop ks.length 0 h3 (by omega) r1 (r2.congr fun s _ => by simp [foldT])
      rw [s_cabotageref22_holdsIn_0]
      refine OkV.eq (this.lp (l_cabotageref22_holdsIn_3 F _ _ _ _ _)) ?_
      simp (disch := first | omega | (simp only [new_next, put_next]; done) | (simp only [new_next, put_next]; omega)) [↓k2_val, ↓br_true, ↓br_false]) N 0 h2 _ (by omega) (.refl _ _) hT2 (fun s hs => by omega)
    refine OkV.eq (h1'.lp (l_cabotageref22_holdsIn_1 F _ _ _ _ _)) ?_
    simp (disch := first | omega | (simp only [new_next, put_next]; done) | (simp only [new_next, put_next]; omega)) [↓k2_val, ↓br_true, ↓br_false, hsv.clean, hsv.take, hkv.clean, ← eq, ← eh1, g01, hmk, ← eh2]
end Go.Ideal.J
set_option linter.unusedSimpArgs false
set_option linter.unusedVariables false
set_option maxRecDepth 10000
set_option maxHeartbeats 2000000
namespace Go.Ideal.J
open Go Go.Ideal
def holdsA (st lb : Int) (es : List Ed) (f : Fml) (a : Int) : Value := if isSt st lb es a = true ∧ (fmd lb f 3000).1 = true then pairV (.bool (hv es f a)) (.int .i64 0) else pairV (.bool false) (.int .i64 2)
theorem jHolds_ok (st lb : Int) (es : List Ed) (sl : Value) (f : Fml) (r : List Value) (a : Int) (h : H) (hrow : Row h 3 sl (es.map edL)) (hfw : FW h f r) : ∃ h', callI F (fnV n_judge_Holds) [gV st lb sl, .agg ⟨r⟩, .int .i64 a] h = some (holdsA st lb es f a, h') ∧ Fr h h' := by
  have hsv := hrow.slvM
  obtain ⟨op, lab, bs, nn, cc, er⟩ := hfw.cells
  obtain ⟨q, eq⟩ : ∃ q, q = h.next := ⟨_, rfl⟩
  obtain ⟨h1, eh1⟩ : ∃ h1, h1 = ((h.new (.cells (gL st lb sl) 0)).new (.cells r 0)).new (.cells [.int .i64 3000] 0) := ⟨_, rfl⟩
  have hf1 : Fr h h1 := by rw [eh1]; exact ((Fr.new _ _).newR _).newR _
  have hn1 : h1.next = q + 3 := by rw [eh1, eq]; simp
  have g0 : h1.get q = some (.cells (gL st lb sl) 0) := by rw [eh1, eq]; simp (disch := first | omega | (simp; omega))
  have g1 : h1.get (q + 1) = some (.cells r 0) := by rw [eh1, eq]; simp (disch := first | omega | (simp; omega))
  have g2 : h1.get (q + 2) = some (.cells [.int .i64 3000] 0) := by rw [eh1, eq]; simp (disch := first | omega | (simp; omega))
  obtain ⟨h2, e2, hf2⟩ := isState_ok st lb es sl a h1 (hrow.fr hf1)
  have hfn2 := hf2.next
  have g02 := (hf2.get _ (by omega)).trans g0
  have g12 := (hf2.get _ (by omega)).trans g1
  have g22 := (hf2.get _ (by omega)).trans g2
  cases hs : isSt st lb es a with
  | false =>
    rw [hs] at e2
    refine ⟨h2, call_fn F_judge_Holds 3 (by decide) ?_, hf1.trans hf2⟩
    rw [s_judge_Holds]
    subst er
    simp (disch := first | omega | (simp only [new_next, put_next]; done) | (simp only [new_next, put_next]; omega)) [↓k2_val, ↓br_true, ↓br_false, hsv.clean, hsv.take, ← eq, ← eh1, g0, e2, holdsA, hs]
  | true =>
    rw [hs] at e2
    have hs' := hs
    unfold isSt at hs'
    simp only [Bool.and_eq_true, decide_eq_true_eq] at hs'
    have fm := (chk_iff st lb es).1 hs'.1.1
    have hF2 : Fr h h2 := hf1.trans hf2
    obtain ⟨h3, e3, hf3, _⟩ := jformed_ok es st lb fm.lb1 sl (q + 2) h hrow (by omega) 3001 f r h2 3000 hfw hF2 (by omega) g22 (by omega) (by omega) (by omega)
    have hfn3 := hf3.next
    have g03 := (hf3.get _ (by omega) (by omega)).trans g02
    have g13 := (hf3.get _ (by omega) (by omega)).trans g12
    have hF3 : Fr h h3 := hF2.transD hf3 (fun i hi hd => by omega)
    cases hc : (fmd lb f 3000).1 with
    | false =>
      rw [hc] at e3
      refine ⟨h3, call_fn F_judge_Holds 3 (by decide) ?_, hF3⟩
      rw [s_judge_Holds]
      subst er
      simp (disch := first | omega | (simp only [new_next, put_next]; done) | (simp only [new_next, put_next]; omega)) [↓k2_val, ↓br_true, ↓br_false, hsv.clean, hsv.take, ← eq, ← eh1, g0, e2, g02, g12, e3, holdsA, hs, hc]
    | true =>
      rw [hc] at e3
      obtain ⟨N, rfl⟩ := Int.eq_ofNat_of_zero_le (show 0 ≤ st by have := fm.st1; omega)
      obtain ⟨s, rfl⟩ := Int.eq_ofNat_of_zero_le hs'.1.2
      have hN := fm.st2
      have hlen := fm.len
      have hsN : s < N := by omega
      obtain ⟨h4, qk, e4, hf4, hqk, hT⟩ := jholds_ok es (by omega) N (by omega) fm.inB lb sl (sz f) f r h3 (Nat.le_refl _) ⟨3000, by omega, hc⟩ (FW.fr hF3 hfw) (hrow.fr hF3)
      obtain ⟨bk, k1, k2, k3⟩ := hT.ex
      have k4 : takeC 1 (dropN s (boolsL bk)) = some [.bool (hv es f s)] := takeC_at (by unfold boolsL; rw [List.getElem?_map, k3 s hsN]; rfl) rfl
      refine ⟨h4, call_fn F_judge_Holds 3 (by decide) ?_, hF3.trans hf4⟩
      rw [s_judge_Holds]
      subst er
      simp (disch := first | omega | (simp only [new_next, put_next]; done) | (simp only [new_next, put_next]; omega)) [↓k2_val, ↓br_true, ↓br_false, hsv.clean, hsv.take, ← eq, ← eh1, g0, e2, g02, g12, e3, g03, g13, e4, hsN, k1, k4, holdsA, hs, hc]
end Go.Ideal.J
set_option linter.unusedSimpArgs false
set_option linter.unusedVariables false
set_option maxRecDepth 10000
set_option maxHeartbeats 2000000
namespace Go.Ideal.J
open Go Go.Ideal
theorem rHolds_ok (st lb : Int) (es : List Ed) (sl : Value) (f : Fml) (r : List Value) (a : Int) (h : H) (hrow : Row h 3 sl (es.map edL)) (hfw : FW h f r) : ∃ h', callI F (fnV n_cabotageref22_Holds) [gV st lb sl, .agg ⟨r⟩, .int .i64 a] h = some (holdsA st lb es f a, h') ∧ Fr h h' := by
  have hsv := hrow.slvM
  obtain ⟨op, lab, bs, nn, cc, er⟩ := hfw.cells
  obtain ⟨q, eq⟩ : ∃ q, q = h.next := ⟨_, rfl⟩
  obtain ⟨h1, eh1⟩ : ∃ h1, h1 = ((h.new (.cells (gL st lb sl) 0)).new (.cells r 0)).new (.cells [.int .i64 3000] 0) := ⟨_, rfl⟩
  have hf1 : Fr h h1 := by rw [eh1]; exact ((Fr.new _ _).newR _).newR _
  have hn1 : h1.next = q + 3 := by rw [eh1, eq]; simp
  have g0 : h1.get q = some (.cells (gL st lb sl) 0) := by rw [eh1, eq]; simp (disch := first | omega | (simp; omega))
  have g1 : h1.get (q + 1) = some (.cells r 0) := by rw [eh1, eq]; simp (disch := first | omega | (simp; omega))
  have g2 : h1.get (q + 2) = some (.cells [.int .i64 3000] 0) := by rw [eh1, eq]; simp (disch := first | omega | (simp; omega))
  obtain ⟨h2, e2, hf2⟩ := refCheck_ok st lb sl es h1 (hrow.fr hf1)
  have hfn2 := hf2.next
  have g02 := (hf2.get _ (by omega)).trans g0
  have g12 := (hf2.get _ (by omega)).trans g1
  have g22 := (hf2.get _ (by omega)).trans g2
  cases hs : chk st lb es with
  | false =>
    rw [hs] at e2
    refine ⟨h2, call_fn F_cabotageref22_Holds 3 (by decide) ?_, hf1.trans hf2⟩
    rw [s_cabotageref22_Holds]
    subst er
    simp (disch := first | omega | (simp only [new_next, put_next]; done) | (simp only [new_next, put_next]; omega)) [↓k2_val, ↓br_true, ↓br_false, hsv.clean, hsv.take, ← eq, ← eh1, g0, e2, erk, holdsA, isSt, hs]
  | true =>
    rw [hs] at e2
    have fm := (chk_iff st lb es).1 hs
    have hF2 : Fr h h2 := hf1.trans hf2
    obtain ⟨h3, e3, hf3, _⟩ := rformula_ok es st lb fm.lb1 sl (q + 2) h hrow (by omega) 3001 f r h2 3000 hfw hF2 (by omega) g22 (by omega) (by omega) (by omega)
    have hfn3 := hf3.next
    have g03 := (hf3.get _ (by omega) (by omega)).trans g02
    have g13 := (hf3.get _ (by omega) (by omega)).trans g12
    have hF3 : Fr h h3 := hF2.transD hf3 (fun i hi hd => by omega)
    cases hc : (fmd lb f 3000).1 with
    | false =>
      rw [hc] at e3
      refine ⟨h3, call_fn F_cabotageref22_Holds 3 (by decide) ?_, hF3⟩
      rw [s_cabotageref22_Holds]
      subst er
      simp (disch := first | omega | (simp only [new_next, put_next]; done) | (simp only [new_next, put_next]; omega)) [↓k2_val, ↓br_true, ↓br_false, hsv.clean, hsv.take, ← eq, ← eh1, g0, e2, erk, g02, g12, e3, holdsA, hc]
    | true =>
      rw [hc] at e3
      by_cases c1 : a < 0
      · have c1' : ¬ 0 ≤ a := by omega
        refine ⟨h3, call_fn F_cabotageref22_Holds 3 (by decide) ?_, hF3⟩
        rw [s_cabotageref22_Holds]
        subst er
        simp (disch := first | omega | (simp only [new_next, put_next]; done) | (simp only [new_next, put_next]; omega)) [↓k2_val, ↓br_true, ↓br_false, hsv.clean, hsv.take, ← eq, ← eh1, g0, e2, erk, g02, g12, e3, holdsA, isSt, hs, hc, c1, c1']
      · by_cases c2 : st ≤ a
        · have c2' : ¬ a < st := by omega
          refine ⟨h3, call_fn F_cabotageref22_Holds 3 (by decide) ?_, hF3⟩
          rw [s_cabotageref22_Holds]
          subst er
          simp (disch := first | omega | (simp only [new_next, put_next]; done) | (simp only [new_next, put_next]; omega)) [↓k2_val, ↓br_true, ↓br_false, hsv.clean, hsv.take, ← eq, ← eh1, g0, e2, erk, g02, g12, e3, g03, holdsA, isSt, hs, hc, c1, c2, c2']
        · obtain ⟨N, rfl⟩ := Int.eq_ofNat_of_zero_le (show 0 ≤ st by have := fm.st1; omega)
          obtain ⟨s, rfl⟩ := Int.eq_ofNat_of_zero_le (show 0 ≤ a by omega)
          have hN := fm.st2
          have hlen := fm.len
          have hsN : s < N := by omega
          have c2n : ¬ N ≤ s := by omega
          obtain ⟨h4, qk, e4, hf4, hqk, hT⟩ := rholdsIn_ok es (by omega) N (by omega) fm.inB lb sl (sz f) f r h3 (Nat.le_refl _) ⟨3000, by omega, hc⟩ (FW.fr hF3 hfw) (hrow.fr hF3)
          obtain ⟨bk, k1, k2, k3⟩ := hT.ex
          have k4 : takeC 1 (dropN s (boolsL bk)) = some [.bool (hv es f s)] := takeC_at (by unfold boolsL; rw [List.getElem?_map, k3 s hsN]; rfl) rfl
          refine ⟨h4, call_fn F_cabotageref22_Holds 3 (by decide) ?_, hF3.trans hf4⟩
          rw [s_cabotageref22_Holds]
          subst er
          simp (disch := first | omega | (simp only [new_next, put_next]; done) | (simp only [new_next, put_next]; omega)) [↓k2_val, ↓br_true, ↓br_false, hsv.clean, hsv.take, ← eq, ← eh1, g0, e2, erk, g02, g12, e3, g03, g13, e4, hsN, k1, k4, holdsA, isSt, hs, hc, c1, c2, c2n]
theorem holds_law (st lb : Int) (es : List Ed) (sl : Value) (f : Fml) (r : List Value) (a : Int) (h : H) (hrow : Row h 3 sl (es.map edL)) (hfw : FW h f r) : Ret F (fnV n_cabotagelaw22_JudgeHolds) [gV st lb sl, .agg ⟨r⟩, .int .i64 a] h fun v h' => v = .bool true ∧ Fr h h' := by
  refine Ret.fn F_cabotagelaw22_JudgeHolds 3 (by decide) ?_
  rw [s_cabotagelaw22_JudgeHolds]
  have hsv := hrow.slvM
  obtain ⟨op, lab, bs, nn, cc, er⟩ := hfw.cells
  obtain ⟨q, eq⟩ : ∃ q, q = h.next := ⟨_, rfl⟩
  obtain ⟨h1, eh1⟩ : ∃ h1, h1 = (h.new (.cells (gL st lb sl) 0)).new (.cells r 0) := ⟨_, rfl⟩
  have hf1 : Fr h h1 := by rw [eh1]; exact (Fr.new _ _).newR _
  have hn1 : h1.next = q + 2 := by rw [eh1, eq]; simp
  have g0 : h1.get q = some (.cells (gL st lb sl) 0) := by rw [eh1, eq]; simp (disch := omega)
  have g1 : h1.get (q + 1) = some (.cells r 0) := by rw [eh1, eq]; simp (disch := omega)
  obtain ⟨h2, e2, hf2⟩ := jHolds_ok st lb es sl f r a h1 (hrow.fr hf1) (FW.fr hf1 hfw)
  have g02 := (hf2.get _ (by omega)).trans g0
  have g12 := (hf2.get _ (by omega)).trans g1
  obtain ⟨h3, e3, hf3⟩ := rHolds_ok st lb es sl f r a h2 ((hrow.fr hf1).fr hf2) (FW.fr hf2 (FW.fr hf1 hfw))
  refine OkV.eq (OkV.val (v := .bool true) (h := h3) ⟨rfl, (hf1.trans hf2).trans hf3⟩) ?_
  subst er
  have hbb : ∀ (b : Bool) (h' : H), vBin .eql .bool (.bool b) (.bool b) h' = some (.bool true, h') := fun b h' => by cases b <;> rfl
  unfold holdsA at e2 e3
  by_cases c : isSt st lb es a = true ∧ (fmd lb f 3000).1 = true
  · rw [if_pos c] at e2 e3
    simp (disch := first | omega | (simp only [new_next, put_next]; done) | (simp only [new_next, put_next]; omega)) [↓k2_val, ↓br_true, ↓br_false, hbb, hsv.clean, hsv.take, ← eq, ← eh1, g0, g1, e2, g02, g12, e3, known_ok']
  · rw [if_neg c] at e2 e3
    simp (disch := first | omega | (simp only [new_next, put_next]; done) | (simp only [new_next, put_next]; omega)) [↓k2_val, ↓br_true, ↓br_false, hbb, hsv.clean, hsv.take, ← eq, ← eh1, g0, g1, e2, g02, g12, e3, known_ok']
end Go.Ideal.J
set_option maxRecDepth 100000
set_option maxHeartbeats 4000000
set_option linter.unusedVariables false
namespace Go.Proofs.Ytanaepeilcjhcaa
open Go.ChangeShapes Go.WideShapes Go.ChangeAt Go.RowKit Go.Ideal Go.Ideal.J
theorem Try.own : ownKnob Try.prog.godebug = none := by kernel_rfl
theorem Try.laidOut : laidOutB Try.prog = true := by kernel_rfl
/-- a graph that came in. -/
theorem graph_in {H : Type} {enc : TypeId × Value → H} {W : World} {base b : Nat} {r : Reach} {spare : Nat → Bool} {held : Bool} {v : Value} {d : DataW H} {ps : List MemPlace} (hval : Value.okWide Try.prog W r base 24 v) (hd : DataW.Trod enc Try.prog W b spare held 24 v d ps) :
    ∃ (st lb : Int) (sl : Value) (es : List Ed), v = gV st lb sl ∧ okArg W v = true ∧ Row (impH W) 3 sl (es.map edL) := by
  unfold Value.okWide at hval
  rw [Try.underlying24] at hval
  obtain ⟨cs, rfl, hsz, ts, hts, _, hcell⟩ := hval
  obtain ⟨fuel, hd⟩ := hd
  have hcs : (Value.agg cs).cells.toList = cs.toList := rfl
  rw [hcs] at hd
  obtain ⟨xs, n, _, _, hl, hlen, hf⟩ := DataW.trod_struct Try.underlying24 hd
  have h3 : Try.prog.cellsOf 24 = 3 := by kernel_rfl
  have hi1 : Try.prog.cellsOf 3 = 1 := by kernel_rfl
  have hs1 : Try.prog.cellsOf 22 = 1 := by kernel_rfl
  have hE3 : Try.prog.cellsOf 58 = 3 := by kernel_rfl
  have hty : Try.prog.cellTypes Try.prog.depth 24 = some [3, 3, 22] := by kernel_rfl
  rw [hty] at hts
  cases hts
  rw [h3] at hl
  obtain ⟨c0, c1, c2, hc⟩ : ∃ c0 c1 c2, cs.toList = [c0, c1, c2] := by
    match cs.toList, hl with
    | [c0, c1, c2], _ => exact ⟨c0, c1, c2, rfl⟩
  rw [hc] at hf
  have e0 : DataW.trod enc Try.prog W b spare held n 3 (([c0, c1, c2].drop 0).take (Try.prog.cellsOf 3)) = xs[0]? := hf 0 _ rfl
  have e1 : DataW.trod enc Try.prog W b spare held n 3 (([c0, c1, c2].drop 1).take (Try.prog.cellsOf 3)) = xs[1]? := hf 1 _ rfl
  have e2 : DataW.trod enc Try.prog W b spare held n 22 (([c0, c1, c2].drop 2).take (Try.prog.cellsOf 22)) = xs[2]? := hf 2 _ rfl
  rw [hi1] at e0 e1
  rw [hs1] at e2
  obtain ⟨y0, y1, y2, rfl⟩ : ∃ y0 y1 y2, xs = [y0, y1, y2] := by
    match xs, hlen with
    | [y0, y1, y2], _ => exact ⟨y0, y1, y2, rfl⟩
  obtain ⟨st, rfl, _⟩ := int_of_trod Try.underlying3 (show DataW.trod enc Try.prog W b spare held n 3 [c0] = some y0 from e0)
  obtain ⟨lb, rfl, _⟩ := int_of_trod Try.underlying3 (show DataW.trod enc Try.prog W b spare held n 3 [c1] = some y1 from e1)
  have hcs' : cs = #[.int .i64 st, .int .i64 lb, c2] := by rw [← Array.toList_inj, hc]
  subst hcs'
  obtain ⟨u, hu, hok⟩ := hcell 2 c2 rfl
  cases hu
  obtain ⟨hokv, es, hrow⟩ := row_of_trod (α := Ed) (f := edL) (sz := 3) Try.underlying22 hE3 (by omega) (fun _ => rfl) (fun _ => rfl) (fun a v hv => by
      simp only [List.mem_cons, List.not_mem_nil, or_false] at hv
      rcases hv with rfl | rfl | rfl <;> rfl)
    (fun fuel cs y h => by
      obtain ⟨p, q, s, rfl⟩ := ints3_of_trod Try.underlying58 ⟨rfl, rfl⟩ ⟨rfl, rfl⟩ ⟨rfl, rfl⟩ Try.underlying3 Try.underlying3 Try.underlying3 hi1 hi1 hi1 hE3 h
      exact ⟨(p, q, s), rfl⟩) (slice_ok Try.underlying22 hok) (show DataW.trod enc Try.prog W b spare held n 22 [c2] = some y2 from e2)
  refine ⟨st, lb, c2, es, rfl, ?_, hrow⟩
  show ([.int .i64 st, .int .i64 lb, c2] : List Value).all (okV W) = true
  simp only [List.all_cons, List.all_nil, hokv, Bool.and_true]
  rfl

end Go.Proofs.Ytanaepeilcjhcaa
/- JudgeHolds: for any graph, any formula and any state the law answers true: both say alike whether the formula holds, or that they cannot say. No condition. -/
set_option maxRecDepth 100000
set_option maxHeartbeats 4000000
set_option linter.unusedVariables false
namespace Go.Proofs.Ytanaepeilcjhcaa
open Go.ChangeShapes Go.WideShapes Go.ChangeAt Go.RowKit Go.Ideal Go.Ideal.J
theorem fws_of {h : Go.Ideal.H} : ∀ {rows : List (List Value)}, (∀ r ∈ rows, ∃ f, FW h f r) → ∃ ks, FWs h ks rows
  | [], _ => ⟨[], by unfold FWs; rfl⟩
  | r :: rows, hr => by
    obtain ⟨f, hf⟩ := hr r (by simp)
    obtain ⟨ks, hks⟩ := fws_of (rows := rows) (fun x hx => hr x (List.mem_cons_of_mem _ hx))
    exact ⟨f :: ks, by unfold FWs; exact ⟨r, rows, rfl, hf, hks⟩⟩
theorem formula_cells {H : Type} {enc : TypeId × Value → H} {W : World} {b : Nat} {held : Bool} : ∀ (fuel : Nat) (cs : List Value) (y : DataW H × List MemPlace), DataW.trod enc Try.prog W b (fun _ => true) held fuel 35 cs = some y → ∃ f, FW (impH W) f (cs.map (impV W)) := by
  intro fuel
  induction fuel using Nat.strongRecOn with
  | ind fuel ih =>
    intro cs y hd
    obtain ⟨xs, n, hfu, _, hl, hlen, hf⟩ := DataW.trod_struct Try.underlying35 hd
    have h3 : Try.prog.cellsOf 35 = 3 := by kernel_rfl
    have hi1 : Try.prog.cellsOf 3 = 1 := by kernel_rfl
    have ho1 : Try.prog.cellsOf 32 = 1 := by kernel_rfl
    have hs1 : Try.prog.cellsOf 33 = 1 := by kernel_rfl
    rw [h3] at hl
    obtain ⟨c0, c1, c2, rfl⟩ : ∃ c0 c1 c2, cs = [c0, c1, c2] := by
      match cs, hl with
      | [c0, c1, c2], _ => exact ⟨c0, c1, c2, rfl⟩
    have e0 : DataW.trod enc Try.prog W b (fun _ => true) held n 32 (([c0, c1, c2].drop 0).take (Try.prog.cellsOf 32)) = xs[0]? := hf 0 _ rfl
    have e1 : DataW.trod enc Try.prog W b (fun _ => true) held n 3 (([c0, c1, c2].drop 1).take (Try.prog.cellsOf 3)) = xs[1]? := hf 1 _ rfl
    have e2 : DataW.trod enc Try.prog W b (fun _ => true) held n 33 (([c0, c1, c2].drop 2).take (Try.prog.cellsOf 33)) = xs[2]? := hf 2 _ rfl
    rw [ho1] at e0
    rw [hi1] at e1
    rw [hs1] at e2
    obtain ⟨y0, y1, y2, rfl⟩ : ∃ y0 y1 y2, xs = [y0, y1, y2] := by
      match xs, hlen with
      | [y0, y1, y2], _ => exact ⟨y0, y1, y2, rfl⟩
    obtain ⟨op, rfl, _⟩ := int_of_trod Try.underlying32 (show DataW.trod enc Try.prog W b (fun _ => true) held n 32 [c0] = some y0 from e0)
    obtain ⟨lab, rfl, _⟩ := int_of_trod Try.underlying3 (show DataW.trod enc Try.prog W b (fun _ => true) held n 3 [c1] = some y1 from e1)
    obtain ⟨rows, hrow, hq, _⟩ := nested_row (Q := fun r => ∃ f, FW (impH W) f r) (sz := 3) Try.underlying33 h3 (by omega) (fun r ⟨f, hr⟩ => by
        obtain ⟨op, lab, bs, nn, cc, rfl⟩ := hr.cells
        exact ⟨rfl, rfl⟩) (fun m cs y hm hy => ih m (by omega) cs y hy) (show DataW.trod enc Try.prog W b (fun _ => true) held n 33 [c2] = some y2 from e2)
    obtain ⟨ks, hks⟩ := fws_of hq
    exact ⟨.mk op lab ks, by unfold FW; exact ⟨_, rows, rfl, hrow, hks⟩⟩
/-- a formula that came in. -/
theorem formula_in {H : Type} {enc : TypeId × Value → H} {W : World} {base b : Nat} {r : Reach} {held : Bool} {v : Value} {d : DataW H} {ps : List MemPlace} (hval : Value.okWide Try.prog W r base 35 v) (hd : DataW.Trod enc Try.prog W b (fun _ => true) held 35 v d ps) :
    ∃ (f : Fml) (l : List Value), v = .agg ⟨l⟩ ∧ okArg W v = true ∧ FW (impH W) f l := by
  unfold Value.okWide at hval
  rw [Try.underlying35] at hval
  obtain ⟨cs, rfl, hsz, ts, hts, _, hcell⟩ := hval
  obtain ⟨fuel, hd⟩ := hd
  obtain ⟨f, hf⟩ := formula_cells fuel _ _ hd
  have hcs : (Value.agg cs).cells.toList = cs.toList := rfl
  rw [hcs] at hf hd
  have hty : Try.prog.cellTypes Try.prog.depth 35 = some [32, 3, 33] := by kernel_rfl
  rw [hty] at hts
  cases hts
  obtain ⟨xs, n, hfu, _, hl, hlen, hfl⟩ := DataW.trod_struct Try.underlying35 hd
  have h3 : Try.prog.cellsOf 35 = 3 := by kernel_rfl
  have hi1 : Try.prog.cellsOf 3 = 1 := by kernel_rfl
  have ho1 : Try.prog.cellsOf 32 = 1 := by kernel_rfl
  have hs1 : Try.prog.cellsOf 33 = 1 := by kernel_rfl
  rw [h3] at hl
  obtain ⟨c0, c1, c2, hc⟩ : ∃ c0 c1 c2, cs.toList = [c0, c1, c2] := by
    match cs.toList, hl with
    | [c0, c1, c2], _ => exact ⟨c0, c1, c2, rfl⟩
  rw [hc] at hfl hf
  have e0 : DataW.trod enc Try.prog W b (fun _ => true) held n 32 (([c0, c1, c2].drop 0).take (Try.prog.cellsOf 32)) = xs[0]? := hfl 0 _ rfl
  have e1 : DataW.trod enc Try.prog W b (fun _ => true) held n 3 (([c0, c1, c2].drop 1).take (Try.prog.cellsOf 3)) = xs[1]? := hfl 1 _ rfl
  have e2 : DataW.trod enc Try.prog W b (fun _ => true) held n 33 (([c0, c1, c2].drop 2).take (Try.prog.cellsOf 33)) = xs[2]? := hfl 2 _ rfl
  rw [ho1] at e0
  rw [hi1] at e1
  rw [hs1] at e2
  obtain ⟨y0, y1, y2, rfl⟩ : ∃ y0 y1 y2, xs = [y0, y1, y2] := by
    match xs, hlen with
    | [y0, y1, y2], _ => exact ⟨y0, y1, y2, rfl⟩
  obtain ⟨op, rfl, _⟩ := int_of_trod Try.underlying32 (show DataW.trod enc Try.prog W b (fun _ => true) held n 32 [c0] = some y0 from e0)
  obtain ⟨lab, rfl, _⟩ := int_of_trod Try.underlying3 (show DataW.trod enc Try.prog W b (fun _ => true) held n 3 [c1] = some y1 from e1)
  have hcs' : cs = #[.int .i64 op, .int .i64 lab, c2] := by rw [← Array.toList_inj, hc]
  subst hcs'
  obtain ⟨u, hu, hok⟩ := hcell 2 c2 rfl
  cases hu
  have hv2 := slice_ok Try.underlying33 hok
  have hokv : okV W c2 = true := by
    rcases DataW.trod_slice Try.underlying33 (show DataW.trod enc Try.prog W b (fun _ => true) held n 33 [c2] = some y2 from e2) with ⟨e0, _⟩ | ⟨a, len, cap, elems, rest, n', _, e0, _, hb, hll, hm, _⟩
    · cases e0; rfl
    · cases e0
      obtain ⟨h1, h2⟩ := hv2 a len cap rfl
      have hcap : cap < openCap := by unfold openCap; unfold maxLen at hm; omega
      simp [okV, h1, hll, hcap, h2]
  refine ⟨f, [.int .i64 op, .int .i64 lab, c2], rfl, ?_, ?_⟩
  · show ([.int .i64 op, .int .i64 lab, c2] : List Value).all (okV W) = true
    simp only [List.all_cons, List.all_nil, hokv, Bool.and_true]
    rfl
  · rw [← impV_ok hokv]; exact hf
theorem int_in {H : Type} {enc : TypeId × Value → H} {W : World} {base b : Nat} {r : Reach} {spare : Nat → Bool} {held : Bool} {v : Value} {d : DataW H} {ps : List MemPlace} (hval : Value.okWide Try.prog W r base 3 v) (hd : DataW.Trod enc Try.prog W b spare held 3 v d ps) : ∃ n, v = .int .i64 n := by
  unfold Value.okWide at hval
  rw [Try.underlying3] at hval
  have h : Cell.okWide Try.prog W r base 3 v := hval
  unfold Cell.okWide at h
  rw [Try.underlying3] at h
  have h : Cell.ok Try.prog W r base 3 v := h
  unfold Cell.ok at h
  rw [Try.underlying3] at h
  cases v <;> first | exact h.elim | skip
  obtain ⟨h1, _⟩ := h
  exact ⟨_, by rw [h1]⟩
theorem holds_calls {W : World} {v u : Value} {st lb a : Int} {sl : Value} {es : List Ed} {f : Fml} {l : List Value} (hv : v = gV st lb sl) (ho : okArg W v = true) (hrow : Row (impH W) 3 sl (es.map edL)) (hu : u = .agg ⟨l⟩) (hou : okArg W u = true) (hfw : FW (impH W) f l) :
    Calls Try.prog 7 #[v, u, .int .i64 a] W fun e W' => e = .returned (.bool true) ∧ Same W W' := by
  obtain ⟨x, h', he, rfl, hf⟩ := holds_law st lb es sl f l a (impH W) hrow hfw
  subst hv hu
  exact calls_import Go.Ideal.X.hmix okFs (fun v hv => by
    simp only [List.mem_cons, List.not_mem_nil, or_false] at hv
    rcases hv with rfl | rfl | rfl
    · exact ho
    · exact hou
    · rfl) he (fun i hi => hf.get i (Nat.lt_succ_of_lt hi))
theorem holds_lifted (os : Os) (started : os.Started) (H : Type) (enc : TypeId × Value → H) :
    ReturnsInHanded {} Try.checked os 7 .any (Rows.judgeHoldsSpec.pre6 enc Try.prog Try.f7 Rows.judgeHoldsRow.domain false) (Rows.judgeHoldsSpec.post enc Try.prog Try.f7 false true false false) := by
  refine returnsInHanded_of_change (C := Try.checked) Try.own started (by kernel_rfl) Try.func7
    (ChangeSpec.witness6 (enc := enc) (C := Try.checked) false ⟨#[], #[.agg #[.int .i64 0, .int .i64 0, .slice none 0 0], .agg #[.int .i64 0, .int .i64 0, .slice none 0 0], .int .i64 0], []⟩ 8 (by kernel_rfl) (by kernel_rfl) (by kernel_rfl) (by kernel_rfl)) ?_
  intro W base args ds gs before hval0 hW hcnd _
  have hval : ∀ (j : Nat) t v, Try.f7.params[j]? = some t → args[j]? = some v → Value.okWide Try.prog W .any base t v := hval0
  have hW' := hW
  obtain ⟨p, q, hA0, hV, rfl, hfz, hnd⟩ := hW
  have hA : DataW.TrodAll enc Try.prog W 0 (fun _ => true) true Try.f7.params.toList args.toList ds p := hA0
  rw [Try.params7] at hA hval
  obtain ⟨v0, v1, v2, d0, d1, d2, q0, q1, q2, rfl, rfl, rfl, h0, h1, h2⟩ := trodAll_three hA
  obtain ⟨st, lb, sl, es, hv, ho, hrow⟩ := graph_in (hval 0 24 v0 rfl rfl) h0
  obtain ⟨f, l, hu, hou, hfw⟩ := formula_in (hval 1 35 v1 rfl rfl) h1
  obtain ⟨a, rfl⟩ := int_in (hval 2 3 v2 rfl rfl) h2
  obtain ⟨rfl, rfl⟩ := trodVars_none hV
  refine (holds_calls hv ho hrow hu hou hfw).mono fun e W' ⟨he, hs⟩ => ⟨_, he, ?_⟩
  exact law_post hW' rfl rfl (t := 4) (by kernel_rfl) Try.underlying4 hs Try.laidOut (fun t ht => by
    rw [Try.params7] at ht
    simp only [List.mem_cons, List.not_mem_nil, or_false] at ht
    rcases ht with rfl | rfl | rfl <;> exact ⟨by kernel_rfl, of_decide_eq_true (by kernel_rfl)⟩)
theorem holds_holds : Rows.JudgeHoldsSaid :=
  OpenClaim.holds_of_wide 7 Try.f7 rfl rfl rfl rfl rfl rfl rfl ⟨rfl, rfl, rfl, rfl, rfl⟩ rfl rfl rfl rfl rfl (by kernel_rfl) Try.func7 (by kernel_rfl)
    (of_decide_eq_true (by kernel_rfl)) (by unfold Func.isWrapper; first | (rw [if_pos (by decide +kernel)]; kernel_rfl) | (rw [if_neg (by decide +kernel)]; exact ⟨rfl, rfl⟩))
    (fun os started H enc _ => holds_lifted os started H enc)
end Go.Proofs.Ytanaepeilcjhcaa
