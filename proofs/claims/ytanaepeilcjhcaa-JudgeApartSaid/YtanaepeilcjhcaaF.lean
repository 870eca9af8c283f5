/- JudgeApart: for any graph and any two states the law answers true: the states of one class are a bisimulation, and the formula that tells two states of different classes holds in the one and not in the other one. No condition. -/
import Derived.Maps.RangeRun
import Derived.Test.YtanaepeilcjhcaaProg
import Derived.Test.YtanaepeilcjhcaaRows
import Derived.Test.YtanaepeilcjhcaaE
set_option linter.unusedSimpArgs false
set_option linter.unusedVariables false
set_option maxRecDepth 10000
set_option maxHeartbeats 2000000
namespace Go.Ideal.J
open Go Go.Ideal
theorem min2 (a b : Int) (h : H) : bltV h .min [.int .i64 a, .int .i64 b] = some (.int .i64 (min a b), h) := by
  show (zbT false (.int .i64 a) [.int .i64 b]).map (·, h) = _
  by_cases h1 : b < a
  · simp [zbT, zcm, h1]; omega
  · simp [zbT, zcm, h1]; omega
def updF (f : Int → Int → Option Int) (a b n : Int) : Int → Int → Option Int := fun c d => if c = a ∧ d = b then some n else f c d
theorem rV_updF (f : Int → Int → Option Int) (a b n : Int) : upd2 (rV f) a b (.int .i64 n) = rV (updF f a b n) := by
  funext c d
  unfold upd2 updF rV; dsimp only
  by_cases h1 : c = a ∧ d = b
  · rw [if_pos h1, if_pos h1]; rfl
  · rw [if_neg h1, if_neg h1]
def SZ (es : List Ed) (N k : Nat) (a b : Int) : Int := min (sz (TF es N k a b) : Int) 3001
def Memo (es : List Ed) (N k : Nat) (f : Int → Int → Option Int) : Prop := ∀ a b u, f a b = some u → u = SZ es N k a b
theorem Memo.upd {es : List Ed} {N k : Nat} {f : Int → Int → Option Int} (hf : Memo es N k f) (a b : Int) : Memo es N k (updF f a b (SZ es N k a b)) := by
  intro c d u h
  unfold updF at h
  split at h
  · rename_i e; cases h; rw [e.1, e.2]
  · exact hf c d u h
def SOK (es : List Ed) (N k m : Nat) (st lb : Int) (sl : Value) (nm n : Nat) : Prop :=
  ∀ (a b : Int) (h : H) (f : Int → Int → Option Int), Row h 3 sl (es.map edL) → MapM h m (rV (rN es N k)) → m < h.next → MapM h nm (rV f) → nm < h.next → Memo es N k f → Ok es N k n a b →
    ∃ h' f', zbv F (fnV n_i) [tlV m st lb sl nm, .int .i64 a, .int .i64 b] h = some (.int .i64 (SZ es N k a b), h') ∧ FrD (fun j => j = nm) h h' ∧ MapM h' nm (rV f') ∧ Memo es N k f'
theorem size_round (es : List Ed) (N k m : Nat) (st lb : Int) (sl : Value) (nm n : Nat) (hok : SOK es N k m st lb sl nm n) (x : Ed) (t : Int) (hot : Ok es N k n x.2.1 t) (L q3 q10 q11 : Nat) (h1 : H) (hrow : Row h1 3 sl (es.map edL)) (hsl : ∀ b o n c, sl = .slice (some ⟨b, o, none⟩) n c → b ≠ L) (hm : MapM h1 m (rV (rN es N k))) (hml : m < h1.next) (hmL : m ≠ L)
    (hL : h1.get L = some (.loop .ready none (setL [p3, p10, p11] [ptr q3, ptr q10, ptr q11]) zeT)) (g3 : h1.get q3 = some (.cells (tlL m st lb sl nm) 0)) (g11 : h1.get q11 = some (.cells (edL x) 0)) (s : Int) (hs0 : 0 ≤ s) (hs1 : s ≤ 3001) (g10 : h1.get q10 = some (.cells [.int .i64 s] 0)) (l0 : L < h1.next) (l3 : q3 < h1.next) (l10 : q10 < h1.next) (l11 : q11 < h1.next) (n3 : q3 ≠ L) (n10 : q10 ≠ L) (n11 : q11 ≠ L)
    (f : Int → Int → Option Int) (hnm : MapM h1 nm (rV f)) (hnl : nm < h1.next) (hnL : nm ≠ L) (hmf : Memo es N k f) (nn10 : q10 ≠ nm) {P : Value → H → Prop}
    (hP : ∀ h' f', FrD (fun j => j = L ∨ j = q10 ∨ j = nm) h1 h' → h'.get L = some (.loop .ready none (setL [p3, p10, p11] [ptr q3, ptr q10, ptr q11]) zeT) → h'.get q10 = some (.cells [.int .i64 (min (s + SZ es N k x.2.1 t) 3001)] 0) → MapM h' nm (rV f') → Memo es N k f' → P (.bool true) h') :
    Ret F (.func (.yield L) #[] #[]) [.int .i64 t] h1 P := by
  refine Ret.round hL ?_
  rw [s_i_1]
  simp (disch := first | omega | (simp only [za, zb]; done) | (simp only [za, zb]; omega)) [↓zp, ↓zk, ↓zh]
  rw [zdL hL, s_i_2]
  have hv := hrow.slvM
  obtain ⟨h2, eh2⟩ : ∃ h2, h2 = h1.put L (.loop .busy none (setL [p3, p10, p11] [ptr q3, ptr q10, ptr q11]) zeT) := ⟨_, rfl⟩
  have hn2 : h2.next = h1.next := by rw [eh2]; simp
  have hf2 : FrD (fun j => j = L) h1 h2 := by rw [eh2]; exact (FrD.refl (fun j => j = L) _).put (.inr rfl) _
  have gL2 : h2.get L = some (.loop .busy none (setL [p3, p10, p11] [ptr q3, ptr q10, ptr q11]) zeT) := by rw [eh2, zx rfl]
  have g32 := (hf2.get _ l3 n3).trans g3
  have g112 := (hf2.get _ l11 n11).trans g11
  have g102 := (hf2.get _ l10 n10).trans g10
  obtain ⟨h5, f', ec, hf5, hm5, hmf5⟩ := hok x.2.1 t h2 f (hrow.frD hf2 (fun b o n c e => hsl b o n c e)) (hm.fr hf2 hml hmL) (by omega) (hnm.fr hf2 hnl hnL) (by omega) hmf hot
  have hfn5 := hf5.next
  have g105 := (hf5.get _ (by omega) nn10).trans g102
  have hSZ0 : 0 ≤ SZ es N k x.2.1 t := by unfold SZ; omega
  have hSZ1 : SZ es N k x.2.1 t ≤ 3001 := by unfold SZ; omega
  generalize SZ es N k x.2.1 t = w at *
  obtain ⟨h7, eh7⟩ : ∃ h7, h7 = h5.put q10 (.cells [.int .i64 (min (s + w) 3001)] 0) := ⟨_, rfl⟩
  have hf7 : FrD (fun j => j = q10) h5 h7 := by rw [eh7]; exact (FrD.refl (fun j => j = q10) _).put (.inr rfl) _
  have hn7 : h7.next = h5.next := by rw [eh7]; simp
  have gL7 : h7.get L = some (.loop .busy none (setL [p3, p10, p11] [ptr q3, ptr q10, ptr q11]) zeT) := by
    rw [hf7.get _ (by omega) (fun e => n10 e.symm), hf5.get _ (by omega) (fun e => hnL e.symm)]; exact gL2
  have g107 : h7.get q10 = some (.cells [.int .i64 (min (s + w) 3001)] 0) := by rw [eh7, zx rfl]
  have hfD : FrD (fun j => j = L ∨ j = q10 ∨ j = nm) h1 (h7.put L (.loop .ready none (setL [p3, p10, p11] [ptr q3, ptr q10, ptr q11]) zeT)) :=
    (((hf2.mono (fun _ _ h => .inl h)).trans (hf5.mono (fun _ _ h => .inr (.inr h)))).trans (hf7.mono (fun _ _ h => .inr (.inl h)))).put (.inr (.inl rfl)) _
  have ok : OkV (fin L none h7) P := by
    rw [zc4 gL7]
    exact OkV.val (hP _ f' hfD (zx rfl) (by rw [zm n10]; exact g107) ((hm5.fr hf7 (by omega) (fun e => nn10 e.symm)).fr (D := fun j => j = L) ((FrD.refl (fun j => j = L) _).put (.inr rfl) _) (by omega) hnL) hmf5)
  refine OkV.eq ok ?_
  simp (disch := first | omega | (simp only [za, zb]; done) | (simp only [za, zb]; omega)) [↓zp, ↓zk, ↓zh, ← eh2, g32, g112, hv.map2, hv.take1, hv.clean, hv.take, hv.eqc, ec, g102, g105, zW, min2, ← eh7]
theorem szs_take (es : List Ed) (N k : Nat) (x : Ed) (ts : List Int) (i : Nat) {t : Int} (ht : ts[i]? = some t) : (szs ((ts.take (i + 1)).map fun t => TF es N k x.2.1 t) : Int) = szs ((ts.take i).map fun t => TF es N k x.2.1 t) + sz (TF es N k x.2.1 t) := by
  rw [List.take_add_one, ht, List.map_append, zi6]
  simp [szs]
theorem size_ok (es : List Ed) (hs : zY es) (hsz : es.length ≤ 1000) (N k m : Nat) (hN : N ≤ 200) (st lb : Int) (sl : Value) (nm : Nat) (hslnm : ∀ b o n c, sl = .slice (some ⟨b, o, none⟩) n c → b ≠ nm) (hmnm : m ≠ nm) : ∀ n, SOK es N k m st lb sl nm n := by
  intro n
  induction n with
  | zero => intro a b h _ _ _ _ _ _ _ ho; obtain ⟨_, e⟩ := ho.pos; cases e
  | succ n ih =>
    intro a b h f hrow hm hml hnm hnl hmf hok
    obtain ⟨v, hv, hv2, hv3⟩ := id hok
    have hvp := zhI hv
    suffices hr : Ret F (fnV n_i) [tlV m st lb sl nm, .int .i64 a, .int .i64 b] h fun u h' => u = .int .i64 (SZ es N k a b) ∧ FrD (fun j => j = nm) h h' ∧ ∃ f', MapM h' nm (rV f') ∧ Memo es N k f' by
      obtain ⟨u, h', e, rfl, h1, f', h2, h3⟩ := hr; exact ⟨h', f', e, h1, h2, h3⟩
    obtain ⟨P, hPd⟩ : ∃ P : Value → H → Prop, P = fun u h' => u = .int .i64 (SZ es N k a b) ∧ FrD (fun j => j = nm) h h' ∧ ∃ f', MapM h' nm (rV f') ∧ Memo es N k f' := ⟨_, rfl⟩
    rw [← hPd]
    refine Ret.fn F_i 3 (by decide) ?_
    rw [s_i]
    have hsv := hrow.slvM
    obtain ⟨q, eq⟩ : ∃ q, q = h.next := ⟨_, rfl⟩
    obtain ⟨h2, eh2⟩ : ∃ h2, h2 = (h.new (.cells (tlL m st lb sl nm) 0)).new (.cells [.int .i64 a, .int .i64 b] 0) := ⟨_, rfl⟩
    have hf2 : Fr h h2 := by rw [eh2]; exact (Fr.new _ _).newR _
    have hn2 : h2.next = q + 2 := by rw [eh2, eq]; simp
    have g0 : h2.get q = some (.cells (tlL m st lb sl nm) 0) := by rw [eh2, eq]; simp (disch := omega)
    have g1 : h2.get (q + 1) = some (.cells [.int .i64 a, .int .i64 b] 0) := by rw [eh2, eq]; simp (disch := omega)
    have hm2 := hm.fr (D := fun _ => False) hf2.D hml (by simp)
    have hnm2 := hnm.fr (D := fun _ => False) hf2.D hnl (by simp)
    have hlk0 := zhS hnm2 (.int .i64 0) a b
    cases hfab : f a b with
    | some u =>
      simp only [rV, hfab, Option.map_some, Option.getD_some, Option.isSome_some] at hlk0
      refine OkV.eq (OkV.val (v := .int .i64 u) (h := h2) (by
        rw [hPd]
        exact ⟨by rw [hmf a b u hfab], hf2.D, f, hnm2, hmf⟩)) ?_
      simp (disch := first | omega | (simp only [za, zb]; done) | (simp only [za, zb]; omega)) [↓zp, ↓zk, ↓zh, hsv.map2, hsv.take1, hsv.clean, hsv.take, zq, ← eq, ← eh2, g0, g1, hlk0]
    | none =>
      simp only [rV, hfab, Option.map_none, Option.getD_none, Option.isSome_none] at hlk0
      obtain ⟨h2', eh2'⟩ : ∃ h2', h2' = h2.new (.cells [.int .i64 1] 0) := ⟨_, rfl⟩
      have hf2' : Fr h2 h2' := by rw [eh2']; exact .new _ _
      have hn2' : h2'.next = q + 3 := by rw [eh2', za, hn2]
      have g02 := (hf2'.get _ (by omega)).trans g0
      have g12 := (hf2'.get _ (by omega)).trans g1
      have g22 : h2'.get (q + 2) = some (.cells [.int .i64 1] 0) := by rw [eh2', ← hn2]; simp
      have hm2' := hm2.fr (D := fun _ => False) hf2'.D (by omega) (by simp)
      have hnm2' := hnm2.fr (D := fun _ => False) hf2'.D (by omega) (by simp)
      have hlk := zhh hm2' (.int .i64 0) a b
      simp only [rV, hv, Option.map_some, Option.getD_some] at hlk
      obtain ⟨h3, e3, hf3⟩ := zhl es hs hsz st lb (rN es N k) m a b (v - 1) sl h2' ((hrow.fr hf2).fr hf2') hm2' (by omega)
      have hfn3 := hf3.next
      have g03 := (hf3.get _ (by omega)).trans g02
      have g13 := (hf3.get _ (by omega)).trans g12
      have g23 := (hf3.get _ (by omega)).trans g22
      have hm3 := hm2'.fr (D := fun _ => False) hf3.D (by omega) (by simp)
      have hnm3 := hnm2'.fr (D := fun _ => False) hf3.D (by omega) (by simp)
      have hrow3 := ((hrow.fr hf2).fr hf2').fr hf3
      have hvle := rN_le hv
      have hNN : N * N ≤ 200 * 200 := Nat.mul_le_mul hN hN
      have fin0 : ∀ (h7 : H) (f' : Int → Int → Option Int), FrD (fun j => j = nm ∨ q + 2 ≤ j) h2 h7 → MapM h7 nm (rV f') → Memo es N k f' → h7.get (q + 2) = some (.cells [.int .i64 (SZ es N k a b)] 0) → OkV (sh (rI F) c_i_0 (K_i_0 (rI F)) (setL [p3, p7, p10] [ptr q, ptr (q + 1), ptr (q + 2)]) h7) P := by
        intro h7 f' hf7 hm7 hmf7 g27
        have hfn7 := hf7.next
        have g07 := (hf7.get _ (by omega) (by omega)).trans g0
        have g17 := (hf7.get _ (by omega) (by omega)).trans g1
        obtain ⟨o, eu, hmu⟩ := upd_ok hm7 a b (.int .i64 (SZ es N k a b))
        rw [rV_updF] at hmu
        have g28 : (h7.put nm o).get (q + 2) = some (.cells [.int .i64 (SZ es N k a b)] 0) := by rw [zm (by omega)]; exact g27
        rw [s_i_0]
        refine OkV.eq (OkV.val (v := .int .i64 (SZ es N k a b)) (h := h7.put nm o) (by
          rw [hPd]
          exact ⟨rfl, ⟨by simp; have := hf2.next; omega, fun i hi hd => by
            rw [zm hd, hf7.get _ (by omega) (by omega)]; exact hf2.get _ hi⟩, _, hmu, hmf7.upd a b⟩)) ?_
        simp (disch := first | omega | (simp only [za, zb]; done) | (simp only [za, zb]; omega)) [↓zp, ↓zk, ↓zh, g07, g17, g27, eu, g28]
      cases hx : zP (rN es N k) es a b (v - 1) with
      | none =>
        rw [hx] at e3
        simp only [zbt, zbt.pairV'] at e3
        obtain ⟨h4, eh4⟩ : ∃ h4, h4 = h3.new (.cells (edL (0, 0, 0)) 0) := ⟨_, rfl⟩
        have hf4 : Fr h3 h4 := by rw [eh4]; exact .new _ _
        have hn4 : h4.next = h3.next + 1 := by rw [eh4]; simp
        have ge4 : h4.get h3.next = some (.cells (edL (0, 0, 0)) 0) := by rw [eh4]; simp
        have hp4 : h4.put h3.next (.cells (edL (0, 0, 0)) 0) = h4 := by rw [eh4, zjj rfl]
        have g04 := (hf4.get _ (by omega)).trans g03
        have g24 := (hf4.get _ (by omega)).trans g23
        obtain ⟨h5, f', e5, hf5, hm5, hmf5⟩ := ih b a h4 f (hrow3.fr hf4) (hm3.fr (D := fun _ => False) hf4.D (by omega) (by simp)) (by omega) (hnm3.fr (D := fun _ => False) hf4.D (by omega) (by simp)) (by omega) hmf (hok.not hv hx)
        have hfn5 := hf5.next
        have g25 := (hf5.get _ (by omega) (by omega)).trans g24
        have hSZ0 : 0 ≤ SZ es N k b a := by unfold SZ; omega
        have hSZ1 : SZ es N k b a ≤ 3001 := by unfold SZ; omega
        have hSS : min (1 + SZ es N k b a) 3001 = SZ es N k a b := by
          unfold SZ
          rw [TF_not hv hx]
          simp only [sz, szs]; omega
        have := fin0 (h5.put (q + 2) (.cells [.int .i64 (SZ es N k a b)] 0)) f' ⟨by simp; omega, fun i hi hd => by
          rw [zm (by omega), hf5.get _ (by omega) (by omega), hf4.get _ (by omega), hf3.get _ (by omega)]; exact hf2'.get _ hi⟩ (hm5.fr (D := fun j => j = q + 2) ((FrD.refl (fun j => j = q + 2) _).put (.inr rfl) _) (by omega) (by omega)) hmf5 (zx rfl)
        refine OkV.eq this ?_
        simp (disch := first | omega | (simp only [za, zb]; done) | (simp only [za, zb]; omega)) [↓zp, ↓zk, ↓zh, zq, ← eq, ← eh2, g0, g1, hlk0, hn2, ← eh2', g02, g12, g22, hlk, hsv.take1, hsv.take, z7, e3, ← eh4, ge4, hp4, g04, hsv.map2, hsv.clean, e5, zW, min2, hSS, g25]
      | some x =>
        rw [hx] at e3
        simp only [zbt, zbt.pairV'] at e3
        obtain ⟨p, ep⟩ : ∃ p, p = h3.next := ⟨_, rfl⟩
        obtain ⟨h6, eh6⟩ : ∃ h6, h6 = (((((h3.new (.cells (edL x) 0)).put (q + 2) (.cells [.int .i64 2] 0)).new (.cells (gL st lb sl) 0)).new (.cells [.int .i64 b] 0)).new (.cells [.int .i64 x.2.2] 0)).new (.loop .ready none (setL [p3, p10, p11] [ptr q, ptr (q + 2), ptr p]) zeT) := ⟨_, rfl⟩
        have hf6 : FrD (fun j => j = q + 2) h3 h6 := by rw [eh6]; exact ((((((FrD.refl (fun j => j = q + 2) _).new _).put (.inr rfl) _).new _).new _).new _).new _
        have hn6 : h6.next = p + 5 := by rw [eh6, ep]; simp
        have gx6 : h6.get p = some (.cells (edL x) 0) := by rw [eh6, ep]; simp (disch := first | omega | (simp only [za, zb]; done) | (simp only [za, zb]; omega)) [↓zp, ↓zk, ↓zh]
        have g26 : h6.get (q + 2) = some (.cells [.int .i64 2] 0) := by rw [eh6]; simp (disch := first | omega | (simp only [za, zb]; done) | (simp only [za, zb]; omega)) [↓zp, ↓zk, ↓zh]
        have gg6 : h6.get (p + 1) = some (.cells (gL st lb sl) 0) := by rw [eh6, ep]; simp (disch := first | omega | (simp only [za, zb]; done) | (simp only [za, zb]; omega)) [↓zp, ↓zk, ↓zh]
        have gb6 : h6.get (p + 1 + 1) = some (.cells [.int .i64 b] 0) := by rw [eh6, ep]; simp (disch := first | omega | (simp only [za, zb]; done) | (simp only [za, zb]; omega)) [↓zp, ↓zk, ↓zh]
        have gl6 : h6.get (p + 1 + 1 + 1) = some (.cells [.int .i64 x.2.2] 0) := by rw [eh6, ep]; simp (disch := first | omega | (simp only [za, zb]; done) | (simp only [za, zb]; omega)) [↓zp, ↓zk, ↓zh]
        have gL6 : h6.get (p + 1 + 1 + 1 + 1) = some (.loop .ready none (setL [p3, p10, p11] [ptr q, ptr (q + 2), ptr p]) zeT) := by rw [eh6, ep]; simp (disch := first | omega | (simp only [za, zb]; done) | (simp only [za, zb]; omega)) [↓zp, ↓zk, ↓zh]
        obtain ⟨L, eL⟩ : ∃ L, L = p + 1 + 1 + 1 + 1 := ⟨_, rfl⟩
        rw [← eL] at gL6
        simp (disch := first | omega | (simp only [za, zb]; done) | (simp only [za, zb]; omega)) [↓zp, ↓zk, ↓zh, zq, ← eq, ← eh2, g0, g1, hlk0, hn2, ← eh2', g02, g12, g22, hlk, hsv.take1, hsv.take, z7, e3, g03, g23, hsv.map2, hsv.clean, zhi, ← ep]
        simp only [← eh6, ← eL]
        have hot := tos_len es b x.2.2
        have g06 := (hf6.get _ (by omega) (by omega)).trans g03
        have g16 := (hf6.get _ (by omega) (by omega)).trans g13
        have hsl6 : ∀ b o n c, sl = .slice (some ⟨b, o, none⟩) n c → b < h.next := fun b o n c e => hrow.lt e
        have hrow6 := hrow3.frD hf6 (fun b o n c e => by have := hsl6 b o n c e; omega)
        have hm6 := hm3.fr hf6 (by omega) (by omega)
        have hnm6 := hnm3.fr hf6 (by omega) (by omega)
        obtain ⟨T, hT⟩ : ∃ T : Nat → Int, T = fun i => min (2 + (szs (((tos es b x.2.2).take i).map fun t => TF es N k x.2.1 t) : Int)) 3001 := ⟨_, rfl⟩
        have hT0 : ∀ i, 0 ≤ T i ∧ T i ≤ 3001 := fun i => by rw [hT]; constructor <;> (dsimp only; omega)
        have hT1 : ∀ i t, (tos es b x.2.2)[i]? = some t → min (T i + SZ es N k x.2.1 t) 3001 = T (i + 1) := by
          intro i t ht
          have := szs_take es N k x _ i ht
          rw [hT]; dsimp only; rw [this]; unfold SZ; omega
        refine OkV.call (zfM es hs hsz b x.2.2 st lb (.func (.yield L) #[] #[]) rfl rfl rfl sl (p + 1) (p + 1 + 1) (p + 1 + 1 + 1) h6 (M := fun j => j = L ∨ j = q + 2 ∨ j = nm) (fun i hi => by omega) hrow6 (by omega) (by omega) (by omega) (fun b o n c e => by have := hsl6 b o n c e; have := hslnm b o n c e; omega) (by omega) gg6 (by omega) gb6 (by omega) gl6
          (fun i h1 => h1.get L = some (.loop .ready none (setL [p3, p10, p11] [ptr q, ptr (q + 2), ptr p]) zeT) ∧ FrD (fun j => j = L ∨ j = q + 2 ∨ j = nm) h6 h1 ∧ h1.get (q + 2) = some (.cells [.int .i64 (T i)] 0) ∧ ∃ f', MapM h1 nm (rV f') ∧ Memo es N k f')
          (fun _ => False) ?_ ?_ ?_ ?_
          (P := fun _ h' => FrD (fun j => j = L ∨ j = q + 2 ∨ j = nm) h6 h' ∧ h'.get L = some (.loop .ready none (setL [p3, p10, p11] [ptr q, ptr (q + 2), ptr p]) zeT) ∧ h'.get (q + 2) = some (.cells [.int .i64 (SZ es N k a b)] 0) ∧ ∃ f', MapM h' nm (rV f') ∧ Memo es N k f') ?_) ?_
        · rintro i h1 h7 ⟨q1, q2, q3, f', q4, q5⟩ hf
          have := q2.next
          exact ⟨(hf.get _ (by omega) (by omega)).trans q1, ⟨Nat.le_trans q2.next hf.next, fun j hj hd => (hf.get _ (by omega) (by omega)).trans (q2.get _ hj hd)⟩, (hf.get _ (by omega) (by omega)).trans q3, f', q4.fr hf (by omega) (by omega), q5⟩
        · intro h1 h2 h; exact h.elim
        · rintro i w h1 hw ⟨q1, q2, q3, f', q4, q5⟩ hn
          rw [List.getElem?_map] at hw
          obtain ⟨t, ht, rfl⟩ := Option.map_eq_some_iff.1 hw
          refine size_round es N k m st lb sl nm n ih x t (hok.can hv hx (List.mem_of_getElem? ht)) L q (q + 2) p h1 (hrow6.frD q2 (fun b o n c e => by have := hsl6 b o n c e; have := hslnm b o n c e; omega)) (fun b o n c e => by have := hsl6 b o n c e; omega) (hm6.fr q2 (by omega) (by omega)) (by omega) (by omega) q1 ((q2.get _ (by omega) (by omega)).trans g06) ((q2.get _ (by omega) (by omega)).trans gx6) (T i) (hT0 i).1 (hT0 i).2 q3 (by omega) (by omega) (by omega) (by omega) (by omega) (by omega) (by omega) f' q4 (by omega) (by omega) q5 (by omega) ?_
          intro h' f'' r1 r2 r3 r4 r5
          rw [hT1 i t ht] at r3
          exact ⟨r1, .inl ⟨rfl, r2, q2.trans r1, r3, f'', r4, r5⟩⟩
        · exact ⟨gL6, .refl _ _, by rw [g26, hT]; rfl, f, hnm6, hmf⟩
        · rintro h' hf (⟨q1, q2, q3, q4⟩ | h)
          · refine ⟨hf, q1, ?_, q4⟩
            rw [q3, hT]; dsimp only
            rw [List.take_length]
            unfold SZ
            rw [TF_can hv hx]
            simp only [sz, szs]
            rw [show ((2 : Int) + (szs ((tos es b x.2.2).map fun t => TF es N k x.2.1 t) : Nat) : Int) = ((1 + (1 + szs ((tos es b x.2.2).map fun t => TF es N k x.2.1 t) + 0) : Nat) : Int) by omega]
          · exact h.elim
        · rintro u h7 ⟨hf, gL7, g27, f', hm7, hmf7⟩
          have hfn := hf.next
          rw [zcH gL7]
          refine fin0 _ f' ⟨by simp; omega, fun i hi hd => ?_⟩ (hm7.fr (D := fun j => j = L) ((FrD.refl (fun j => j = L) _).put (.inr rfl) _) (by omega) (by omega)) hmf7 (by rw [zm (by omega)]; exact g27)
          rw [zm (by omega), hf.get _ (by omega) (by omega), hf6.get _ (by omega) (by omega), hf3.get _ (by omega)]; exact hf2'.get _ hi
end Go.Ideal.J
namespace Go.Ideal.J
open Go Go.Ideal
def isSt (st lb : Int) (es : List Ed) (a : Int) : Bool := chk st lb es && decide (0 ≤ a) && decide (a < st)
theorem zgi (st lb : Int) (es : List Ed) (sl : Value) (a : Int) (h : H) (hrow : Row h 3 sl (es.map edL)) : ∃ h', zbv F (fnV n_E) [gV st lb sl, .int .i64 a] h = some (.bool (isSt st lb es a), h') ∧ Fr h h' := by
  have hv := hrow.slvM
  obtain ⟨h2, eh2⟩ : ∃ h2, h2 = h.new (.cells (gL st lb sl) 0) := ⟨_, rfl⟩
  have hf2 : Fr h h2 := by rw [eh2]; exact .new _ _
  have g0 : h2.get h.next = some (.cells (gL st lb sl) 0) := by rw [eh2]; simp
  have hn2 : h2.next = h.next + 1 := by rw [eh2]; simp
  obtain ⟨h3, e3, hf3⟩ := zcz st lb sl es h2 (hrow.fr hf2)
  have g03 := (hf3.get _ (by omega)).trans g0
  refine ⟨h3, zbg F_E 2 (by decide) ?_, hf2.trans hf3⟩
  rw [s_E]
  unfold isSt
  cases hc : chk st lb es with
  | false =>
    rw [hc] at e3
    simp (disch := first | omega | (simp only [za, zb]; done) | (simp only [za, zb]; omega)) [↓zp, ↓zk, ↓zh, hv.clean, hv.take, ← eh2, g0, e3, erk]
  | true =>
    rw [hc] at e3
    by_cases c1 : 0 ≤ a
    · by_cases c2 : a < st
      · simp (disch := first | omega | (simp only [za, zb]; done) | (simp only [za, zb]; omega)) [↓zp, ↓zk, ↓zh, hv.clean, hv.take, ← eh2, g0, e3, erk, g03, c1, c2]
      · simp (disch := first | omega | (simp only [za, zb]; done) | (simp only [za, zb]; omega)) [↓zp, ↓zk, ↓zh, hv.clean, hv.take, ← eh2, g0, e3, erk, g03, c1, c2]
    · simp (disch := first | omega | (simp only [za, zb]; done) | (simp only [za, zb]; omega)) [↓zp, ↓zk, ↓zh, hv.clean, hv.take, ← eh2, g0, e3, erk, g03, c1]
def zF : Fml := .mk 0 0 []
theorem FV.zero (B : Nat → Prop) (h : H) : FV B h zF (fmL 0 0 (.slice none 0 0)) := by
  unfold zF FV
  exact ⟨_, [], rfl, .nil, (fun b o n c e => by cases e), by simp, by unfold FVs; rfl⟩
def TA (st lb : Int) (es : List Ed) (a b : Int) (f : Fml) (e : Int) : Prop :=
  ((isSt st lb es a && isSt st lb es b) = false ∧ f = zF ∧ e = 2) ∨
  ((isSt st lb es a && isSt st lb es b) = true ∧ ∃ k, fnd (rN es st.toNat k) es ((k : Int) + 1) st.toNat = [] ∧
    ((rN es st.toNat k a b = none ∧ f = zF ∧ e = 5) ∨ ∃ v, rN es st.toNat k a b = some v ∧
      ((3000 < sz (TF es st.toNat k a b) ∧ f = zF ∧ e = 3) ∨ (sz (TF es st.toNat k a b) ≤ 3000 ∧ f = TF es st.toNat k a b ∧ e = 0))))
theorem jTells_ok (st lb : Int) (es : List Ed) (sl : Value) (a b : Int) (h : H) (hrow : Row h 3 sl (es.map edL)) : Ret F (fnV n_I) [gV st lb sl, .int .i64 a, .int .i64 b] h fun v h' => Fr h h' ∧ ∃ r f e, v = zdg (.agg ⟨r⟩) (.int .i64 e) ∧ FV (fun _ => True) h' f r ∧ TA st lb es a b f e := by
  refine Ret.fn F_I 3 (by decide) ?_
  obtain ⟨P, hPd⟩ : ∃ P : Value → H → Prop, P = fun v h' => Fr h h' ∧ ∃ r f e, v = zdg (.agg ⟨r⟩) (.int .i64 e) ∧ FV (fun _ => True) h' f r ∧ TA st lb es a b f e := ⟨_, rfl⟩
  rw [← hPd]
  rw [s_I]
  have hsv := hrow.slvM
  obtain ⟨q, eq⟩ : ∃ q, q = h.next := ⟨_, rfl⟩
  obtain ⟨h2, eh2⟩ : ∃ h2, h2 = (h.new (.cells (gL st lb sl) 0)).new (.cells (fmL 0 0 (.slice none 0 0)) 0) := ⟨_, rfl⟩
  have hf2 : Fr h h2 := by rw [eh2]; exact (Fr.new _ _).newR _
  have hn2 : h2.next = q + 2 := by rw [eh2, eq]; simp
  have g0 : h2.get q = some (.cells (gL st lb sl) 0) := by rw [eh2, eq]; simp (disch := omega)
  have g1 : h2.get (q + 1) = some (.cells (fmL 0 0 (.slice none 0 0)) 0) := by rw [eh2, eq]; simp (disch := omega)
  obtain ⟨h3, e3, hf3⟩ := zgi st lb es sl a h2 (hrow.fr hf2)
  have hfn3 := hf3.next
  have g03 := (hf3.get _ (by omega)).trans g0
  have g13 := (hf3.get _ (by omega)).trans g1
  have zero : ∀ (h' : H) (e : Int), Fr h2 h' → TA st lb es a b zF e → h'.get (q + 1) = some (.cells (fmL 0 0 (.slice none 0 0)) 0) → OkV (some (Out.val (zdg (.agg ⟨fmL 0 0 (.slice none 0 0)⟩) (.int .i64 e)) (h'.put (q + 1) (.cells (fmL 0 0 (.slice none 0 0)) 0)))) P := by
    intro h' e hf' hT hg
    refine OkV.val ?_
    rw [hPd]
    refine ⟨⟨by simp; have := hf2.next; have := hf'.next; omega, fun i hi => ?_⟩, _, zF, e, rfl, FV.zero _ _, hT⟩
    rw [zm (by omega), hf'.get _ (by omega)]; exact hf2.get _ hi
  cases hca : isSt st lb es a with
  | false =>
    rw [hca] at e3
    refine OkV.eq (zero h3 2 hf3 (.inl ⟨by rw [hca]; rfl, rfl, rfl⟩) g13) ?_
    simp (disch := first | omega | (simp only [za, zb]; done) | (simp only [za, zb]; omega)) [↓zp, ↓zk, ↓zh, hsv.clean, hsv.take, ← eq, ← eh2, g0, g1, e3, g03, g13, zq]
  | true =>
    rw [hca] at e3
    obtain ⟨h4, e4, hf4⟩ := zgi st lb es sl b h3 ((hrow.fr hf2).fr hf3)
    have hfn4 := hf4.next
    have g04 := (hf4.get _ (by omega)).trans g03
    have g14 := (hf4.get _ (by omega)).trans g13
    cases hcb : isSt st lb es b with
    | false =>
      rw [hcb] at e4
      refine OkV.eq (zero h4 2 (hf3.trans hf4) (.inl ⟨by rw [hca, hcb]; rfl, rfl, rfl⟩) g14) ?_
      simp (disch := first | omega | (simp only [za, zb]; done) | (simp only [za, zb]; omega)) [↓zp, ↓zk, ↓zh, hsv.clean, hsv.take, ← eq, ← eh2, g0, g1, e3, g03, g13, e4, g04, g14, zq]
    | true =>
      rw [hcb] at e4
      have hab : (isSt st lb es a && isSt st lb es b) = true := by rw [hca, hcb]; rfl
      have hca' := hca
      have hcb' := hcb
      unfold isSt at hca' hcb'
      simp only [Bool.and_eq_true, decide_eq_true_eq] at hca' hcb'
      have fm := (zgp st lb es).1 hca'.1.1
      obtain ⟨N, rfl⟩ := Int.eq_ofNat_of_zero_le (show 0 ≤ st by have := fm.st1; omega)
      have hN := fm.st2
      have hlen := fm.len
      have hrow4 := ((hrow.fr hf2).fr hf3).fr hf4
      obtain ⟨v5, h5, e5, k, m, rfl, hf5, hm1, hm2, hm5, hend⟩ : ∃ v h', zbv F (fnV n_b) [gV (N : Int) lb sl] h4 = some (v, h') ∧ ∃ k m, v = .map (some m) ∧ Fr h4 h' ∧ h4.next ≤ m ∧ m < h'.next ∧ MapM h' m (rV (rN es N k)) ∧ fnd (rN es N k) es ((k : Int) + 1) N = [] :=
        apart_ok es fm.sortedF (by omega) N (by omega) lb sl h4 hrow4 (P := fun v h' => ∃ k m, v = .map (some m) ∧ Fr h4 h' ∧ h4.next ≤ m ∧ m < h'.next ∧ MapM h' m (rV (rN es N k)) ∧ fnd (rN es N k) es ((k : Int) + 1) N = []) (fun h' m k q1 q2 q3 q4 q5 => ⟨k, m, rfl, q1, q2, q3, q4, q5⟩)
      have hfn5 := hf5.next
      have g05 := (hf5.get _ (by omega)).trans g04
      have g15 := (hf5.get _ (by omega)).trans g14
      obtain ⟨h6, eh6⟩ : ∃ h6, h6 = (h5.new (.map [] 0)).new (.cells (tlL m (N : Int) lb sl h5.next) 0) := ⟨_, rfl⟩
      have hf6 : Fr h5 h6 := by rw [eh6]; exact (Fr.new _ _).newR _
      have hn6 : h6.next = h5.next + 2 := by rw [eh6]; simp
      have g06 := (hf6.get _ (by omega)).trans g05
      have g16 := (hf6.get _ (by omega)).trans g15
      have gt6 : h6.get (h5.next + 1) = some (.cells (tlL m (N : Int) lb sl h5.next) 0) := by rw [eh6]; simp
      have hm6 := hm5.fr (D := fun _ => False) hf6.D hm2 (by simp)
      have hnm6 : MapM h6 h5.next (rV fun _ _ => none) := ⟨[], 0, by rw [eh6]; simp (disch := omega), .nil⟩
      have hlk := zhS hm6 (.int .i64 0) a b
      have hrow6 := (hrow4.fr hf5).fr hf6
      have hsl6 : ∀ b o n c, sl = .slice (some ⟨b, o, none⟩) n c → b < h.next := fun b o n c e => hrow.lt e
      have hfr26 : Fr h2 h6 := ((hf3.trans hf4).trans hf5).trans hf6
      have hst : ((N : Int)).toNat = N := by simp
      cases hr : rN es N k a b with
      | none =>
        simp only [rV, hr, Option.map_none, Option.getD_none, Option.isSome_none] at hlk
        refine OkV.eq (zero h6 5 hfr26 (.inr ⟨hab, k, by rw [hst]; exact hend, .inl ⟨by rw [hst]; exact hr, rfl, rfl⟩⟩) g16) ?_
        simp (disch := first | omega | (simp only [za, zb]; done) | (simp only [za, zb]; omega)) [↓zp, ↓zk, ↓zh, hsv.map2, hsv.cell, hsv.take1, hsv.clean, hsv.take, hsv.eqc, ← eq, ← eh2, g0, g1, e3, g03, g13, e4, g04, g14, zq, e5, g05, g15, ← eh6, gt6, hlk, g16]
      | some v =>
        simp only [rV, hr, Option.map_some, Option.getD_some, Option.isSome_some] at hlk
        obtain ⟨h7, f', e7, hf7, hm7, hmf7⟩ := size_ok es fm.sortedF (by omega) N k m (by omega) (N : Int) lb sl h5.next (fun b o n c e => by have := hsl6 b o n c e; have := hf2.next; omega) (by omega) (2 * k + 1) a b h6 _ hrow6 hm6 (by omega) hnm6 (by omega) (fun a b u h => by cases h) (Ok.top hr)
        have hfn7 := hf7.next
        have g17 := (hf7.get _ (by omega) (by omega)).trans g16
        have gt7 := (hf7.get _ (by omega) (by omega)).trans gt6
        have hfr27 : Fr h2 h7 := hfr26.transD hf7 (fun i hi hd => by omega)
        by_cases c : 3000 < sz (TF es N k a b)
        · have hSZ : SZ es N k a b = 3001 := by unfold SZ; omega
          rw [hSZ] at e7
          refine OkV.eq (zero h7 3 hfr27 (.inr ⟨hab, k, by rw [hst]; exact hend, .inr ⟨v, by rw [hst]; exact hr, .inl ⟨by rw [hst]; exact c, rfl, rfl⟩⟩⟩) g17) ?_
          simp (disch := first | omega | (simp only [za, zb]; done) | (simp only [za, zb]; omega)) [↓zp, ↓zk, ↓zh, hsv.map2, hsv.cell, hsv.take1, hsv.clean, hsv.take, hsv.eqc, ← eq, ← eh2, g0, g1, e3, g03, g13, e4, g04, g14, zq, e5, g05, g15, ← eh6, gt6, hlk, g16, e7, g17]
        · have hSZ : SZ es N k a b ≤ 3000 := by unfold SZ; omega
          obtain ⟨h8, r, e8, hf8, hfv8⟩ := fml_ok es fm.sortedF (by omega) N k m (by omega) (N : Int) lb sl h5.next (2 * k + 1) a b h7 (hrow6.frD hf7 (fun b o n c e => by have := hsl6 b o n c e; have := hf2.next; omega)) (hm6.fr hf7 (by omega) (by omega)) (by omega) (Ok.top hr)
          have hfn8 := hf8.next
          have g18 := (hf8.get _ (by omega)).trans g17
          obtain ⟨op, lab, bs, nn, cc, er, hr1, hr2, hr3⟩ := hfv8.cells
          refine OkV.eq (OkV.val (v := zdg (.agg ⟨r⟩) (.int .i64 0)) (h := h8.put (q + 1) (.cells r 0)) (by
            rw [hPd]
            refine ⟨⟨by simp; have := hf2.next; have := hfr27.next; omega, fun i hi => ?_⟩, r, TF es N k a b, 0, rfl, ?_, .inr ⟨hab, k, by rw [hst]; exact hend, .inr ⟨v, by rw [hst]; exact hr, .inr ⟨by rw [hst]; omega, by rw [hst], rfl⟩⟩⟩⟩
            · have := hf2.next; have := hfr27.next
              rw [zm (by omega), hf8.get _ (by omega), hfr27.get _ (by omega)]; exact hf2.get _ hi
            · have := hfr27.next
              exact FV.mono (fun _ _ _ => trivial) (FV.frD (D := fun j => j = q + 1) ((FrD.refl (fun j => j = q + 1) _).put (.inr rfl) _) (fun b hb h => by omega) hfv8))) ?_
          subst er
          simp (disch := first | omega | (simp only [za, zb]; done) | (simp only [za, zb]; omega)) [↓zp, ↓zk, ↓zh, hsv.map2, hsv.cell, hsv.take1, hsv.clean, hsv.take, hsv.eqc, ← eq, ← eh2, g0, g1, e3, g03, g13, e4, g04, g14, zq, e5, g05, g15, ← eh6, gt6, hlk, g16, e7, gt7, hSZ, e8, g18]
end Go.Ideal.J
namespace Go.Ideal.J
open Go Go.Ideal
theorem szs_at : ∀ {fs : List Fml} {i : Nat} {f : Fml}, fs[i]? = some f → sz f ≤ szs fs
  | [], i, f, h => by simp at h
  | g :: fs, 0, f, h => by simp at h; subst h; simp [szs]
  | g :: fs, i + 1, f, h => by have := szs_at (by simpa using h : fs[i]? = some f); simp only [szs]; omega
end Go.Ideal.J
namespace Go.Ideal.J
open Go Go.Ideal
theorem zbQ (b o : Nat) (s : Option Nat) (h : H) : vNil (.pointer (some ⟨b, o, s⟩)) h = some (.pointer (some ⟨b, o, s⟩), h) := id rfl
end Go.Ideal.J
namespace Go.Ideal.J
open Go Go.Ideal
end Go.Ideal.J
namespace Go.Ideal.J
open Go Go.Ideal
end Go.Ideal.J
namespace Go.Ideal.J
open Go Go.Ideal
end Go.Ideal.J
namespace Go.Ideal.J
open Go Go.Ideal
mutual
def FW (h : H) : Fml → List Value → Prop
  | .mk op lab ks, r => ∃ slv rows, r = fmL op lab slv ∧ Row h 3 slv rows ∧ FWs h ks rows
def FWs (h : H) : List Fml → List (List Value) → Prop
  | [], rows => rows = []
  | k :: ks, rows => ∃ r rs, rows = r :: rs ∧ FW h k r ∧ FWs h ks rs
end
mutual
theorem FW.fr {h h' : H} (hf' : Fr h h') : ∀ {f : Fml} {r : List Value}, FW h f r → FW h' f r
  | .mk op lab ks, r, hf => by
    unfold FW at hf ⊢
    obtain ⟨slv, rows, h1, h2, h3⟩ := hf
    exact ⟨slv, rows, h1, h2.fr hf', FWs.fr hf' h3⟩
theorem FWs.fr {h h' : H} (hf' : Fr h h') : ∀ {fs : List Fml} {rs : List (List Value)}, FWs h fs rs → FWs h' fs rs
  | [], rs, hf => by unfold FWs at hf ⊢; exact hf
  | f :: fs, rs, hf => by
    unfold FWs at hf ⊢
    obtain ⟨r, rs', h1, h2, h3⟩ := hf
    exact ⟨r, rs', h1, FW.fr hf' h2, FWs.fr hf' h3⟩
end
mutual
theorem FV.w {B : Nat → Prop} {h : H} : ∀ {f : Fml} {r : List Value}, FV B h f r → FW h f r
  | .mk op lab ks, r, hf => by
    unfold FV at hf; unfold FW
    obtain ⟨slv, rows, h1, h2, h3, h4, h5⟩ := hf
    exact ⟨slv, rows, h1, h2, FVs.w h5⟩
theorem FVs.w {B : Nat → Prop} {h : H} : ∀ {fs : List Fml} {rs : List (List Value)}, FVs B h fs rs → FWs h fs rs
  | [], rs, hf => by unfold FVs at hf; unfold FWs; exact hf
  | f :: fs, rs, hf => by
    unfold FVs at hf; unfold FWs
    obtain ⟨r, rs', h1, h2, h3⟩ := hf
    exact ⟨r, rs', h1, FV.w h2, FVs.w h3⟩
end
theorem FWs.len {h : H} : ∀ {fs : List Fml} {rs : List (List Value)}, FWs h fs rs → rs.length = fs.length
  | [], rs, hf => by unfold FWs at hf; rw [hf]; rfl
  | f :: fs, rs, hf => by
    unfold FWs at hf
    obtain ⟨r, rs', rfl, h2, h3⟩ := hf
    rw [List.length_cons, List.length_cons, FWs.len h3]
theorem FWs.at {h : H} : ∀ {fs : List Fml} {rs : List (List Value)}, FWs h fs rs → ∀ {i : Nat} {f : Fml}, fs[i]? = some f → ∃ r, rs[i]? = some r ∧ FW h f r
  | [], rs, hf, i, f, hi => by simp at hi
  | g :: fs, rs, hf, i, f, hi => by
    unfold FWs at hf
    obtain ⟨r, rs', rfl, h2, h3⟩ := hf
    cases i with
    | zero => simp at hi; subst hi; exact ⟨r, rfl, h2⟩
    | succ i => exact FWs.at h3 (by simpa using hi)
theorem FW.cells {h : H} {f : Fml} {r : List Value} (hf : FW h f r) : ∃ op lab bs n c, r = fmL op lab (.slice bs n c) := by
  cases f with
  | mk op lab ks =>
    unfold FW at hf
    obtain ⟨slv, rows, rfl, h2, h3⟩ := hf
    obtain ⟨b, c, rfl⟩ := h2.len
    exact ⟨op, lab, b, _, c, rfl⟩
def opOk (lb op lab : Int) (n : Nat) : Bool := (decide (op = 1) && decide (n = 0) && decide (lab = 0)) || (decide (op = 2) && decide (n = 1) && decide (lab = 0)) || (decide (op = 3) && decide (lab = 0)) || (decide (op = 4) && decide (n = 1) && decide (0 ≤ lab) && decide (lab < lb))
mutual
def fmd (lb : Int) : Fml → Int → Bool × Int
  | .mk op lab ks, L => if L - 1 < 0 then (false, L - 1) else if opOk lb op lab ks.length then fmds lb ks (L - 1) else (false, L - 1)
def fmds (lb : Int) : List Fml → Int → Bool × Int
  | [], L => (true, L)
  | k :: ks, L => if (fmd lb k L).1 then fmds lb ks (fmd lb k L).2 else (false, (fmd lb k L).2)
end
mutual
theorem fmd_lt (lb : Int) : ∀ (f : Fml) (L : Int), (fmd lb f L).2 ≤ L - 1 ∧ ((fmd lb f L).1 = true → 0 ≤ (fmd lb f L).2)
  | .mk op lab ks, L => by
    unfold fmd
    split
    · exact ⟨Int.le_refl _, by simp⟩
    · split
      · have := fmds_le lb ks (L - 1)
        exact ⟨this.1, this.2 (by omega)⟩
      · exact ⟨Int.le_refl _, by simp⟩
theorem fmds_le (lb : Int) : ∀ (fs : List Fml) (L : Int), (fmds lb fs L).2 ≤ L ∧ (0 ≤ L → (fmds lb fs L).1 = true → 0 ≤ (fmds lb fs L).2)
  | [], L => by unfold fmds; exact ⟨Int.le_refl _, fun h _ => h⟩
  | f :: fs, L => by
    unfold fmds
    have h1 := fmd_lt lb f L
    split
    · rename_i c
      have h2 := fmds_le lb fs (fmd lb f L).2
      exact ⟨by omega, fun _ => h2.2 (h1.2 c)⟩
    · exact ⟨by omega, by simp⟩
end
end Go.Ideal.J
namespace Go.Ideal.J
open Go Go.Ideal
theorem jformed_ok (es : List Ed) (st lb : Int) (hlb : 1 ≤ lb) (sl : Value) (pl : Nat) (h0 : H) (hrow : Row h0 3 sl (es.map edL)) (hpl : h0.next ≤ pl) :
    ∀ (n : Nat) (f : Fml) (r : List Value) (h : H) (L : Int), FW h0 f r → Fr h0 h → pl < h.next → h.get pl = some (.cells [.int .i64 L] 0) → 0 ≤ L → L < n → L ≤ 3000 →
      ∃ h', zbv F (fnV n_o) [gV st lb sl, .agg ⟨r⟩, ptr pl] h = some (.bool (fmd lb f L).1, h') ∧ FrD (fun j => j = pl) h h' ∧ h'.get pl = some (.cells [.int .i64 (fmd lb f L).2] 0) := by
  intro n
  induction n with
  | zero => intro f r h L _ _ _ _ h1 h2; omega
  | succ n ih =>
    intro f r h L hfw hf0 hpn gpl hL0 hLn hL3
    cases f with
    | mk op lab ks =>
    unfold FW at hfw
    obtain ⟨slv, rows, rfl, hkr, hks⟩ := hfw
    have hkl := FWs.len hks
    have hkv := hkr.slv
    rw [hkl] at hkv
    have hsv := hrow.slvM
    suffices hr : Ret F (fnV n_o) [gV st lb sl, .agg ⟨fmL op lab slv⟩, ptr pl] h fun v h' => v = .bool (fmd lb (.mk op lab ks) L).1 ∧ FrD (fun j => j = pl) h h' ∧ h'.get pl = some (.cells [.int .i64 (fmd lb (.mk op lab ks) L).2] 0) by
      obtain ⟨v, h', e, rfl, q1, q2⟩ := hr; exact ⟨h', e, q1, q2⟩
    obtain ⟨P, hPd⟩ : ∃ P : Value → H → Prop, P = fun v h' => v = .bool (fmd lb (.mk op lab ks) L).1 ∧ FrD (fun j => j = pl) h h' ∧ h'.get pl = some (.cells [.int .i64 (fmd lb (.mk op lab ks) L).2] 0) := ⟨_, rfl⟩
    rw [← hPd]
    refine Ret.fn F_o 3 (by decide) ?_
    rw [s_o]
    have hfn0 := hf0.next
    obtain ⟨q, eq⟩ : ∃ q, q = h.next := ⟨_, rfl⟩
    obtain ⟨h1, eh1⟩ : ∃ h1, h1 = (h.new (.cells (gL st lb sl) 0)).new (.cells (fmL op lab slv) 0) := ⟨_, rfl⟩
    have hf1 : Fr h h1 := by rw [eh1]; exact (Fr.new _ _).newR _
    have hn1 : h1.next = q + 2 := by rw [eh1, eq]; simp
    have g01 : h1.get q = some (.cells (gL st lb sl) 0) := by rw [eh1, eq]; simp (disch := omega)
    have g11 : h1.get (q + 1) = some (.cells (fmL op lab slv) 0) := by rw [eh1, eq]; simp (disch := omega)
    have gpl1 := (hf1.get _ hpn).trans gpl
    obtain ⟨h2, eh2⟩ : ∃ h2, h2 = h1.put pl (.cells [.int .i64 (L - 1)] 0) := ⟨_, rfl⟩
    have hf2 : FrD (fun j => j = pl) h1 h2 := by rw [eh2]; exact (FrD.refl (fun j => j = pl) _).put (.inr rfl) _
    have hn2 : h2.next = h1.next := by rw [eh2]; simp
    have g0 := (hf2.get _ (by omega) (by omega)).trans g01
    have g1 := (hf2.get _ (by omega) (by omega)).trans g11
    have gpl2 : h2.get pl = some (.cells [.int .i64 (L - 1)] 0) := by rw [eh2, zx rfl]
    have hfh2 : FrD (fun j => j = pl) h h2 := hf1.D.trans hf2
    by_cases cL : L - 1 < 0
    · refine OkV.eq (OkV.val (v := .bool false) (h := h2) (by
        rw [hPd]; unfold fmd; rw [if_pos cL]; exact ⟨rfl, hfh2, gpl2⟩)) ?_
      simp (disch := first | omega | (simp only [za, zb]; done) | (simp only [za, zb]; omega)) [↓zp, ↓zk, ↓zh, hsv.clean, hsv.take, hkv.clean, ← eq, ← eh1, zbQ, gpl1, z7, ← eh2, gpl2, cL]
    · have bad : opOk lb op lab ks.length = false → OkV (some (Out.val (.bool false) h2)) P := fun ho => OkV.val (by
        rw [hPd]; unfold fmd; rw [if_neg cL, ho]; exact ⟨rfl, hfh2, gpl2⟩)
      have kids : opOk lb op lab ks.length = true → OkV (sh (rI F) c_o_3 (K_o_3 (rI F)) (setL [p2, p3, p59, p60, p61] [ptr pl, ptr q, slv, .int .i64 (ks.length : Int), .int .i64 0]) h2) P := by
        intro ho
        have hres : fmd lb (.mk op lab ks) L = fmds lb ks (L - 1) := by
          conv => lhs; unfold fmd
          rw [if_neg cL, if_pos ho]
        have loop : ∀ (m i : Nat) (h3 : H) (L' : Int), i + m = ks.length → FrD (fun j => j = pl) h2 h3 → h3.get pl = some (.cells [.int .i64 L'] 0) → 0 ≤ L' → i + L' ≤ 3000 → L' ≤ L - 1 → fmds lb ks (L - 1) = fmds lb (ks.drop i) L' →
            OkV (sh (rI F) c_o_3 (K_o_3 (rI F)) (setL [p2, p3, p59, p60, p61] [ptr pl, ptr q, slv, .int .i64 (ks.length : Int), .int .i64 (i : Int)]) h3) P := by
          intro m
          induction m with
          | zero =>
            intro i h3 L' hi hf gp hL' hiL hLL hd
            have e : i = ks.length := by omega
            subst e
            rw [List.drop_length] at hd
            refine OkV.eq (OkV.val (v := .bool true) (h := h3) (by
              rw [hPd, hres, hd]; unfold fmds; exact ⟨rfl, hfh2.trans hf, gp⟩)) ?_
            rw [s_o_3]
            simp (disch := first | omega | (simp only [za, zb]; done) | (simp only [za, zb]; omega)) [↓zp, ↓zk, ↓zh, s_o_2]
          | succ m ihm =>
            intro i h3 L' hi hf gp hL' hiL hLL hd
            have hil : i < ks.length := by omega
            have hfn := hf.next
            have hki : ks[i]? = some ks[i] := List.getElem?_eq_getElem hil
            obtain ⟨ra, ea, fa⟩ := FWs.at hks hki
            have hdr : ks.drop i = ks[i] :: ks.drop (i + 1) := List.drop_eq_getElem_cons hil
            rw [hdr] at hd
            have hF03 : Fr h0 h3 := ⟨by omega, fun j hj => by
              rw [hf.get _ (by omega) (by omega), hfh2.get _ (by omega) (by omega)]; exact hf0.get _ hj⟩
            obtain ⟨x1, o1, cs1, u1, hv1, _, hg1, ht1⟩ := (hkr.fr hF03).index ea
            have g03 := (hf.get _ (by omega) (by omega)).trans g0
            obtain ⟨op', lab', bs', nn', cc', era⟩ := fa.cells
            obtain ⟨h4, eh4⟩ : ∃ h4, h4 = h3.new (.cells ra 0) := ⟨_, rfl⟩
            have hf4 : Fr h3 h4 := by rw [eh4]; exact .new _ _
            have hn4 : h4.next = h3.next + 1 := by rw [eh4]; simp
            have g04 := (hf4.get _ (by omega)).trans g03
            have gr4 : h4.get h3.next = some (.cells ra 0) := by rw [eh4]; simp
            have gp4 := (hf4.get _ (by omega)).trans gp
            obtain ⟨h5, e5, hf5, gp5⟩ := ih ks[i] ra h4 L' fa (hF03.trans hf4) (by omega) gp4 hL' (by omega) (by omega)
            have hlt := fmd_lt lb ks[i] L'
            rw [s_o_3]
            cases hc : (fmd lb ks[i] L').1 with
            | false =>
              rw [hc] at e5
              refine OkV.eq (OkV.val (v := .bool false) (h := h5) (by
                rw [hPd, hres, hd]; unfold fmds; rw [hc]
                exact ⟨rfl, ((hfh2.trans hf).trans hf4.D).trans hf5, gp5⟩)) ?_
              subst era
              simp (disch := first | omega | (simp only [za, zb]; done) | (simp only [za, zb]; omega)) [↓zp, ↓zk, ↓zh, hil, hv1, hg1, ht1, ← eh4, g04, hsv.clean, hsv.take, gr4, e5]
            | true =>
              rw [hc] at e5
              have := ihm (i + 1) h5 (fmd lb ks[i] L').2 (by omega) ((hf.trans hf4.D).trans hf5) gp5 (hlt.2 hc) (by omega) (by omega) (by
                rw [hd]; conv => lhs; unfold fmds
                rw [hc]; rfl)
              refine OkV.eq (this.lp (l_o_3 F _ _ _ _ _ _)) ?_
              subst era
              simp (disch := first | omega | (simp only [za, zb]; done) | (simp only [za, zb]; omega)) [↓zp, ↓zk, ↓zh, hil, hv1, hg1, ht1, ← eh4, g04, hsv.clean, hsv.take, gr4, e5, zW]
        exact loop ks.length 0 h2 (L - 1) (by omega) (.refl _ _) gpl2 (by omega) (by omega) (Int.le_refl _) (by rw [List.drop_zero])
      have kidsL := fun ho => (kids ho).lp (l_o_3 F _ _ _ _ _ _)
      have cn : ∀ m : Nat, ((ks.length : Int) = (m : Int)) ↔ ks.length = m := fun m => by omega
      by_cases ho : opOk lb op lab ks.length = true
      · refine OkV.eq (kidsL ho) ?_
        unfold opOk at ho
        simp only [Bool.or_eq_true, Bool.and_eq_true, decide_eq_true_eq] at ho
        rcases ho with ((⟨⟨rfl, hn⟩, rfl⟩ | ⟨⟨rfl, hn⟩, rfl⟩) | ⟨rfl, rfl⟩) | ⟨⟨⟨rfl, hn⟩, hl1⟩, hl2⟩
        · simp (disch := first | omega | (simp only [za, zb]; done) | (simp only [za, zb]; omega)) [↓zp, ↓zk, ↓zh, hsv.clean, hsv.take, hkv.clean, hkv.one, hkv.take, hkv.len, ← eq, ← eh1, zbQ, gpl1, z7, ← eh2, gpl2, cL, g0, g1, zfE, zfD, hn, hlb]
        · simp (disch := first | omega | (simp only [za, zb]; done) | (simp only [za, zb]; omega)) [↓zp, ↓zk, ↓zh, hsv.clean, hsv.take, hkv.clean, hkv.one, hkv.take, hkv.len, ← eq, ← eh1, zbQ, gpl1, z7, ← eh2, gpl2, cL, g0, g1, zfE, zfD, hn, hlb]
        · simp (disch := first | omega | (simp only [za, zb]; done) | (simp only [za, zb]; omega)) [↓zp, ↓zk, ↓zh, hsv.clean, hsv.take, hkv.clean, hkv.one, hkv.take, hkv.len, ← eq, ← eh1, zbQ, gpl1, z7, ← eh2, gpl2, cL, g0, g1, zfE, zfD, hlb]
        · by_cases hl0 : lab = 0
          · subst hl0
            simp (disch := first | omega | (simp only [za, zb]; done) | (simp only [za, zb]; omega)) [↓zp, ↓zk, ↓zh, hsv.clean, hsv.take, hkv.clean, hkv.one, hkv.take, hkv.len, ← eq, ← eh1, zbQ, gpl1, z7, ← eh2, gpl2, cL, g0, g1, zfE, zfD, hn, hl2]
          · simp (disch := first | omega | (simp only [za, zb]; done) | (simp only [za, zb]; omega)) [↓zp, ↓zk, ↓zh, hsv.clean, hsv.take, hkv.clean, hkv.one, hkv.take, hkv.len, ← eq, ← eh1, zbQ, gpl1, z7, ← eh2, gpl2, cL, g0, g1, zfE, zfD, hn, hl1, hl2, hl0]
      · have hb := bad (by rw [Bool.eq_false_iff]; exact ho)
        refine OkV.eq hb ?_
        by_cases c1 : op = 1
        · subst c1
          by_cases hn : ks.length = 0
          · have hl : ¬ lab = 0 := fun e => ho (by simp [opOk, hn, e])
            simp (disch := first | omega | (simp only [za, zb]; done) | (simp only [za, zb]; omega)) [↓zp, ↓zk, ↓zh, hsv.clean, hsv.take, hkv.clean, hkv.one, hkv.take, hkv.len, ← eq, ← eh1, zbQ, gpl1, z7, ← eh2, gpl2, cL, g0, g1, zfE, zfD, hn, hl]
          · have hn' : ¬ ((ks.length : Nat) : Int) = 0 := by omega
            simp (disch := first | omega | (simp only [za, zb]; done) | (simp only [za, zb]; omega)) [↓zp, ↓zk, ↓zh, hsv.clean, hsv.take, hkv.clean, hkv.one, hkv.take, hkv.len, ← eq, ← eh1, zbQ, gpl1, z7, ← eh2, gpl2, cL, g0, g1, zfE, zfD, hn, hn']
        · by_cases c2 : op = 2
          · subst c2
            by_cases hn : ks.length = 1
            · have hl : ¬ lab = 0 := fun e => ho (by simp [opOk, hn, e])
              simp (disch := first | omega | (simp only [za, zb]; done) | (simp only [za, zb]; omega)) [↓zp, ↓zk, ↓zh, hsv.clean, hsv.take, hkv.clean, hkv.one, hkv.take, hkv.len, ← eq, ← eh1, zbQ, gpl1, z7, ← eh2, gpl2, cL, g0, g1, zfE, zfD, hn, hl]
            · have hn' : ¬ ((ks.length : Nat) : Int) = 1 := by omega
              simp (disch := first | omega | (simp only [za, zb]; done) | (simp only [za, zb]; omega)) [↓zp, ↓zk, ↓zh, hsv.clean, hsv.take, hkv.clean, hkv.one, hkv.take, hkv.len, ← eq, ← eh1, zbQ, gpl1, z7, ← eh2, gpl2, cL, g0, g1, zfE, zfD, hn, hn']
          · by_cases c4 : op = 4
            · subst c4
              by_cases hn : ks.length = 1
              · by_cases hl1 : lab < 0
                · have hl0 : ¬ lab = 0 := by omega
                  simp (disch := first | omega | (simp only [za, zb]; done) | (simp only [za, zb]; omega)) [↓zp, ↓zk, ↓zh, hsv.clean, hsv.take, hkv.clean, hkv.one, hkv.take, hkv.len, ← eq, ← eh1, zbQ, gpl1, z7, ← eh2, gpl2, cL, g0, g1, zfE, zfD, hn, hl1, hl0]
                · have hl2 : lb ≤ lab := by
                    by_cases h : lab < lb
                    · exact absurd (by simp [opOk, hn, h]; omega) ho
                    · omega
                  have hl0 : ¬ lab = 0 := by omega
                  simp (disch := first | omega | (simp only [za, zb]; done) | (simp only [za, zb]; omega)) [↓zp, ↓zk, ↓zh, hsv.clean, hsv.take, hkv.clean, hkv.one, hkv.take, hkv.len, ← eq, ← eh1, zbQ, gpl1, z7, ← eh2, gpl2, cL, g0, g1, zfE, zfD, hn, hl1, hl2, hl0]
              · have hn' : ¬ ((ks.length : Nat) : Int) = 1 := by omega
                simp (disch := first | omega | (simp only [za, zb]; done) | (simp only [za, zb]; omega)) [↓zp, ↓zk, ↓zh, hsv.clean, hsv.take, hkv.clean, hkv.one, hkv.take, hkv.len, ← eq, ← eh1, zbQ, gpl1, z7, ← eh2, gpl2, cL, g0, g1, zfE, zfD, hn, hn']
            · by_cases c3 : op = 3
              · subst c3
                have hl : ¬ lab = 0 := fun e => ho (by simp [opOk, e])
                simp (disch := first | omega | (simp only [za, zb]; done) | (simp only [za, zb]; omega)) [↓zp, ↓zk, ↓zh, hsv.clean, hsv.take, hkv.clean, hkv.one, hkv.take, hkv.len, ← eq, ← eh1, zbQ, gpl1, z7, ← eh2, gpl2, cL, g0, g1, zfE, zfD, hl]
              · simp (disch := first | omega | (simp only [za, zb]; done) | (simp only [za, zb]; omega)) [↓zp, ↓zk, ↓zh, hsv.clean, hsv.take, hkv.clean, hkv.one, hkv.take, hkv.len, ← eq, ← eh1, zbQ, gpl1, z7, ← eh2, gpl2, cL, g0, g1, zfE, zfD, c1, c2, c3, c4]
end Go.Ideal.J
namespace Go.Ideal.J
open Go Go.Ideal
mutual
def hv (es : List Ed) : Fml → Int → Bool
  | .mk op lab ks, s => if op = 2 then !(hvh es ks s) else if op = 4 then es.any fun x => decide (x.1 = s) && (decide (x.2.2 = lab) && hvh es ks x.2.1) else hva es ks s
def hvh (es : List Ed) : List Fml → Int → Bool
  | [], _ => false
  | k :: _, s => hv es k s
def hva (es : List Ed) : List Fml → Int → Bool
  | [], _ => true
  | k :: ks, s => hv es k s && hva es ks s
end
theorem hva_take (es : List Ed) (ks : List Fml) (i : Nat) {k : Fml} (hk : ks[i]? = some k) (s : Int) : hva es (ks.take (i + 1)) s = (hva es (ks.take i) s && hv es k s) := by
  have key : ∀ (l : List Fml) (k : Fml), hva es (l ++ [k]) s = (hva es l s && hv es k s) := by
    intro l k
    induction l with
    | nil => simp [hva]
    | cons a l ih => simp only [List.cons_append, hva, ih, Bool.and_assoc]
  rw [List.take_add_one, hk]
  exact key _ _
def wf (lb : Int) (f : Fml) : Prop := ∃ L, L ≤ 3000 ∧ (fmd lb f L).1 = true
theorem wf_kids {lb : Int} {op lab : Int} {ks : List Fml} (h : wf lb (.mk op lab ks)) : opOk lb op lab ks.length = true ∧ (∀ k ∈ ks, wf lb k) ∧ ks.length ≤ 3000 := by
  obtain ⟨L, hL, h⟩ := h
  unfold fmd at h
  split at h
  · cases h
  · rename_i hLn
    split at h
    · rename_i ho
      refine ⟨ho, ?_⟩
      have key : ∀ (ks : List Fml) (L : Int), L ≤ 3000 → 0 ≤ L → (fmds lb ks L).1 = true → (∀ k ∈ ks, wf lb k) ∧ ks.length ≤ L := by
        intro ks
        induction ks with
        | nil => intro L _ h0 _; exact ⟨(fun k hk => by cases hk), by simpa using h0⟩
        | cons a ks ih =>
          intro L hL h0 h
          unfold fmds at h
          split at h
          · rename_i hc
            have h1 := fmd_lt lb a L
            obtain ⟨h2, h3⟩ := ih _ (by omega) (h1.2 hc) h
            refine ⟨fun k hk => ?_, by rw [List.length_cons]; omega⟩
            rcases List.mem_cons.1 hk with rfl | hk
            · exact ⟨L, hL, hc⟩
            · exact h2 k hk
          · cases h
      obtain ⟨h2, h3⟩ := key ks _ (by omega) (by omega) h
      exact ⟨h2, by omega⟩
    · cases h
structure Tru (h : H) (q N : Nat) (t : Int → Bool) : Prop where
  lt : q < h.next
  ex : ∃ bs : List Bool, h.get q = some (.cells (zbm bs) 0) ∧ bs.length = N ∧ ∀ s : Nat, s < N → bs[s]? = some (t s)
theorem Tru.frD {D : Nat → Prop} {h h' : H} {q N : Nat} {t : Int → Bool} (r : Tru h q N t) (hf : FrD D h h') (hd : ¬ D q) : Tru h' q N t := by
  obtain ⟨bs, h1, h2, h3⟩ := r.ex
  exact ⟨Nat.lt_of_lt_of_le r.lt hf.next, bs, (hf.get _ r.lt hd).trans h1, h2, h3⟩
theorem Tru.fr {h h' : H} {q N : Nat} {t : Int → Bool} (r : Tru h q N t) (hf : Fr h h') : Tru h' q N t := r.frD (D := fun _ => False) hf.D (by simp)
theorem Tru.set {h : H} {q N : Nat} {t : Int → Bool} (r : Tru h q N t) {s : Nat} (hs : s < N) (b : Bool) : ∃ bs : List Bool, h.get q = some (.cells (zbm bs) 0) ∧ bs[s]? = some (t s) ∧ zbb 1 (zbY s (zbm bs)) = some [.bool (t s)] ∧ zN (zbm bs) s [.bool b] = some (zbm (bs.set s b)) ∧ Tru (h.put q (.cells (zbm (bs.set s b)) 0)) q N (fun c => if c = s then b else t c) := by
  obtain ⟨bs, h1, h2, h3⟩ := r.ex
  refine ⟨bs, h1, h3 s hs, zeK (by unfold zbm; rw [List.getElem?_map, h3 s hs]; rfl) rfl, ?_, by simpa using r.lt, bs.set s b, zx rfl, by simpa using h2, fun c hc => ?_⟩
  · rw [writeAt_at (by simp [zbm]; omega)]; simp [zbm, List.map_set]
  · rw [List.getElem?_set]
    by_cases e : s = c
    · subst e; rw [if_pos rfl, if_pos (by omega), if_pos rfl]
    · rw [if_neg e, if_neg (by omega)]; exact h3 c hc
theorem Tru.congr {h : H} {q N : Nat} {t u : Int → Bool} (r : Tru h q N t) (e : ∀ s : Nat, s < N → t s = u s) : Tru h q N u := by
  obtain ⟨bs, h1, h2, h3⟩ := r.ex
  exact ⟨r.lt, bs, h1, h2, fun s hs => by rw [h3 s hs, e s hs]⟩
end Go.Ideal.J
namespace Go.Ideal.J
open Go Go.Ideal
theorem slF_len (q n : Nat) (h : H) : bltV h .len [slF q n] = some (.int .i64 (n : Int), h) := id rfl
theorem jh0 (q N : Nat) (h : H) {P : Value → H → Prop} (hP : P (slF q N) h) : OkV (sh (rI F) zfl (zf8 (rI F)) (setL [p5] [slF q N]) h) P := by
  refine OkV.eq (OkV.val hP) ?_
  rw [s_h_0]
  simp (disch := first | omega | (simp only [za, zb]; done) | (simp only [za, zb]; omega)) [↓zp, ↓zk, ↓zh]
theorem jh1 (N : Nat) (hN : N ≤ 1000) (qo qk : Nat) (hne : qo ≠ qk) (u : Int → Bool) (h0 : H) (hk : Tru h0 qk N u) {P : Value → H → Prop}
    (hP : ∀ h', FrD (fun j => j = qo) h0 h' → Tru h' qo N (fun s => !u s) → P (slF qo N) h') :
    ∀ (m i : Nat) (h : H) (t : Int → Bool), i + m = N → FrD (fun j => j = qo) h0 h → Tru h qo N t → (∀ s : Nat, s < i → t s = !u s) →
    OkV (sh (rI F) c_h_1 (K_h_1 (rI F)) (setL [p5, p65, p66, p67] [slF qo N, slF qk N, .int .i64 (N : Int), .int .i64 (i : Int)]) h) P := by
  intro m
  induction m with
  | zero =>
    intro i h t hi hf ht hs
    have e : i = N := by omega
    subst e
    rw [s_h_1]
    refine OkV.eq (jh0 qo i h (hP h hf (ht.congr hs))) ?_
    simp (disch := first | omega | (simp only [za, zb]; done) | (simp only [za, zb]; omega)) [↓zp, ↓zk, ↓zh]
  | succ m ih =>
    intro i h t hi hf ht hs
    have hiN : i < N := by omega
    obtain ⟨bk, k1, k2, k3⟩ := (hk.frD hf (fun e => hne e.symm)).ex
    have k4 : zbb 1 (zbY i (zbm bk)) = some [.bool (u i)] := zeK (by unfold zbm; rw [List.getElem?_map, k3 i hiN]; rfl) rfl
    obtain ⟨bo, o1, o2, o3, o4, o5⟩ := ht.set hiN (!u i)
    have := ih (i + 1) _ _ (by omega) (hf.put (.inr rfl) _) o5 (fun s hs' => by
      by_cases e : s = i
      · subst e; simp
      · rw [if_neg (by omega)]; exact hs s (by omega))
    rw [s_h_1]
    refine OkV.eq (this.lp (l_h_1 F _ _ _ _ _)) ?_
    simp (disch := first | omega | (simp only [za, zb]; done) | (simp only [za, zb]; omega)) [↓zp, ↓zk, ↓zh, hiN, k1, k4, o1, o4, zW]
theorem jh4 (N : Nat) (hN : N ≤ 1000) (qo pf pg : Nat) (h0 : H) {P : Value → H → Prop}
    (hP : ∀ h', FrD (fun j => j = qo) h0 h' → Tru h' qo N (fun _ => true) → OkV (sh (rI F) c_h_3 (ziI (rI F)) (setL [p2, p3, p5] [ptr pg, ptr pf, slF qo N]) h') P) :
    ∀ (m i : Nat) (h : H) (t : Int → Bool), i + m = N → FrD (fun j => j = qo) h0 h → Tru h qo N t → (∀ s : Nat, s < i → t s = true) →
    OkV (sh (rI F) c_h_4 (K_h_4 (rI F)) (setL [p2, p3, p5, p22, p23] [ptr pg, ptr pf, slF qo N, .int .i64 (N : Int), .int .i64 (i : Int)]) h) P := by
  intro m
  induction m with
  | zero =>
    intro i h t hi hf ht hs
    have e : i = N := by omega
    subst e
    rw [s_h_4]
    refine OkV.eq (hP h hf (ht.congr hs)) ?_
    simp (disch := first | omega | (simp only [za, zb]; done) | (simp only [za, zb]; omega)) [↓zp, ↓zk, ↓zh]
  | succ m ih =>
    intro i h t hi hf ht hs
    have hiN : i < N := by omega
    obtain ⟨bo, o1, o2, o3, o4, o5⟩ := ht.set hiN true
    have := ih (i + 1) _ _ (by omega) (hf.put (.inr rfl) _) o5 (fun s hs' => by
      by_cases e : s = i
      · subst e; simp
      · rw [if_neg (by omega)]; exact hs s (by omega))
    rw [s_h_4]
    refine OkV.eq (this.lp (l_h_4 F _ _ _ _ _ _)) ?_
    simp (disch := first | omega | (simp only [za, zb]; done) | (simp only [za, zb]; omega)) [↓zp, ↓zk, ↓zh, hiN, o1, o4, zW]
theorem jh7 (N : Nat) (hN : N ≤ 1000) (qo qk : Nat) (hne : qo ≠ qk) (u t0 : Int → Bool) (pg : Nat) (slv t32 t33 : Value) (h0 : H) (hk : Tru h0 qk N u) {P : Value → H → Prop}
    (hP : ∀ h', FrD (fun j => j = qo) h0 h' → Tru h' qo N (fun s => t0 s && u s) → OkV (sh (rI F) c_h_6 (K_h_6 (rI F)) (setL [p2, p5, p31, p32, p33] [ptr pg, slF qo N, slv, t32, t33]) h') P) :
    ∀ (m i : Nat) (h : H) (t : Int → Bool), i + m = N → FrD (fun j => j = qo) h0 h → Tru h qo N t → (∀ s : Nat, s < i → t s = (t0 s && u s)) → (∀ s : Nat, i ≤ s → t s = t0 s) →
    OkV (sh (rI F) c_h_7 (K_h_7 (rI F)) (setL [p2, p5, p31, p32, p33, p39, p40, p41] [ptr pg, slF qo N, slv, t32, t33, slF qk N, .int .i64 (N : Int), .int .i64 (i : Int)]) h) P := by
  intro m
  induction m with
  | zero =>
    intro i h t hi hf ht hs hs2
    have e : i = N := by omega
    subst e
    rw [s_h_7]
    refine OkV.eq (hP h hf (ht.congr hs)) ?_
    simp (disch := first | omega | (simp only [za, zb]; done) | (simp only [za, zb]; omega)) [↓zp, ↓zk, ↓zh]
  | succ m ih =>
    intro i h t hi hf ht hs hs2
    have hiN : i < N := by omega
    obtain ⟨bk, k1, k2, k3⟩ := (hk.frD hf (fun e => hne e.symm)).ex
    have k4 : zbb 1 (zbY i (zbm bk)) = some [.bool (u i)] := zeK (by unfold zbm; rw [List.getElem?_map, k3 i hiN]; rfl) rfl
    obtain ⟨bo, o1, o2, o3, o4, o5⟩ := ht.set hiN (t0 i && u i)
    have := ih (i + 1) _ _ (by omega) (hf.put (.inr rfl) _) o5 (fun s hs' => by
      by_cases e : s = i
      · subst e; simp
      · rw [if_neg (by omega)]; exact hs s (by omega)) (fun s hs' => by rw [if_neg (by omega)]; exact hs2 s (by omega))
    have hti := hs2 i (Nat.le_refl _)
    rw [hti] at o3
    rw [s_h_7]
    refine OkV.eq (this.lp (l_h_7 F _ _ _ _ _ _ _ _ _)) ?_
    cases hc : t0 i with
    | true => rw [hc] at o3; rw [hc, Bool.true_and] at o4; simp (disch := first | omega | (simp only [za, zb]; done) | (simp only [za, zb]; omega)) [↓zp, ↓zk, ↓zh, hiN, k1, k4, o1, o3, o4, zW, hc]
    | false => rw [hc] at o3; rw [hc, Bool.false_and] at o4; simp (disch := first | omega | (simp only [za, zb]; done) | (simp only [za, zb]; omega)) [↓zp, ↓zk, ↓zh, hiN, k1, k4, o1, o3, o4, zW, hc]
def canT (es : List Ed) (lab : Int) (u : Int → Bool) (s : Int) : Bool := es.any fun x => decide (x.1 = s) && (decide (x.2.2 = lab) && u x.2.1)
theorem jh2 (es : List Ed) (hsz : es.length ≤ 1000) (N : Nat) (hN : N ≤ 1000) (hin : inB (N : Int) es) (qo qk pf : Nat) (hne : qo ≠ qk) (hpf : pf ≠ qo) (op lab : Int) (kv sl : Value) (u : Int → Bool) (h0 : H) (hk : Tru h0 qk N u) (hrow : Row h0 3 sl (es.map edL)) (hsl : ∀ b o n c, sl = .slice (some ⟨b, o, none⟩) n c → b ≠ qo) (gf : h0.get pf = some (.cells (fmL op lab kv) 0)) (hpl : pf < h0.next) {P : Value → H → Prop}
    (hP : ∀ h', FrD (fun j => j = qo) h0 h' → Tru h' qo N (canT es lab u) → P (slF qo N) h') :
    ∀ (m i : Nat) (h : H) (t : Int → Bool), i + m = es.length → FrD (fun j => j = qo) h0 h → Tru h qo N t → (∀ s : Nat, s < N → t s = canT (es.take i) lab u s) →
    OkV (sh (rI F) c_h_2 (K_h_2 (rI F)) (setL [p3, p5, p8, p87, p88, p89] [ptr pf, slF qo N, slF qk N, sl, .int .i64 (es.length : Int), .int .i64 (i : Int)]) h) P := by
  intro m
  induction m with
  | zero =>
    intro i h t hi hf ht hs
    have e : i = es.length := by omega
    subst e
    rw [List.take_length] at hs
    rw [s_h_2]
    refine OkV.eq (jh0 qo N h (hP h hf (ht.congr hs))) ?_
    simp (disch := first | omega | (simp only [za, zb]; done) | (simp only [za, zb]; omega)) [↓zp, ↓zk, ↓zh]
  | succ m ih =>
    intro i h t hi hf ht hs
    have hil : i < es.length := by omega
    have hfn := hf.next
    have hsv := hrow.slvM
    have htk : es.take (i + 1) = es.take i ++ [es[i]] := by rw [List.take_add_one, List.getElem?_eq_getElem hil]; rfl
    have hxin := hin _ (List.getElem_mem hil)
    obtain ⟨b1, o1, cs1, e1, hv1, hb1, hg1, ht1⟩ := (hrow.frD hf hsl).index (i := i) (r := edL es[i]) (by simp [hil])
    generalize es[i] = x at *
    obtain ⟨x1, x2, x3⟩ := x
    obtain ⟨a, ha⟩ := Int.eq_ofNat_of_zero_le hxin.1
    obtain ⟨b, hb⟩ := Int.eq_ofNat_of_zero_le hxin.2.2.1
    simp only at ha hb hxin
    subst ha; subst hb
    have haN : a < N := by omega
    have hbN : b < N := by omega
    obtain ⟨h1, eh1⟩ : ∃ h1, h1 = h.new (.cells (edL ((a : Int), (b : Int), x3)) 0) := ⟨_, rfl⟩
    have hf1 : Fr h h1 := by rw [eh1]; exact .new _ _
    have hn1 : h1.next = h.next + 1 := by rw [eh1]; simp
    have gx : h1.get h.next = some (.cells (edL ((a : Int), (b : Int), x3)) 0) := by rw [eh1]; simp
    have gf1 := (hf1.get _ (by omega)).trans ((hf.get _ hpl hpf).trans gf)
    obtain ⟨bk, k1, k2, k3⟩ := ((hk.frD hf (fun e => hne e.symm)).fr hf1).ex
    have k4 : zbb 1 (zbY b (zbm bk)) = some [.bool (u b)] := zeK (by unfold zbm; rw [List.getElem?_map, k3 b hbN]; rfl) rfl
    obtain ⟨bo, q1, q2, q3, q4, q5⟩ := (ht.fr hf1).set haN (t a || (decide (x3 = lab) && u b))
    have := ih (i + 1) _ _ (by omega) (((hf.trans hf1.D)).put (.inr rfl) _) q5 (fun s hs' => by
      have := hs s hs'
      unfold canT at this ⊢
      rw [htk, List.any_append]
      simp only [List.any_cons, List.any_nil, Bool.or_false]
      by_cases e : s = a
      · subst e; rw [if_pos rfl, this]; simp
      · rw [if_neg (by omega), this]
        have : ¬ ((a : Int) = (s : Int)) := by omega
        simp [this])
    rw [s_h_2]
    refine OkV.eq (this.lp (l_h_2 F _ _ _ _ _ _ _)) ?_
    cases hc : t a with
    | true =>
      rw [hc] at q3; rw [hc, Bool.true_or] at q4
      simp (disch := first | omega | (simp only [za, zb]; done) | (simp only [za, zb]; omega)) [↓zp, ↓zk, ↓zh, hil, hv1, hg1, ht1, ← eh1, gx, haN, q1, q3, q4, zW, hc]
    | false =>
      rw [hc] at q3; rw [hc, Bool.false_or] at q4
      by_cases c : x3 = lab
      · subst c
        simp only [decide_true, Bool.true_and] at q4
        simp (disch := first | omega | (simp only [za, zb]; done) | (simp only [za, zb]; omega)) [↓zp, ↓zk, ↓zh, hil, hv1, hg1, ht1, ← eh1, gx, haN, hbN, q1, q3, q4, zW, hc, gf1, k1, k4]
      · rw [decide_eq_false c, Bool.false_and] at q4
        simp (disch := first | omega | (simp only [za, zb]; done) | (simp only [za, zb]; omega)) [↓zp, ↓zk, ↓zh, hil, hv1, hg1, ht1, ← eh1, gx, haN, q1, q3, q4, zW, hc, gf1, c]
end Go.Ideal.J
namespace Go.Ideal.J
open Go Go.Ideal
def HOK (es : List Ed) (N : Nat) (lb : Int) (sl : Value) (n : Nat) : Prop :=
  ∀ (f : Fml) (r : List Value) (h : H), sz f ≤ n → wf lb f → FW h f r → Row h 3 sl (es.map edL) → ∃ h' q, zbv F (fnV n_h) [gV (N : Int) lb sl, .agg ⟨r⟩] h = some (slF q N, h') ∧ Fr h h' ∧ h.next ≤ q ∧ Tru h' q N (hv es f)
theorem jh5 (es : List Ed) (N : Nat) (hN : N ≤ 1000) (lb : Int) (sl : Value) (n : Nat) (hok : HOK es N lb sl n) (ks : List Fml) (hks : ∀ k ∈ ks, wf lb k ∧ sz k ≤ n) (hkl : ks.length ≤ 1000000) (slv : Value) (rows : List (List Value)) (pg qo : Nat) (h0 : H) (hrow : Row h0 3 sl (es.map edL)) (hkr : Row h0 3 slv rows) (hfw : FWs h0 ks rows) (lo : Nat) (hlo : lo ≤ qo) (hf00 : H) (hff : Fr hf00 h0) (hlo0 : hf00.next = lo) (hrow0 : Row hf00 3 sl (es.map edL)) (hkr0 : Row hf00 3 slv rows) (hfw0 : FWs hf00 ks rows) (gg : h0.get pg = some (.cells (gL (N : Int) lb sl) 0)) (hpg : pg < h0.next) (hpo : pg ≠ qo) (hqo : qo < h0.next) {P : Value → H → Prop}
    (hP : ∀ h', FrD (fun j => j = qo) h0 h' → Tru h' qo N (hva es ks) → P (slF qo N) h') :
    ∀ (m i : Nat) (h : H), i + m = ks.length → FrD (fun j => j = qo) h0 h → Tru h qo N (hva es (ks.take i)) →
    OkV (sh (rI F) c_h_5 (K_h_5 (rI F)) (setL [p2, p5, p31, p32, p33] [ptr pg, slF qo N, slv, .int .i64 (ks.length : Int), .int .i64 (i : Int)]) h) P := by
  intro m
  induction m with
  | zero =>
    intro i h hi hf ht
    have e : i = ks.length := by omega
    subst e
    rw [List.take_length] at ht
    rw [s_h_5]
    refine OkV.eq (jh0 qo N h (hP h hf ht)) ?_
    simp (disch := first | omega | (simp only [za, zb]; done) | (simp only [za, zb]; omega)) [↓zp, ↓zk, ↓zh]
  | succ m ih =>
    intro i h hi hf ht
    have hil : i < ks.length := by omega
    have hfn := hf.next
    have hsv := hrow.slvM
    have hki : ks[i]? = some ks[i] := List.getElem?_eq_getElem hil
    have hF : Fr hf00 h := hff.transD hf (fun j hj hd => by omega)
    obtain ⟨ra, ea, fa⟩ := FWs.at (FWs.fr hF hfw0) hki
    obtain ⟨x1, o1, cs1, u1, hv1, _, hg1, ht1⟩ := (hkr0.fr hF).index ea
    have gg1 := (hf.get _ hpg hpo).trans gg
    obtain ⟨op', lab', bs', nn', cc', era⟩ := fa.cells
    obtain ⟨h4, eh4⟩ : ∃ h4, h4 = h.new (.cells ra 0) := ⟨_, rfl⟩
    have hf4 : Fr h h4 := by rw [eh4]; exact .new _ _
    have hn4 : h4.next = h.next + 1 := by rw [eh4]; simp
    have gg4 := (hf4.get _ (by omega)).trans gg1
    have gr4 : h4.get h.next = some (.cells ra 0) := by rw [eh4]; simp
    have hkm := hks _ (List.getElem_mem hil)
    obtain ⟨h5, qk, e5, hf5, hqk, hT5⟩ := hok ks[i] ra h4 hkm.2 hkm.1 (FW.fr hf4 fa) ((hrow0.fr hF).fr hf4)
    have hta := hva_take es ks i hki
    have := jh7 N hN qo qk (by omega) (hv es ks[i]) (hva es (ks.take i)) pg slv (.int .i64 (ks.length : Int)) (.int .i64 (i : Int)) h5 hT5 (P := P) (fun h' r1 r2 => by
      rw [s_h_6]
      have := ih (i + 1) h' (by omega) (((hf.trans hf4.D).trans hf5.D).trans r1) (r2.congr fun s _ => (hta s).symm)
      refine OkV.eq (this.lp (l_h_5 F _ _ _ _ _ _)) ?_
      simp (disch := first | omega | (simp only [za, zb]; done) | (simp only [za, zb]; omega)) [↓zp, ↓zk, ↓zh, zW]) N 0 h5 _ (by omega) (.refl _ _) ((ht.fr hf4).fr hf5) (fun s hs => by omega) (fun s _ => rfl)
    rw [s_h_5]
    refine OkV.eq (this.lp (l_h_7 F _ _ _ _ _ _ _ _ _)) ?_
    subst era
    simp (disch := first | omega | (simp only [za, zb]; done) | (simp only [za, zb]; omega)) [↓zp, ↓zk, ↓zh, hil, hv1, hg1, ht1, ← eh4, gg4, gr4, hsv.clean, hsv.take, e5, slF_len]
theorem jholds_ok (es : List Ed) (hsz : es.length ≤ 1000) (N : Nat) (hN : N ≤ 1000) (hin : inB (N : Int) es) (lb : Int) (sl : Value) : ∀ n, HOK es N lb sl n := by
  intro n
  induction n with
  | zero => intro f r h hf; have := sz_pos f; omega
  | succ n ih =>
    intro f r h hf hwf hfw hrow
    cases f with
    | mk op lab ks =>
    obtain ⟨ho, hkw, hkl3⟩ := wf_kids hwf
    have hszk : szs ks ≤ n := by simp only [sz] at hf; omega
    unfold FW at hfw
    obtain ⟨slv, rows, rfl, hkr, hks⟩ := hfw
    have hkl := FWs.len hks
    have hkv := hkr.slv
    rw [hkl] at hkv
    have hsv := hrow.slvM
    have hkall : ∀ k ∈ ks, wf lb k ∧ sz k ≤ n := fun k hk => ⟨hkw k hk, by
      obtain ⟨i, hi⟩ := List.getElem?_of_mem hk
      have := szs_at hi; omega⟩
    suffices hr : Ret F (fnV n_h) [gV (N : Int) lb sl, .agg ⟨fmL op lab slv⟩] h fun v h' => ∃ q, v = slF q N ∧ Fr h h' ∧ h.next ≤ q ∧ Tru h' q N (hv es (.mk op lab ks)) by
      obtain ⟨v, h', e, q, rfl, q1, q2, q3⟩ := hr; exact ⟨h', q, e, q1, q2, q3⟩
    obtain ⟨P, hPd⟩ : ∃ P : Value → H → Prop, P = fun v h' => ∃ q, v = slF q N ∧ Fr h h' ∧ h.next ≤ q ∧ Tru h' q N (hv es (.mk op lab ks)) := ⟨_, rfl⟩
    rw [← hPd]
    refine Ret.fn F_h 2 (by decide) ?_
    rw [s_h]
    obtain ⟨q, eq⟩ : ∃ q, q = h.next := ⟨_, rfl⟩
    obtain ⟨h1, eh1⟩ : ∃ h1, h1 = (h.new (.cells (gL (N : Int) lb sl) 0)).new (.cells (fmL op lab slv) 0) := ⟨_, rfl⟩
    have hf1 : Fr h h1 := by rw [eh1]; exact (Fr.new _ _).newR _
    have hn1 : h1.next = q + 2 := by rw [eh1, eq]; simp
    have g01 : h1.get q = some (.cells (gL (N : Int) lb sl) 0) := by rw [eh1, eq]; simp (disch := omega)
    have g11 : h1.get (q + 1) = some (.cells (fmL op lab slv) 0) := by rw [eh1, eq]; simp (disch := omega)
    have hmk := make_bools (n := N) hN h1
    rw [hn1, show zbm (List.replicate N false) = List.replicate N (.bool false) by simp [zbm]] at hmk
    obtain ⟨h2, eh2⟩ : ∃ h2, h2 = h1.new (.cells (List.replicate N (.bool false)) 0) := ⟨_, rfl⟩
    have hf2 : Fr h1 h2 := by rw [eh2]; exact .new _ _
    have hn2 : h2.next = q + 3 := by rw [eh2, za, hn1]
    have g0 := (hf2.get _ (by omega)).trans g01
    have g1 := (hf2.get _ (by omega)).trans g11
    have hT2 : Tru h2 (q + 2) N (fun _ => false) := ⟨by omega, List.replicate N false, by rw [eh2, ← hn1]; simp [zbm], by simp, fun s hs => by rw [List.getElem?_replicate, if_pos hs]⟩
    have hF2 : Fr h h2 := hf1.trans hf2
    have done : ∀ h', FrD (fun j => j = q + 2) h2 h' → Tru h' (q + 2) N (hv es (.mk op lab ks)) → P (slF (q + 2) N) h' := fun h' r1 r2 => by
      rw [hPd]
      exact ⟨q + 2, rfl, hF2.transD r1 (fun i hi hd => by omega), by omega, r2⟩
    by_cases c2 : op = 2 ∨ op = 4
    · have hlen : ks.length = 1 := by
        unfold opOk at ho
        simp only [Bool.or_eq_true, Bool.and_eq_true, decide_eq_true_eq] at ho
        omega
      match ks, hlen with
      | [k], _ =>
      obtain ⟨ra, ea, fa⟩ := FWs.at (i := 0) (f := k) (FWs.fr hF2 hks) rfl
      obtain ⟨x1, o1, cs1, u1, hv1, _, hg1, ht1⟩ := (hkr.fr hF2).index ea
      rw [show (((0 : Nat) : Int)) = (0 : Int) from rfl] at hv1
      obtain ⟨op', lab', bs', nn', cc', era⟩ := fa.cells
      have hkm := hkall k (by simp)
      obtain ⟨h5, qk, e5, hf5, hqk, hT5⟩ := ih k ra h2 hkm.2 hkm.1 fa (hrow.fr hF2)
      have hfn5 := hf5.next
      have g05 := (hf5.get _ (by omega)).trans g0
      have g15 := (hf5.get _ (by omega)).trans g1
      rcases c2 with rfl | rfl
      · have := jh1 N hN (q + 2) qk (by omega) (hv es k) h5 hT5 (P := P) (fun h' r1 r2 => done h' (hf5.D.trans r1) (r2.congr fun s _ => by simp [hv, hvh])) N 0 h5 _ (by omega) (.refl _ _) (hT2.fr hf5) (fun s hs => by omega)
        refine OkV.eq (this.lp (l_h_1 F _ _ _ _ _)) ?_
        subst era
        simp (disch := first | omega | (simp only [za, zb]; done) | (simp only [za, zb]; omega)) [↓zp, ↓zk, ↓zh, hsv.clean, hsv.take, hkv.clean, ← eq, ← eh1, g01, hmk, ← eh2, g0, g1, hkv.one, hkv.take, hv1, hg1, ht1, e5, slF_len]
      · have := jh2 es hsz N hN hin (q + 2) qk (q + 1) (by omega) (by omega) 4 lab slv sl (hv es k) h5 hT5 ((hrow.fr hF2).fr hf5) (fun b o n c e => by have := hrow.lt e; omega) g15 (by omega) (P := P) (fun h' r1 r2 => done h' (hf5.D.trans r1) (r2.congr fun s _ => by simp [hv, hvh, canT])) es.length 0 h5 _ (by omega) (.refl _ _) (hT2.fr hf5) (fun s hs => by simp [canT])
        refine OkV.eq (this.lp (l_h_2 F _ _ _ _ _ _ _)) ?_
        subst era
        simp (disch := first | omega | (simp only [za, zb]; done) | (simp only [za, zb]; omega)) [↓zp, ↓zk, ↓zh, hsv.clean, hsv.take, hsv.one, hsv.len, hkv.clean, ← eq, ← eh1, g01, hmk, ← eh2, g0, g1, hkv.one, hkv.take, hv1, hg1, ht1, e5, slF_len, g05]
    · have n2 : ¬ op = 2 := fun e => c2 (.inl e)
      have n4 : ¬ op = 4 := fun e => c2 (.inr e)
      have hkl2 : ks.length ≤ 1000000 := by omega
      have := jh4 N hN (q + 2) (q + 1) q h2 (P := P) (fun h3 r1 r2 => by
        rw [s_h_3]
        have hfn3 := r1.next
        have g03 := (r1.get _ (by omega) (by omega)).trans g0
        have g13 := (r1.get _ (by omega) (by omega)).trans g1
        have hF3 : Fr h h3 := hF2.transD r1 (fun i hi hd => by omega)
        have := jh5 es N hN lb sl n ih ks hkall hkl2 slv rows q (q + 2) h3 (hrow.fr hF3) (hkr.fr hF3) (FWs.fr hF3 hks) h.next (by omega) h hF3 rfl hrow hkr hks g03 (by omega) (by omega) (by omega) (P := P) (fun h' s1 s2 => done h' (r1.trans s1) (s2.congr fun s _ => by simp [hv, n2, n4])) ks.length 0 h3 (by omega) (.refl _ _) (r2.congr fun s _ => by simp [hva])
        refine OkV.eq (this.lp (l_h_5 F _ _ _ _ _ _)) ?_
        simp (disch := first | omega | (simp only [za, zb]; done) | (simp only [za, zb]; omega)) [↓zp, ↓zk, ↓zh, g13, hkv.one, hkv.take, hkv.len]) N 0 h2 _ (by omega) (.refl _ _) hT2 (fun s hs => by omega)
      refine OkV.eq (this.lp (l_h_4 F _ _ _ _ _ _)) ?_
      simp (disch := first | omega | (simp only [za, zb]; done) | (simp only [za, zb]; omega)) [↓zp, ↓zk, ↓zh, hsv.clean, hsv.take, hkv.clean, ← eq, ← eh1, g01, hmk, ← eh2, g0, g1, hkv.one, hkv.take, n2, n4, slF_len]
end Go.Ideal.J
namespace Go.Ideal.J
open Go Go.Ideal
end Go.Ideal.J
namespace Go.Ideal.J
open Go Go.Ideal
end Go.Ideal.J
namespace Go.Ideal.J
open Go Go.Ideal
end Go.Ideal.J
namespace Go.Ideal.J
open Go Go.Ideal
end Go.Ideal.J
namespace Go.Ideal.J
open Go Go.Ideal
def zgO (st lb : Int) (es : List Ed) (f : Fml) (a : Int) : Value := if isSt st lb es a = true ∧ (fmd lb f 3000).1 = true then zdg (.bool (hv es f a)) (.int .i64 0) else zdg (.bool false) (.int .i64 2)
theorem jHolds_ok (st lb : Int) (es : List Ed) (sl : Value) (f : Fml) (r : List Value) (a : Int) (h : H) (hrow : Row h 3 sl (es.map edL)) (hfw : FW h f r) : ∃ h', zbv F (fnV n_K) [gV st lb sl, .agg ⟨r⟩, .int .i64 a] h = some (zgO st lb es f a, h') ∧ Fr h h' := by
  have hsv := hrow.slvM
  obtain ⟨op, lab, bs, nn, cc, er⟩ := hfw.cells
  obtain ⟨q, eq⟩ : ∃ q, q = h.next := ⟨_, rfl⟩
  obtain ⟨h1, eh1⟩ : ∃ h1, h1 = ((h.new (.cells (gL st lb sl) 0)).new (.cells r 0)).new (.cells [.int .i64 3000] 0) := ⟨_, rfl⟩
  have hf1 : Fr h h1 := by rw [eh1]; exact ((Fr.new _ _).newR _).newR _
  have hn1 : h1.next = q + 3 := by rw [eh1, eq]; simp
  have g0 : h1.get q = some (.cells (gL st lb sl) 0) := by rw [eh1, eq]; simp (disch := first | omega | (simp; omega))
  have g1 : h1.get (q + 1) = some (.cells r 0) := by rw [eh1, eq]; simp (disch := first | omega | (simp; omega))
  have g2 : h1.get (q + 2) = some (.cells [.int .i64 3000] 0) := by rw [eh1, eq]; simp (disch := first | omega | (simp; omega))
  obtain ⟨h2, e2, hf2⟩ := zgi st lb es sl a h1 (hrow.fr hf1)
  have hfn2 := hf2.next
  have g02 := (hf2.get _ (by omega)).trans g0
  have g12 := (hf2.get _ (by omega)).trans g1
  have g22 := (hf2.get _ (by omega)).trans g2
  cases hs : isSt st lb es a with
  | false =>
    rw [hs] at e2
    refine ⟨h2, zbg F_K 3 (by decide) ?_, hf1.trans hf2⟩
    rw [s_K]
    subst er
    simp (disch := first | omega | (simp only [za, zb]; done) | (simp only [za, zb]; omega)) [↓zp, ↓zk, ↓zh, hsv.clean, hsv.take, ← eq, ← eh1, g0, e2, zgO, hs]
  | true =>
    rw [hs] at e2
    have hs' := hs
    unfold isSt at hs'
    simp only [Bool.and_eq_true, decide_eq_true_eq] at hs'
    have fm := (zgp st lb es).1 hs'.1.1
    have hF2 : Fr h h2 := hf1.trans hf2
    obtain ⟨h3, e3, hf3, _⟩ := jformed_ok es st lb fm.lb1 sl (q + 2) h hrow (by omega) 3001 f r h2 3000 hfw hF2 (by omega) g22 (by omega) (by omega) (by omega)
    have hfn3 := hf3.next
    have g03 := (hf3.get _ (by omega) (by omega)).trans g02
    have g13 := (hf3.get _ (by omega) (by omega)).trans g12
    have hF3 : Fr h h3 := hF2.transD hf3 (fun i hi hd => by omega)
    cases hc : (fmd lb f 3000).1 with
    | false =>
      rw [hc] at e3
      refine ⟨h3, zbg F_K 3 (by decide) ?_, hF3⟩
      rw [s_K]
      subst er
      simp (disch := first | omega | (simp only [za, zb]; done) | (simp only [za, zb]; omega)) [↓zp, ↓zk, ↓zh, hsv.clean, hsv.take, ← eq, ← eh1, g0, e2, g02, g12, e3, zgO, hs, hc]
    | true =>
      rw [hc] at e3
      obtain ⟨N, rfl⟩ := Int.eq_ofNat_of_zero_le (show 0 ≤ st by have := fm.st1; omega)
      obtain ⟨s, rfl⟩ := Int.eq_ofNat_of_zero_le hs'.1.2
      have hN := fm.st2
      have hlen := fm.len
      have hsN : s < N := by omega
      obtain ⟨h4, qk, e4, hf4, hqk, hT⟩ := jholds_ok es (by omega) N (by omega) fm.inB lb sl (sz f) f r h3 (Nat.le_refl _) ⟨3000, by omega, hc⟩ (FW.fr hF3 hfw) (hrow.fr hF3)
      obtain ⟨bk, k1, k2, k3⟩ := hT.ex
      have k4 : zbb 1 (zbY s (zbm bk)) = some [.bool (hv es f s)] := zeK (by unfold zbm; rw [List.getElem?_map, k3 s hsN]; rfl) rfl
      refine ⟨h4, zbg F_K 3 (by decide) ?_, hF3.trans hf4⟩
      rw [s_K]
      subst er
      simp (disch := first | omega | (simp only [za, zb]; done) | (simp only [za, zb]; omega)) [↓zp, ↓zk, ↓zh, hsv.clean, hsv.take, ← eq, ← eh1, g0, e2, g02, g12, e3, g03, g13, e4, hsN, k1, k4, zgO, hs, hc]
end Go.Ideal.J
namespace Go.Ideal.J
open Go Go.Ideal
end Go.Ideal.J
namespace Go.Ideal.J
open Go Go.Ideal
def two (st lb : Int) (es : List Ed) (st' lb' : Int) (fs : List Ed) : Bool := chk st lb es && chk st' lb' fs && decide (lb = lb')
end Go.Ideal.J
set_option linter.unusedSectionVars false
namespace Go.Ideal.J
open Go Go.Ideal
def inP (ps : List (Int × Int)) (a b : Int) : Bool := ps.any fun p => decide (p.1 = a ∧ p.2 = b)
def ansA (lb : List Ed) (ps : List (Int × Int)) (x : Ed) : Bool := lb.any fun y => decide (x.2.2 = y.2.2) && inP ps x.2.1 y.2.1
def ansB (la : List Ed) (ps : List (Int × Int)) (y : Ed) : Bool := la.any fun x => decide (x.2.2 = y.2.2) && inP ps x.2.1 y.2.1
section
variable (la lb : List Ed) (hla : la.length ≤ 1000) (hlb : lb.length ≤ 1000) (ps : List (Int × Int)) (hsz : ps.length ≤ 100000) (v2 t3 t4 t9 va vb : Value) (h : H) (hr2 : Row h 2 v2 (ps.map prL)) (hra : Row h 3 va (la.map edL)) (hrb : Row h 3 vb (lb.map edL)) {P : Value → H → Prop}
include hla hlb hsz hr2 hra hrb
end
end Go.Ideal.J
namespace Go.Ideal.J
open Go Go.Ideal
def bisQ (es fs : List Ed) (ps : List (Int × Int)) (p : Int × Int) : Bool := (outs es p.1).all (ansA (outs fs p.2) ps) && (outs fs p.2).all (ansB (outs es p.1) ps)
def rngQ (st st' : Int) (p : Int × Int) : Bool := decide (0 ≤ p.1) && decide (p.1 < st) && decide (0 ≤ p.2) && decide (p.2 < st')
def bisA (st lb : Int) (es : List Ed) (st' lb' : Int) (fs : List Ed) (ps : List (Int × Int)) : Value :=
  if two st lb es st' lb' fs = true then (if ps.all (rngQ st st') = true then zdg (.bool (ps.all (bisQ es fs ps))) (.int .i64 0) else zdg (.bool false) (.int .i64 2)) else zdg (.bool false) (.int .i64 2)
section
variable (st lb st' lb' : Int) (es fs : List Ed) (hes : es.length ≤ 1000) (hfs : fs.length ≤ 1000) (ps : List (Int × Int)) (hsz : ps.length ≤ 100000) (v sl sl' : Value) (pg pg' : Nat) (h0 : H) (hr2 : Row h0 2 v (ps.map prL)) (hrow : Row h0 3 sl (es.map edL)) (hrow' : Row h0 3 sl' (fs.map edL))
  (hg : h0.get pg = some (.cells (gL st lb sl) 0)) (hg' : h0.get pg' = some (.cells (gL st' lb' sl') 0)) (hpg : pg < h0.next) (hpg' : pg' < h0.next) {P : Value → H → Prop}
include hes hfs hsz hr2 hrow hrow' hg hg' hpg hpg'
end
end Go.Ideal.J
namespace Go.Ideal.J
open Go Go.Ideal
end Go.Ideal.J
namespace Go.Ideal.J
open Go Go.Ideal
abbrev sV (R : Int → Int → Bool) : Int → Int → Option Value := fun a b => if R a b then some (.bool true) else none
def swR (turned : Bool) (R : Int → Int → Bool) (u t : Int) : Bool := if turned then R t u else R u t
def folX (R : Int → Int → Bool) (turned : Bool) (fs : List Ed) (b : Int) (x : Ed) : Bool := (tos fs b x.2.2).any fun t => swR turned R x.2.1 t
def folA (R : Int → Int → Bool) (turned : Bool) (es fs : List Ed) (a b : Int) : Bool := (outs es a).all (folX R turned fs b)
noncomputable abbrev slI (m4 m5 x : Nat) : ze := setL [p10, p11, p13] [ptr m4, ptr m5, ptr x]
theorem fol_in (R : Int → Int → Bool) (turned : Bool) (m : Nat) (x : Ed) (t : Int) (L pm pt px : Nat) (h1 : H) (hm : MapM h1 m (sV R)) (hml : m < h1.next) (hL : h1.get L = some (.loop .ready none (slI pm pt px) zfh))
    (hpm : h1.get pm = some (.cells [.map (some m)] 0)) (hpt : h1.get pt = some (.cells [.bool turned] 0)) (hpx : h1.get px = some (.cells (edL x) 0)) (l0 : L < h1.next) (l1 : pm < h1.next) (l2 : pt < h1.next) (l3 : px < h1.next) (n1 : pm ≠ L) (n2 : pt ≠ L) (n3 : px ≠ L) (n5 : m ≠ L) {P : Value → H → Prop}
    (hP1 : swR turned R x.2.1 t = false → ∀ h', FrD (fun j => j = L) h1 h' → h'.get L = some (.loop .ready none (slI pm pt px) zfh) → P (.bool true) h')
    (hP2 : swR turned R x.2.1 t = true → ∀ h', FrD (fun j => j = L) h1 h' → h'.get L = some (.loop .done (some (.exit 1)) (slI pm pt px) zfh) → P (.bool false) h') :
    Ret F (.func (.yield L) #[] #[]) [.int .i64 t] h1 P := by
  refine Ret.round hL ?_
  rw [s_k_4]
  simp (disch := first | omega | (simp only [za, zb]; done) | (simp only [za, zb]; omega)) [↓zp, ↓zk, ↓zh]
  rw [zdL hL, s_k_5]
  obtain ⟨pr, epr⟩ : ∃ pr : List Value, pr = if turned then [.int .i64 t, .int .i64 x.2.1] else [.int .i64 x.2.1, .int .i64 t] := ⟨_, rfl⟩
  obtain ⟨h2, eh2⟩ : ∃ h2, h2 = (h1.put L (.loop .busy none (slI pm pt px) zfh)).new (.cells pr 0) := ⟨_, rfl⟩
  have hf2 : FrD (fun j => j = L) h1 h2 := by rw [eh2]; exact ((FrD.refl (fun j => j = L) _).put (.inr rfl) _).new _
  have hn2 : h2.next = h1.next + 1 := by rw [eh2]; simp
  have gL : h2.get L = some (.loop .busy none (slI pm pt px) zfh) := by rw [eh2, zbl (by simp; omega), zx rfl]
  have hm2 : MapM h2 m (sV R) := hm.fr hf2 hml n5
  have gm := (hf2.get _ l1 n1).trans hpm
  have gt := (hf2.get _ l2 n2).trans hpt
  have gx := (hf2.get _ l3 n3).trans hpx
  have gp : h2.get h1.next = some (.cells pr 0) := by rw [eh2, zdl (by simp)]
  have hf3 : ∀ o, FrD (fun j => j = L) h1 (h2.put L o) := fun o => hf2.put (.inr rfl) _
  have h6 : OkV (sh (rI F) c_k_6 (K_k_6 (rI F) L) (setL [p10, p15] [ptr pm, ptr h1.next]) h2) P := by
    rw [s_k_6]
    have hlk : zbo (.leaves [0, 1]) (.bool false) false (.map (some m)) (.agg ⟨pr⟩) h2 = some (.bool (swR turned R x.2.1 t), h2) := by
      have hb : ∀ a b : Int, ((sV R a b).getD (.bool false)) = .bool (R a b) := fun a b => by simp only [sV]; cases R a b <;> rfl
      cases turned with
      | false =>
        have := zhh hm2 (.bool false) x.2.1 t
        rw [hb] at this
        rw [epr]; exact this
      | true =>
        have := zhh hm2 (.bool false) t x.2.1
        rw [hb] at this
        rw [epr]; exact this
    have tp : zbb 2 pr = some pr := by rw [epr]; cases turned <;> rfl
    cases hs : swR turned R x.2.1 t with
    | true =>
      rw [hs] at hlk
      have : OkV (fin L (some (.exit 1)) h2) P := by
        rw [zfT gL]
        exact OkV.val (hP2 hs _ (hf3 _) (zx rfl))
      refine OkV.eq this ?_
      simp (disch := first | omega | (simp only [za, zb]; done) | (simp only [za, zb]; omega)) [↓zp, ↓zk, ↓zh, gm, gp, tp, hlk]
    | false =>
      rw [hs] at hlk
      have : OkV (fin L none h2) P := by
        rw [zc4 gL]
        exact OkV.val (hP1 hs _ (hf3 _) (zx rfl))
      refine OkV.eq this ?_
      simp (disch := first | omega | (simp only [za, zb]; done) | (simp only [za, zb]; omega)) [↓zp, ↓zk, ↓zh, gm, gp, tp, hlk]
  refine OkV.eq h6 ?_
  rw [epr] at eh2
  cases turned with
  | false =>
    simp only [Bool.false_eq_true, if_false] at eh2
    simp (disch := first | omega | (simp only [za, zb]; done) | (simp only [za, zb]; omega)) [↓zp, ↓zk, ↓zh, hpx, hpt, n3, n2, zq, ← eh2, gt]
  | true =>
    simp only [if_true] at eh2
    simp (disch := first | omega | (simp only [za, zb]; done) | (simp only [za, zb]; omega)) [↓zp, ↓zk, ↓zh, hpx, hpt, n3, n2, zq, gt, ← eh2]
end Go.Ideal.J
namespace Go.Ideal.J
open Go Go.Ideal
noncomputable abbrev slO (q : Nat) : ze := setL [p7, p9, p10, p11, p12] [ptr (q + 1), ptr (q + 1 + 1), ptr (q + 1 + 1 + 1), ptr (q + 1 + 1 + 1 + 1), ptr (q + 1 + 1 + 1 + 1 + 1)]
theorem fol_round (R : Int → Int → Bool) (turned : Bool) (fs : List Ed) (hs : zY fs) (hsz : fs.length ≤ 1000) (st' lb' : Int) (sl' : Value) (m : Nat) (x : Ed) (b : Int) (L q : Nat) (h1 : H) (hrow : Row h1 3 sl' (fs.map edL)) (hsl : ∀ b o n c, sl' = .slice (some ⟨b, o, none⟩) n c → b ≠ L) (hm : MapM h1 m (sV R)) (hml : m < q) (hL : h1.get L = some (.loop .ready none (slO q) zfi)) (hLq : q + 6 ≤ L)
    (g1 : h1.get (q + 1) = some (.cells (gL st' lb' sl') 0)) (g2 : h1.get (q + 1 + 1) = some (.cells [.int .i64 b] 0)) (g3 : h1.get (q + 1 + 1 + 1) = some (.cells [.map (some m)] 0)) (g4 : h1.get (q + 1 + 1 + 1 + 1) = some (.cells [.bool turned] 0)) (g5 : h1.get (q + 1 + 1 + 1 + 1 + 1) = some (.cells [.bool false] 0)) (hl : L < h1.next) {P : Value → H → Prop}
    (hP1 : folX R turned fs b x = true → ∀ h', FrD (fun j => j = L ∨ j = q + 5) h1 h' → h'.get L = some (.loop .ready none (slO q) zfi) → h'.get (q + 5) = some (.cells [.bool false] 0) → P (.bool true) h')
    (hP2 : folX R turned fs b x = false → ∀ h', FrD (fun j => j = L ∨ j = q + 5) h1 h' → h'.get L = some (.loop .done (some .ret) (slO q) zfi) → h'.get (q + 5) = some (.cells [.bool false] 0) → P (.bool false) h') :
    Ret F (.func (.yield L) #[] #[]) [edV x] h1 P := by
  refine Ret.round hL ?_
  rw [s_k_1]
  simp (disch := first | omega | (simp only [za, zb]; done) | (simp only [za, zb]; omega)) [↓zp, ↓zk, ↓zh]
  obtain ⟨h2, eh2⟩ : ∃ h2, h2 = (h1.new (.cells (edL x) 0)).put L (.loop .busy none (slO q) zfi) := ⟨_, rfl⟩
  rw [zdL (by rw [zbl (by omega)]; exact hL), s_k_2]
  have hf2 : FrD (fun j => j = L) h1 h2 := by rw [eh2]; exact ((FrD.refl (fun j => j = L) _).new _).put (.inr rfl) _
  have hn2 : h2.next = h1.next + 1 := by rw [eh2]; simp
  have gL2 : h2.get L = some (.loop .busy none (slO q) zfi) := by rw [eh2, zx rfl]
  have gx2 : h2.get h1.next = some (.cells (edL x) 0) := by rw [eh2, zm (by omega), zdl rfl]
  have k1 := (hf2.get _ (by omega) (by omega)).trans g1
  have k2' := (hf2.get _ (by omega) (by omega)).trans g2
  have k3 := (hf2.get _ (by omega) (by omega)).trans g3
  have k4 := (hf2.get _ (by omega) (by omega)).trans g4
  have k5 := (hf2.get _ (by omega) (by omega)).trans g5
  have hv := hrow.slvM
  obtain ⟨n, en⟩ : ∃ n, n = h1.next := ⟨_, rfl⟩
  rw [← en] at gx2 hn2
  obtain ⟨h4, eh4⟩ : ∃ h4, h4 = (((h2.new (.cells (gL st' lb' sl') 0)).new (.cells [.int .i64 b] 0)).new (.cells [.int .i64 x.2.2] 0)).new (.loop .ready none (slI (q + 1 + 1 + 1) (q + 1 + 1 + 1 + 1) n) zfh) := ⟨_, rfl⟩
  have hf4 : Fr h2 h4 := by rw [eh4]; exact (((Fr.new _ _).newR _).newR _).newR _
  have hn4 : h4.next = n + 5 := by rw [eh4]; simp [hn2]
  have gg4 : h4.get (n + 1) = some (.cells (gL st' lb' sl') 0) := by rw [eh4]; simp (disch := first | omega | (simp only [za, zb]; omega)) [hn2]
  have gf4 : h4.get (n + 1 + 1) = some (.cells [.int .i64 b] 0) := by rw [eh4]; simp (disch := first | omega | (simp only [za, zb]; omega)) [hn2]
  have gl4 : h4.get (n + 1 + 1 + 1) = some (.cells [.int .i64 x.2.2] 0) := by rw [eh4]; simp (disch := first | omega | (simp only [za, zb]; omega)) [hn2]
  have gI4 : h4.get (n + 4) = some (.loop .ready none (slI (q + 1 + 1 + 1) (q + 1 + 1 + 1 + 1) n) zfh) := by rw [eh4]; simp (disch := first | omega | (simp only [za, zb]; omega)) [hn2]
  have hfD : FrD (fun j => j = L) h1 h4 := hf2.trans hf4.D
  have hrow4 := hrow.frD hfD hsl
  have hm4 := hm.fr hfD (by omega) (by omega)
  have gx4 := (hf4.get _ (by omega)).trans gx2
  have j3 := (hf4.get _ (by omega)).trans k3
  have j4 := (hf4.get _ (by omega)).trans k4
  have j5 := (hf4.get _ (by omega)).trans k5
  have gL4 := (hf4.get _ (by omega)).trans gL2
  have hcall : Ret F (leadsV (n + 1) (n + 1 + 1) (n + 1 + 1 + 1)) [.func (.yield (n + 4)) #[] #[]] h4 fun _ h' => FrD (fun j => j = n + 4) h4 h' ∧ ((h'.get (n + 4) = some (.loop .ready none (slI (q + 1 + 1 + 1) (q + 1 + 1 + 1 + 1) n) zfh) ∧ folX R turned fs b x = false) ∨ (h'.get (n + 4) = some (.loop .done (some (.exit 1)) (slI (q + 1 + 1 + 1) (q + 1 + 1 + 1 + 1) n) zfh) ∧ folX R turned fs b x = true)) := by
    refine zfM fs hs hsz b x.2.2 st' lb' (.func (.yield (n + 4)) #[] #[]) rfl rfl rfl sl' (n + 1) (n + 1 + 1) (n + 1 + 1 + 1) h4 (M := fun j => j = n + 4) (fun i hi => by omega) hrow4 (by omega) (by omega) (by omega) (fun b o n' c e => by have := hrow.lt e; omega) (by omega) gg4 (by omega) gf4 (by omega) gl4
      (fun i h5 => h5.get (n + 4) = some (.loop .ready none (slI (q + 1 + 1 + 1) (q + 1 + 1 + 1 + 1) n) zfh) ∧ FrD (fun j => j = n + 4) h4 h5 ∧ ∀ t ∈ (tos fs b x.2.2).take i, swR turned R x.2.1 t = false)
      (fun h5 => h5.get (n + 4) = some (.loop .done (some (.exit 1)) (slI (q + 1 + 1 + 1) (q + 1 + 1 + 1 + 1) n) zfh) ∧ h4.next ≤ h5.next ∧ ∃ t ∈ tos fs b x.2.2, swR turned R x.2.1 t = true) ?_ ?_ ?_ ?_ ?_
    · rintro i a1 a2 ⟨q1, q2, q3⟩ hf
      have := q2.next
      exact ⟨(hf.get _ (by omega) (by omega)).trans q1, ⟨Nat.le_trans q2.next hf.next, fun j hj hd => (hf.get _ (by omega) (by omega)).trans (q2.get _ hj hd)⟩, q3⟩
    · rintro a1 a2 ⟨q1, q2, q3⟩ hf
      exact ⟨(hf.get _ (by omega) (by omega)).trans q1, Nat.le_trans q2 hf.next, q3⟩
    · rintro i v a1 hvv ⟨q1, q2, q3⟩ hnn
      rw [List.getElem?_map] at hvv
      obtain ⟨t, ht, rfl⟩ := Option.map_eq_some_iff.1 hvv
      refine fol_in R turned m x t (n + 4) (q + 1 + 1 + 1) (q + 1 + 1 + 1 + 1) n a1 (hm4.fr q2 (by omega) (by omega)) (by omega) q1 ((q2.get _ (by omega) (by omega)).trans j3) ((q2.get _ (by omega) (by omega)).trans j4) ((q2.get _ (by omega) (by omega)).trans gx4) (by omega) (by omega) (by omega) (by omega) (by omega) (by omega) (by omega) (by omega) ?_ ?_
      · intro e h' r1 r2
        refine ⟨r1, .inl ⟨rfl, r2, q2.trans r1, fun u hu => ?_⟩⟩
        rw [List.take_add_one, ht] at hu
        rcases List.mem_append.1 hu with hu | hu
        · exact q3 u hu
        · simp at hu; subst hu; exact e
      · intro e h' r1 r2
        exact ⟨r1, .inr ⟨rfl, r2, by have := r1.next; omega, t, List.mem_of_getElem? ht, e⟩⟩
    · exact ⟨gI4, .refl _ _, by simp⟩
    · intro h' hf hvv
      refine ⟨hf, ?_⟩
      rcases hvv with ⟨q1, q2, q3⟩ | ⟨q1, q2, t, ht, e⟩
      · refine .inl ⟨q1, ?_⟩
        rw [List.take_length] at q3
        unfold folX
        rw [List.any_eq_false]
        intro t ht; rw [q3 t ht]; simp
      · exact .inr ⟨q1, by unfold folX; rw [List.any_eq_true]; exact ⟨t, ht, e⟩⟩
  rw [← eh2]
  simp (disch := first | omega | (simp only [za, zb]; done) | (simp only [za, zb]; omega)) [↓zp, ↓zk, ↓zh, ← en, k1, k2', gx2, hv.clean, hv.take, zhi, hn2]
  rw [← eh4]
  refine OkV.call hcall ?_
  rintro v h5 ⟨hf5, hv5⟩
  have hfn5 := hf5.next
  have gL5 := (hf5.get _ (by omega) (by omega)).trans gL4
  have j55 := (hf5.get _ (by omega) (by omega)).trans j5
  have hF : ∀ o, FrD (fun j => j = L ∨ j = q + 5) h1 (h5.put (n + 4) o) := fun o => ⟨by simp; omega, fun i hi hd => by
    rw [zm (by omega), hf5.get _ (by omega) (by omega)]; exact hfD.get _ hi (by omega)⟩
  rcases hv5 with ⟨q1, q2⟩ | ⟨q1, q2⟩
  · rw [zcH q1, s_k_3]
    have : OkV (fin L (some .ret) ((h5.put (n + 4) (.loop .exhausted none (slI (q + 1 + 1 + 1) (q + 1 + 1 + 1 + 1) n) zfh)).put (q + 1 + 1 + 1 + 1 + 1) (.cells [.bool false] 0))) P := by
      rw [zfT (by rw [zm (by omega), zm (by omega)]; exact gL5)]
      exact OkV.val (hP2 q2 _ (((hF _).put (.inr (.inr rfl)) _).put (.inr (.inl rfl)) _) (zx rfl) (by rw [zm (by omega), zx rfl]))
    refine OkV.eq this ?_
    simp (disch := first | omega | (simp only [za, zb]; done) | (simp only [za, zb]; omega)) [↓zp, ↓zk, ↓zh, j55]
  · rw [rgP_exit q1]
    have : OkV (fin L none (h5.put (n + 4) (.loop .exhausted (some (.exit 1)) (slI (q + 1 + 1 + 1) (q + 1 + 1 + 1 + 1) n) zfh))) P := by
      rw [zc4 (by rw [zm (by omega)]; exact gL5)]
      exact OkV.val (hP1 q2 _ ((hF _).put (.inr (.inl rfl)) _) (zx rfl) (by rw [zm (by omega), zm (by omega)]; exact j55))
    exact this
theorem zjn (R : Int → Int → Bool) (turned : Bool) (es fs : List Ed) (hes : zY es) (hfs : zY fs) (hsz : es.length ≤ 1000) (hszf : fs.length ≤ 1000) (st lb st' lb' : Int) (sl sl' : Value) (m : Nat) (a b : Int) (h : H) (hrow : Row h 3 sl (es.map edL)) (hrow' : Row h 3 sl' (fs.map edL)) (hm : MapM h m (sV R)) (hml : m < h.next) :
    ∃ h', zbv F (fnV n_k) [gV st lb sl, gV st' lb' sl', .int .i64 a, .int .i64 b, .map (some m), .bool turned] h = some (.bool (folA R turned es fs a b), h') ∧ Fr h h' := by
  suffices hr : Ret F (fnV n_k) [gV st lb sl, gV st' lb' sl', .int .i64 a, .int .i64 b, .map (some m), .bool turned] h fun v h' => v = .bool (folA R turned es fs a b) ∧ Fr h h' by
    obtain ⟨v, h', e, rfl, hf⟩ := hr; exact ⟨h', e, hf⟩
  obtain ⟨P, hPd⟩ : ∃ P : Value → H → Prop, P = fun v h' => v = .bool (folA R turned es fs a b) ∧ Fr h h' := ⟨_, rfl⟩
  rw [← hPd]
  refine Ret.fn F_k 6 (by decide) ?_
  rw [s_k]
  have hv := hrow.slvM
  have hv' := hrow'.slvM
  obtain ⟨q, eq⟩ : ∃ q, q = h.next := ⟨_, rfl⟩
  obtain ⟨h2, eh2⟩ : ∃ h2, h2 = ((((((((h.new (.cells (gL st lb sl) 0)).new (.cells (gL st' lb' sl') 0)).new (.cells [.int .i64 b] 0)).new (.cells [.map (some m)] 0)).new (.cells [.bool turned] 0)).new (.cells [.bool false] 0)).new (.cells (gL st lb sl) 0)).new (.cells [.int .i64 a] 0)).new (.loop .ready none (slO q) zfi) := ⟨_, rfl⟩
  have hf2 : Fr h h2 := by rw [eh2]; exact ((((((((Fr.new _ _).newR _).newR _).newR _).newR _).newR _).newR _).newR _).newR _
  have hn2 : h2.next = q + 9 := by rw [eh2, eq]; simp
  have k1 : h2.get (q + 1) = some (.cells (gL st' lb' sl') 0) := by rw [eh2, eq]; simp (disch := first | omega | (simp only [za, zb]; done) | (simp only [za, zb]; omega)) []
  have k2' : h2.get (q + 1 + 1) = some (.cells [.int .i64 b] 0) := by rw [eh2, eq]; simp (disch := first | omega | (simp only [za, zb]; done) | (simp only [za, zb]; omega)) []
  have k3 : h2.get (q + 1 + 1 + 1) = some (.cells [.map (some m)] 0) := by rw [eh2, eq]; simp (disch := first | omega | (simp only [za, zb]; done) | (simp only [za, zb]; omega)) []
  have k4 : h2.get (q + 1 + 1 + 1 + 1) = some (.cells [.bool turned] 0) := by rw [eh2, eq]; simp (disch := first | omega | (simp only [za, zb]; done) | (simp only [za, zb]; omega)) []
  have k5 : h2.get (q + 1 + 1 + 1 + 1 + 1) = some (.cells [.bool false] 0) := by rw [eh2, eq]; simp (disch := first | omega | (simp only [za, zb]; done) | (simp only [za, zb]; omega)) []
  have gg2 : h2.get (q + 1 + 1 + 1 + 1 + 1 + 1) = some (.cells (gL st lb sl) 0) := by rw [eh2, eq]; simp (disch := first | omega | (simp only [za, zb]; done) | (simp only [za, zb]; omega)) []
  have gf2 : h2.get (q + 1 + 1 + 1 + 1 + 1 + 1 + 1) = some (.cells [.int .i64 a] 0) := by rw [eh2, eq]; simp (disch := first | omega | (simp only [za, zb]; done) | (simp only [za, zb]; omega)) []
  have gL2 : h2.get (q + 1 + 1 + 1 + 1 + 1 + 1 + 1 + 1) = some (.loop .ready none (slO q) zfi) := by rw [eh2, eq]; simp (disch := first | omega | (simp only [za, zb]; done) | (simp only [za, zb]; omega)) []
  obtain ⟨L, eL⟩ : ∃ L, L = q + 1 + 1 + 1 + 1 + 1 + 1 + 1 + 1 := ⟨_, rfl⟩
  rw [← eL] at gL2
  have hm2 := hm.fr (D := fun _ => False) hf2.D hml (by simp)
  have hcall : Ret F (stepsV (q + 1 + 1 + 1 + 1 + 1 + 1) (q + 1 + 1 + 1 + 1 + 1 + 1 + 1)) [.func (.yield L) #[] #[]] h2 fun _ h' => FrD (fun j => j = L ∨ j = q + 5) h2 h' ∧ ((h'.get L = some (.loop .ready none (slO q) zfi) ∧ h'.get (q + 5) = some (.cells [.bool false] 0) ∧ folA R turned es fs a b = true) ∨ (h'.get L = some (.loop .done (some .ret) (slO q) zfi) ∧ h'.get (q + 5) = some (.cells [.bool false] 0) ∧ folA R turned es fs a b = false)) := by
    refine zhv es hes hsz a st lb (.func (.yield L) #[] #[]) sl (q + 1 + 1 + 1 + 1 + 1 + 1) (q + 1 + 1 + 1 + 1 + 1 + 1 + 1) h2 (M := fun j => j = L ∨ j = q + 5) (hrow.fr hf2) (by omega) (by omega) (fun b o n c e => by have := hrow.lt e; omega) (by omega) gg2 (by omega) gf2
      (fun i h1 => h1.get L = some (.loop .ready none (slO q) zfi) ∧ h1.get (q + 5) = some (.cells [.bool false] 0) ∧ FrD (fun j => j = L ∨ j = q + 5) h2 h1 ∧ ∀ x ∈ (outs es a).take i, folX R turned fs b x = true)
      (fun h1 => ∃ x ∈ outs es a, h1.get L = some (.loop .done (some .ret) (slO q) zfi) ∧ h1.get (q + 5) = some (.cells [.bool false] 0) ∧ folX R turned fs b x = false) h2.next (Nat.le_refl _) ?_ ?_ ?_ ?_
    · rintro i h1 h3 ⟨q1, q2, q4, q5⟩ hf
      have := q4.next
      exact ⟨(hf.get _ (by omega)).trans q1, (hf.get _ (by omega)).trans q2, q4.trans hf.D, q5⟩
    · rintro i v h1 hvv ⟨q1, q2, q4, q5⟩ hn
      rw [List.getElem?_map] at hvv
      obtain ⟨x, hx, rfl⟩ := Option.map_eq_some_iff.1 hvv
      refine fol_round R turned fs hfs hszf st' lb' sl' m x b L q h1 ((hrow'.fr hf2).frD q4 (fun b o n c e => by have := hrow'.lt e; omega)) (fun b o n c e => by have := hrow'.lt e; omega) (hm2.fr q4 (by omega) (by omega)) (by omega) q1 (by omega) ((q4.get _ (by omega) (by omega)).trans k1) ((q4.get _ (by omega) (by omega)).trans k2') ((q4.get _ (by omega) (by omega)).trans k3) ((q4.get _ (by omega) (by omega)).trans k4) q2 (by omega) ?_ ?_
      · intro e h' r1 r2 r3
        refine ⟨r1, .inl ⟨rfl, r2, r3, q4.trans r1, fun y hy => ?_⟩⟩
        rw [List.take_add_one, hx] at hy
        rcases List.mem_append.1 hy with hy | hy
        · exact q5 y hy
        · simp at hy; subst hy; exact e
      · intro e h' r1 r2 r3
        exact ⟨r1, .inr ⟨rfl, x, List.mem_of_getElem? hx, r2, r3, e⟩⟩
    · exact ⟨gL2, k5, .refl _ _, by simp⟩
    · intro h' hf hvv
      refine ⟨hf, ?_⟩
      rcases hvv with ⟨q1, q2, q4, q5⟩ | ⟨x, hx, q1, q2, q3⟩
      · rw [List.take_length] at q5
        exact .inl ⟨q1, q2, List.all_eq_true.2 q5⟩
      · exact .inr ⟨q1, q2, List.all_eq_false.2 ⟨x, hx, by simp [q3]⟩⟩
  have hfin : ∀ h', FrD (fun j => j = L ∨ j = q + 5) h2 h' → ∀ o, Fr h (h'.put L o) := fun h' hf o => ⟨by simp; have := hf2.next; have := hf.next; omega, fun i hi => by
    rw [zm (by omega), hf.get _ (by have := hf2.next; omega) (by omega)]; exact hf2.get _ hi⟩
  have hb : ∀ X, X = q + 1 + 1 + 1 + 1 + 1 + 1 + 1 + 1 → X = L := fun X e => by omega
  simp (disch := first | omega | (simp only [za, zb]; done) | (simp only [za, zb]; omega)) [↓zp, ↓zk, ↓zh, hv.clean, hv.take, steps_ok, ← eq]
  rw [← eh2, ← eL]
  refine OkV.call hcall ?_
  rintro v h' ⟨hf, hvv⟩
  have hfn := hf.next
  rcases hvv with ⟨q1, q2, q3⟩ | ⟨q1, q2, q3⟩
  · rw [zcH q1, s_k_0]
    have q2' : h'.get (q + 1 + 1 + 1 + 1 + 1) = some (.cells [.bool false] 0) := q2
    refine OkV.eq (OkV.val (v := .bool true) (h := (h'.put L (.loop .exhausted none (slO q) zfi)).put (q + 1 + 1 + 1 + 1 + 1) (.cells [.bool true] 0)) (by rw [hPd]; exact ⟨by rw [q3], (hfin h' hf _).put (by omega) _⟩)) ?_
    simp (disch := first | omega | (simp only [za, zb]; done) | (simp only [za, zb]; omega)) [↓zp, ↓zk, ↓zh, q2']
  · rw [rgP_ret q1]
    have q2' : h'.get (q + 1 + 1 + 1 + 1 + 1) = some (.cells [.bool false] 0) := q2
    refine OkV.eq (OkV.val (v := .bool false) (h := h'.put L (.loop .exhausted (some .ret) (slO q) zfi)) (by rw [hPd]; exact ⟨by rw [q3], hfin h' hf _⟩)) ?_
    simp (disch := first | omega | (simp only [za, zb]; done) | (simp only [za, zb]; omega)) [↓zp, ↓zk, ↓zh, q2']
end Go.Ideal.J
namespace Go.Ideal.J
open Go Go.Ideal
structure zfc (es : List (Value × Value × Nat)) (c : Nat) : Prop where
  lt : ∀ e ∈ es, e.2.2 < c
  nd : (es.map (·.2.2)).Nodup
  kv : ∀ e ∈ es, ∃ a b, e.1 = key2 a b ∧ e.2.1 = .bool true
theorem zfc.nil : zfc [] 0 := ⟨by simp, by simp, by simp⟩
theorem zfc.set {k : Value} (hk : ∃ a b, k = key2 a b) {clock : Nat} : ∀ {es : List (Value × Value × Nat)} {c0 : Nat}, zfc es c0 → ∀ {es' c'}, setE kk2 k (.bool true) clock es = some (es', c') → c0 ≤ clock → zfc es' c' ∧ clock ≤ c' ∧ ∀ e ∈ es', e.2.2 = clock ∨ ∃ d ∈ es, d.2.2 = e.2.2
  | [], c0, h, es', c', hs, hc => by
    cases hs
    exact ⟨⟨by simp, by simp, fun e he => by rw [List.mem_singleton] at he; subst he; obtain ⟨a, b, rfl⟩ := hk; exact ⟨a, b, rfl, rfl⟩⟩, by omega, by simp⟩
  | (key, w, b) :: es, c0, h, es', c', hs, hc => by
    rw [setE_cons] at hs
    obtain ⟨s, h1, hs⟩ := aof hs
    have hnd := List.nodup_cons.1 h.nd
    have hr : zfc es c0 := ⟨fun e he => h.lt e (by simp [he]), hnd.2, fun e he => h.kv e (by simp [he])⟩
    have hb : b < c0 := h.lt (key, w, b) (by simp)
    cases s with
    | true =>
      dsimp only at hs
      split at hs
      · cases hs
        refine ⟨⟨fun e he => ?_, h.nd, fun e he => ?_⟩, Nat.le_refl _, fun e he => ?_⟩
        · rcases List.mem_cons.1 he with rfl | he
          · show b < clock; omega
          · have := hr.lt e he; omega
        · rcases List.mem_cons.1 he with rfl | he
          · obtain ⟨a, b, rfl⟩ := hk; exact ⟨a, b, rfl, rfl⟩
          · exact hr.kv e he
        · rcases List.mem_cons.1 he with rfl | he
          · exact .inr ⟨_, List.mem_cons_self, rfl⟩
          · exact .inr ⟨e, List.mem_cons_of_mem _ he, rfl⟩
      · cases hs
    | false =>
      dsimp only at hs
      obtain ⟨⟨es2, c2⟩, h2, e2⟩ := amf hs
      cases e2
      obtain ⟨q1, q2, q3⟩ := zfc.set hk hr h2 hc
      refine ⟨⟨fun e he => ?_, ?_, fun e he => ?_⟩, q2, fun e he => ?_⟩
      · rcases List.mem_cons.1 he with rfl | he
        · show b < c2; omega
        · exact q1.lt e he
      · refine List.nodup_cons.2 ⟨fun hm => ?_, q1.nd⟩
        obtain ⟨e, he, heb⟩ := List.mem_map.1 hm
        rcases q3 e he with hx | ⟨d, hd, hdb⟩
        · have heb : e.2.2 = b := heb
          omega
        · have heb : e.2.2 = b := heb
          exact hnd.1 (List.mem_map.2 ⟨d, hd, hdb.trans heb⟩)
      · rcases List.mem_cons.1 he with rfl | he
        · exact h.kv (key, w, b) (by simp)
        · exact q1.kv e he
      · rcases List.mem_cons.1 he with rfl | he
        · exact .inr ⟨_, List.mem_cons_self, rfl⟩
        · rcases q3 e he with hx | ⟨d, hd, hdb⟩
          · exact .inl hx
          · exact .inr ⟨d, List.mem_cons_of_mem _ hd, hdb⟩
def SetM (h : H) (m : Nat) (R : Int → Int → Bool) : Prop := ∃ es c, h.get m = some (.map es c) ∧ zgC es (sV R) ∧ zfc es c
theorem SetM.map {h : H} {m : Nat} {R : Int → Int → Bool} (s : SetM h m R) : MapM h m (sV R) := let ⟨es, c, h1, h2, _⟩ := s; ⟨es, c, h1, h2⟩
theorem SetM.fr {D : Nat → Prop} {h h' : H} {m : Nat} {R : Int → Int → Bool} (hm : SetM h m R) (hf : FrD D h h') (hl : m < h.next) (hd : ¬ D m) : SetM h' m R := by
  obtain ⟨es, c, h1, h2⟩ := hm
  exact ⟨es, c, (hf.get _ hl hd).trans h1, h2⟩
theorem zjk {es : List (Value × Value × Nat)} {r r' : Int → Int → Option Value} (h : zgC es r) (e : ∀ a b, r a b = r' a b) : zgC es r' := ⟨fun a b => by rw [h.look, e], h.keys⟩
theorem SetM.upd {h : H} {m : Nat} {R R' : Int → Int → Bool} (hm : SetM h m R) (a b : Int) (hR : ∀ c d, R' c d = (R c d || decide (c = a ∧ d = b))) : ∃ o, zdh kk2 h (key2 a b) (.bool true) (.map (some m)) = some (zL, h.put m o) ∧ SetM (h.put m o) m R' := by
  obtain ⟨es, c, h1, h2, h3⟩ := hm
  obtain ⟨es', c', e1, e2⟩ := h2.set a b (.bool true) c
  obtain ⟨q1, q2, q3⟩ := h3.set ⟨a, b, rfl⟩ e1 (Nat.le_refl _)
  refine ⟨.map es' c', ?_, ⟨es', c', zx rfl, zjk e2 fun p q => ?_, q1⟩⟩
  · show (h.get m).bind (mapSet kk2 h (key2 a b) (.bool true) m) = _
    rw [h1, Option.bind_some]
    show ((zbc kk2 (key2 a b) (key2 a b)).bind fun _ => (setE kk2 (key2 a b) (.bool true) c es).map fun y => (zL, h.put m (.map y.1 y.2))) = _
    rw [zbI, Option.bind_some, e1]; rfl
  · unfold upd2 sV
    rw [hR]
    by_cases e : p = a ∧ q = b
    · simp [e]
    · rw [if_neg e]; simp [e]
theorem inP_snoc (l : List (Int × Int)) (p : Int × Int) (c d : Int) : inP (l ++ [p]) c d = (inP l c d || decide (c = p.1 ∧ d = p.2)) := by
  unfold inP
  rw [List.any_append]
  congr 1
  simp only [List.any_cons, List.any_nil, Bool.or_false]
  exact decide_eq_decide.2 ⟨fun h => ⟨h.1.symm, h.2.symm⟩, fun h => ⟨h.1.symm, h.2.symm⟩⟩
theorem bisA_loop (st lb st' lb' : Int) (ps : List (Int × Int)) (hsz : ps.length ≤ 100000) (v sl sl' : Value) (q m : Nat) (h0 : H) (hr2 : Row h0 2 v (ps.map prL)) (hg : h0.get q = some (.cells (gL st lb sl) 0)) (hg' : h0.get (q + 1) = some (.cells (gL st' lb' sl') 0)) (hq : q + 1 < m) (hm : m < h0.next) (hv2 : ∀ b o n c, v = .slice (some ⟨b, o, none⟩) n c → b < m) (hsl : ∃ n, SlV sl n) (hsl' : ∃ n, SlV sl' n) {P : Value → H → Prop}
    (hF : ps.all (rngQ st st') = false → ∀ h', FrD (fun j => j = m) h0 h' → P (.tuple ⟨[.bool false, .bool false, .int .i64 2]⟩) h')
    (hT : ps.all (rngQ st st') = true → ∀ h', FrD (fun j => j = m) h0 h' → SetM h' m (inP ps) → P (.tuple ⟨[.bool true, ptr q, ptr (q + 1), .map (some m)]⟩) h') :
    ∀ (k i : Nat) (h : H), i + k = ps.length → FrD (fun j => j = m) h0 h → SetM h m (inP (ps.take i)) → (ps.take i).all (rngQ st st') = true →
    OkV (sh (rI F) zc7 (K_bisA_0 (rI F)) (setL [p3, p4, p8, p17, p18, p19] [ptr q, ptr (q + 1), .map (some m), v, .int .i64 (ps.length : Int), .int .i64 (i : Int)]) h) P := by
  have hv := hr2.slvM
  obtain ⟨n1, hs1⟩ := hsl
  obtain ⟨n2, hs2⟩ := hsl'
  intro k
  induction k with
  | zero =>
    intro i h hi hf hmm hall
    have e : i = ps.length := by omega
    subst e
    rw [List.take_length] at hall hmm
    refine OkV.eq (OkV.val (hT hall h hf hmm)) ?_
    rw [s_bisA_0]
    simp
  | succ k ih =>
    intro i h hi hf hmm hall
    have hil : i < ps.length := by omega
    have hfn := hf.next
    have hx : ps[i]? = some ps[i] := List.getElem?_eq_getElem hil
    have htk : ps.take (i + 1) = ps.take i ++ [ps[i]] := by rw [List.take_add_one, hx]; rfl
    have hmem : ps[i] ∈ ps := List.getElem_mem hil
    obtain ⟨b, o, cs, e, hvi, hb, hgb, ht⟩ := (hr2.frD hf (fun b o n c e => by have := hv2 b o n c e; omega)).index (i := i) (r := prL ps[i]) (by rw [List.getElem?_map, hx]; rfl)
    generalize ps[i] = p at *
    have g0 := (hf.get _ (by omega) (by omega)).trans hg
    have g1 := (hf.get _ (by omega) (by omega)).trans hg'
    obtain ⟨h2, eh2⟩ : ∃ h2, h2 = h.new (.cells (prL p) 0) := ⟨_, rfl⟩
    have hf2 : Fr h h2 := by rw [eh2]; exact .new _ _
    have hn2 : h2.next = h.next + 1 := by rw [eh2]; simp
    have gp : h2.get h.next = some (.cells (prL p) 0) := by rw [eh2]; simp
    have g02 := (hf2.get _ (by omega)).trans g0
    have g12 := (hf2.get _ (by omega)).trans g1
    have a1 : ∀ h' : H, zbf 2 1 (.pointer (some ⟨h.next, 0, none⟩)) (.int .i64 1) h' = some (.pointer (some ⟨h.next, 0 + 1 * 1, none⟩), h') := fun h' => rfl
    have a0 : ∀ h' : H, zbf 2 1 (.pointer (some ⟨h.next, 0, none⟩)) (.int .i64 0) h' = some (.pointer (some ⟨h.next, 0 + 0 * 1, none⟩), h') := fun h' => rfl
    by_cases c : rngQ st st' p = true
    · obtain ⟨om, em, hm2⟩ := (hmm.fr (D := fun _ => False) hf2.D (by omega) (by simp)).upd (R' := inP (ps.take (i + 1))) p.1 p.2 (fun c d => by rw [htk, inP_snoc])
      have hfp : FrD (fun j => j = m) h0 (h2.put m om) := (hf.trans hf2.D).put (.inr rfl) _
      have := ih (i + 1) (h2.put m om) (by omega) hfp hm2 (by rw [htk, List.all_append, hall]; simp [c])
      rw [s_bisA_0]
      refine OkV.eq (this.lp (l_bisA_0 F _ _ _ _ _ _ _)) ?_
      unfold rngQ at c
      simp only [Bool.and_eq_true, decide_eq_true_eq] at c
      obtain ⟨⟨⟨c1, c2⟩, c3⟩, c4⟩ := c
      have d0 : ¬ min p.1 p.2 < 0 := by omega
      have d2 : ¬ st ≤ p.1 := by omega
      have d4 : ¬ st' ≤ p.2 := by omega
      simp (disch := first | omega | (simp only [za, zb]; done) | (simp only [za, zb]; omega)) [↓zp, ↓zk, ↓zh, hil, hvi, hgb, ht, ← eh2, gp, a0, a1, min2, d0, d2, d4, g02, g12, hs1.clean, hs1.take, hs2.clean, hs2.take, em, zW]
    · have hF' := hF (by rw [List.all_eq_false]; exact ⟨p, hmem, c⟩) h2 (hf.trans hf2.D)
      refine OkV.eq (OkV.val hF') ?_
      rw [s_bisA_0]
      by_cases d0 : min p.1 p.2 < 0
      · simp (disch := first | omega | (simp only [za, zb]; done) | (simp only [za, zb]; omega)) [↓zp, ↓zk, ↓zh, hil, hvi, hgb, ht, ← eh2, gp, a0, a1, min2, d0]
      · by_cases d2 : st ≤ p.1
        · simp (disch := first | omega | (simp only [za, zb]; done) | (simp only [za, zb]; omega)) [↓zp, ↓zk, ↓zh, hil, hvi, hgb, ht, ← eh2, gp, a0, a1, min2, d0, d2, g02, g12, hs1.clean, hs1.take, hs2.clean, hs2.take]
        · by_cases d4 : st' ≤ p.2
          · simp (disch := first | omega | (simp only [za, zb]; done) | (simp only [za, zb]; omega)) [↓zp, ↓zk, ↓zh, hil, hvi, hgb, ht, ← eh2, gp, a0, a1, min2, d0, d2, d4, g02, g12, hs1.clean, hs1.take, hs2.clean, hs2.take]
          · exact absurd (by unfold rngQ; simp; omega) c
theorem bisA_ok (st lb st' lb' : Int) (es fs : List Ed) (ps : List (Int × Int)) (hsz : ps.length ≤ 100000) (v sl sl' : Value) (h : H) (hrow : Row h 3 sl (es.map edL)) (hrow' : Row h 3 sl' (fs.map edL)) (hr2 : Row h 2 v (ps.map prL)) {P : Value → H → Prop}
    (hF : (two st lb es st' lb' fs && ps.all (rngQ st st')) = false → ∀ h', Fr h h' → P (.tuple ⟨[.bool false, .bool false, .int .i64 2]⟩) h')
    (hT : (two st lb es st' lb' fs && ps.all (rngQ st st')) = true → ∀ h' q m, Fr h h' → h.next ≤ q → q + 1 < m → m < h'.next → h'.get q = some (.cells (gL st lb sl) 0) → h'.get (q + 1) = some (.cells (gL st' lb' sl') 0) → SetM h' m (inP ps) → P (.tuple ⟨[.bool true, ptr q, ptr (q + 1), .map (some m)]⟩) h') :
    OkV (sh (rI F) c_bisA (pK [p3, p4, p8] [p6, p7]) (setL [p0, p1, p2] [gV st lb sl, gV st' lb' sl', v]) h) P := by
  have hv := hrow.slvM
  have hv' := hrow'.slvM
  have hv2 := hr2.slvM
  obtain ⟨q, eq⟩ : ∃ q, q = h.next := ⟨_, rfl⟩
  obtain ⟨h2, eh2⟩ : ∃ h2, h2 = (h.new (.cells (gL st lb sl) 0)).new (.cells (gL st' lb' sl') 0) := ⟨_, rfl⟩
  have hf2 : Fr h h2 := by rw [eh2]; exact (Fr.new _ _).newR _
  have hn2 : h2.next = q + 2 := by rw [eh2, eq]; simp
  have g0 : h2.get q = some (.cells (gL st lb sl) 0) := by rw [eh2, eq]; simp (disch := omega)
  have g1 : h2.get (q + 1) = some (.cells (gL st' lb' sl') 0) := by rw [eh2, eq]; simp (disch := omega)
  obtain ⟨h3, e3, hf3⟩ := both_ok st lb st' lb' es fs sl sl' h2 (hrow.fr hf2) (hrow'.fr hf2)
  have hfn3 := hf3.next
  have g03 := (hf3.get _ (by omega)).trans g0
  have g13 := (hf3.get _ (by omega)).trans g1
  have hF3 := hf2.trans hf3
  cases hc : two st lb es st' lb' fs with
  | false =>
    have e3' := e3
    unfold two at hc
    rw [hc] at e3'
    refine OkV.eq (OkV.val (hF (by unfold two; rw [hc]; rfl) h3 hF3)) ?_
    rw [s_bisA]
    simp (disch := first | omega | (simp only [za, zb]; done) | (simp only [za, zb]; omega)) [↓zp, ↓zk, ↓zh, hv.clean, hv.take, hv'.clean, hv'.take, ← eq, ← eh2, g0, g1, e3']
  | true =>
    have e3' := e3
    have hc2 := hc
    unfold two at hc
    rw [hc] at e3'
    obtain ⟨h4, eh4⟩ : ∃ h4, h4 = h3.new (.map [] 0) := ⟨_, rfl⟩
    have hf4 : Fr h3 h4 := by rw [eh4]; exact .new _ _
    have hn4 : h4.next = h3.next + 1 := by rw [eh4]; simp
    have g04 := (hf4.get _ (by omega)).trans g03
    have g14 := (hf4.get _ (by omega)).trans g13
    have gm4 : h4.get h3.next = some (.map [] 0) := by rw [eh4]; simp
    have hF4 := hF3.trans hf4
    have hset : SetM h4 h3.next (inP (ps.take 0)) := ⟨[], 0, gm4, zjk zgC.nil fun a b => by simp [sV, inP], .nil⟩
    have := bisA_loop st lb st' lb' ps hsz v sl sl' q h3.next h4 (hr2.fr hF4) g04 g14 (by omega) (by omega) (fun b o n c e => by have := hr2.lt e; omega) ⟨_, hv⟩ ⟨_, hv'⟩ (P := P)
      (fun hr h' hf => hF (by rw [hc2, hr]; rfl) h' (hF4.transD hf (fun i hi e => by omega)))
      (fun hr h' hf hs => hT (by rw [hc2, hr]; rfl) h' q h3.next (hF4.transD hf (fun i hi e => by omega)) (by omega) (by omega) (by have := hf.next; omega) ((hf.get _ (by omega) (by omega)).trans g04) ((hf.get _ (by omega) (by omega)).trans g14) hs) ps.length 0 h4 (by omega) (.refl _ _) hset (by simp)
    rw [s_bisA]
    refine OkV.eq (this.lp (l_bisA_0 F _ _ _ _ _ _ _)) ?_
    simp (disch := first | omega | (simp only [za, zb]; done) | (simp only [za, zb]; omega)) [↓zp, ↓zk, ↓zh, hv.clean, hv.take, hv'.clean, hv'.take, ← eq, ← eh2, g0, g1, e3', ← eh4, hv2.len]
def okQ (R : Int → Int → Bool) (es fs : List Ed) (p : Int × Int) : Bool := folA R false es fs p.1 p.2 && folA R true fs es p.2 p.1
theorem bisB_ok (R : Int → Int → Bool) (es fs : List Ed) (hes : zY es) (hfs : zY fs) (hsz : es.length ≤ 1000) (hszf : fs.length ≤ 1000) (st lb st' lb' : Int) (sl sl' : Value) (m q x : Nat) (p : Int × Int) (h : H) (hrow : Row h 3 sl (es.map edL)) (hrow' : Row h 3 sl' (fs.map edL)) (hm : MapM h m (sV R)) (hml : m < h.next)
    (hg : h.get q = some (.cells (gL st lb sl) 0)) (hg' : h.get (q + 1) = some (.cells (gL st' lb' sl') 0)) (hx : h.get x = some (.cells (prL p) 0)) (l1 : q + 1 < h.next) (l2 : x < h.next) :
    ∃ h', Fr h h' ∧ sh (rI F) c_bisB (pK [p3, p4, p8] [p6, p7]) (setL [p3, p4, p8, p11] [ptr q, ptr (q + 1), .map (some m), ptr x]) h = some (.val (if okQ R es fs p = true then .tuple ⟨[.bool true, ptr q, ptr (q + 1), .map (some m)]⟩ else .tuple ⟨[.bool false, .bool false, .int .i64 0]⟩) h') := by
  have hv := hrow.slvM
  have hv' := hrow'.slvM
  have a1 : ∀ h' : H, zbf 2 1 (ptr x) (.int .i64 1) h' = some (.pointer (some ⟨x, 0 + 1 * 1, none⟩), h') := fun h' => rfl
  have a0 : ∀ h' : H, zbf 2 1 (ptr x) (.int .i64 0) h' = some (.pointer (some ⟨x, 0 + 0 * 1, none⟩), h') := fun h' => rfl
  obtain ⟨h1, e1, hf1⟩ := zjn R false es fs hes hfs hsz hszf st lb st' lb' sl sl' m p.1 p.2 h hrow hrow' hm hml
  have g01 := (hf1.get _ (by omega)).trans hg
  have g11 := (hf1.get _ (by omega)).trans hg'
  have gx1 := (hf1.get _ l2).trans hx
  cases c1 : folA R false es fs p.1 p.2 with
  | false =>
    rw [c1] at e1
    refine ⟨h1, hf1, ?_⟩
    rw [s_bisB]
    simp (disch := first | omega | (simp only [za, zb]; done) | (simp only [za, zb]; omega)) [↓zp, ↓zk, ↓zh, hg, hg', hx, hv.clean, hv.take, hv'.clean, hv'.take, a0, a1, e1, okQ, c1]
  | true =>
    rw [c1] at e1
    obtain ⟨h2, e2, hf2⟩ := zjn R true fs es hfs hes hszf hsz st' lb' st lb sl' sl m p.2 p.1 h1 (hrow'.fr hf1) (hrow.fr hf1) (hm.fr (D := fun _ => False) hf1.D hml (by simp)) (by have := hf1.next; omega)
    refine ⟨h2, hf1.trans hf2, ?_⟩
    rw [s_bisB]
    cases c2 : folA R true fs es p.2 p.1 with
    | false =>
      rw [c2] at e2
      simp (disch := first | omega | (simp only [za, zb]; done) | (simp only [za, zb]; omega)) [↓zp, ↓zk, ↓zh, hg, hg', hx, hv.clean, hv.take, hv'.clean, hv'.take, a0, a1, e1, okQ, c1, c2, g01, g11, gx1, e2]
    | true =>
      rw [c2] at e2
      simp (disch := first | omega | (simp only [za, zb]; done) | (simp only [za, zb]; omega)) [↓zp, ↓zk, ↓zh, hg, hg', hx, hv.clean, hv.take, hv'.clean, hv'.take, a0, a1, e1, okQ, c1, c2, g01, g11, gx1, e2]
theorem okQ_bisQ (es fs : List Ed) (ps : List (Int × Int)) (p : Int × Int) : okQ (inP ps) es fs p = bisQ es fs ps p := by
  have h1 : ∀ x, folX (inP ps) false fs p.2 x = ansA (outs fs p.2) ps x := by
    intro x
    unfold folX ansA tos swR
    rw [List.any_map, List.any_filter]
    congr 1
    funext y
    simp only [Bool.false_eq_true, if_false, Function.comp]
    congr 1
    exact decide_eq_decide.2 ⟨Eq.symm, Eq.symm⟩
  have h2 : ∀ y, folX (inP ps) true es p.1 y = ansB (outs es p.1) ps y := by
    intro y
    unfold folX ansB tos swR
    rw [List.any_map, List.any_filter]
    congr 1
  unfold okQ bisQ folA
  rw [funext h1, funext h2]
end Go.Ideal.J
set_option maxRecDepth 100000
set_option maxHeartbeats 4000000
namespace Go.Ideal.J
open Go Go.Ideal Go.Proofs
section
def sqL : Code → Code
  | .seq a _ => a
  | c => c
def sqR : Code → Code
  | .seq _ b => b
  | c => c
def inn : Code → Code
  | .block _ b => b
  | .loop b => b
  | c => c
def rgO : Code → Array Oper
  | .region _ o _ => o
  | _ => #[]
def takeSq : Nat → Code → Code
  | k + 1, .seq a b => .seq a (takeSq k b)
  | 0, .seq a _ => a
  | _, c => c
end
noncomputable section
def bC : Code := Try.f22.body.getD .skip
def bTail : Code := sqR (sqR (sqR (sqR bC)))
def bLoop : Code := inn (inn (sqR (sqL bTail)))
def ops11 : Array Oper := rgO (sqL (sqL bTail))
def ops12 : Array Oper := rgO (sqL bLoop)
def bRound : Code := inn (sqR (sqR bLoop))
def zge : Array Oper := rgO (sqL bRound)
def bB : Code := sqR bRound
def bA : Code := takeSq 3 bC
def bE : Code := sqR bTail
theorem bC_eq : Try.f22.body = some (appC 3 bA (.seq (.seq (.region 11 ops11 false) (.block 2 (.loop (.seq (.region 12 ops12 false) (.seq (.cond (.tmp 49) .skip (.exit 2)) (.block 3 (.seq (.region 13 zge false) bB))))))) bE)) := by kernel_rfl
theorem bA_comp : zA Try.prog 72 bA = some (zR c_bisA) := by kernel_rfl
def cEnd : CC := .seq (.ops [⟨some p6, .mv (.c (.bool true)), none, 0⟩, ⟨some p7, .mv (.c (.int .i64 0)), none, 0⟩]) [p6, p7] .ret
theorem bE_comp : zA Try.prog 72 bE = some (zR cEnd) := by kernel_rfl
def o11a : Oper := ops11[0]'(of_decide_eq_true (by kernel_rfl))
def o11b : Oper := ops11[1]'(of_decide_eq_true (by kernel_rfl))
def o12a : Oper := ops12[0]'(of_decide_eq_true (by kernel_rfl))
def o12b : Oper := ops12[1]'(of_decide_eq_true (by kernel_rfl))
def o13a : Oper := zge[0]'(of_decide_eq_true (by kernel_rfl))
def o13b : Oper := zge[1]'(of_decide_eq_true (by kernel_rfl))
theorem s11 : ops11.size = 2 := by kernel_rfl
theorem s12 : ops12.size = 2 := by kernel_rfl
theorem s13 : zge.size = 4 := by kernel_rfl
theorem e11a : ops11[0]? = some o11a := by kernel_rfl
theorem e11b : ops11[1]? = some o11b := by kernel_rfl
theorem e12a : ops12[0]? = some o12a := by kernel_rfl
theorem e12b : ops12[1]? = some o12b := by kernel_rfl
theorem e13a : zge[0]? = some o13a := by kernel_rfl
theorem e13b : zge[1]? = some o13b := by kernel_rfl
theorem f11a : o11a.op = .move (.tmp 8) ∧ o11a.dst = some 46 ∧ o11a.guard = none := ⟨by kernel_rfl, by kernel_rfl, by kernel_rfl⟩
theorem f11b : o11b.op = .range 81 (.tmp 46) ∧ o11b.dst = some 47 ∧ o11b.guard = none := ⟨by kernel_rfl, by kernel_rfl, by kernel_rfl⟩
theorem f12a : o12a.op = .next (.tmp 47) false ∧ o12a.dst = some 48 ∧ o12a.guard = none := ⟨by kernel_rfl, by kernel_rfl, by kernel_rfl⟩
theorem f12b : o12b.op = .extract (.tmp 48) 0 ∧ o12b.dst = some 49 ∧ o12b.guard = none := ⟨by kernel_rfl, by kernel_rfl, by kernel_rfl⟩
theorem f13a : o13a.op = .entry (.tmp 47) ∧ o13a.dst = some 50 ∧ o13a.guard = none := ⟨by kernel_rfl, by kernel_rfl, by kernel_rfl⟩
theorem f13b : o13b.op = .extract (.tmp 50) 0 ∧ o13b.dst = some 51 ∧ o13b.guard = none := ⟨by kernel_rfl, by kernel_rfl, by kernel_rfl⟩
def o13c : Oper := zge[2]'(of_decide_eq_true (by kernel_rfl))
def o13d : Oper := zge[3]'(of_decide_eq_true (by kernel_rfl))
theorem e13c : zge[2]? = some o13c := by kernel_rfl
theorem e13d : zge[3]? = some o13d := by kernel_rfl
theorem f13c : o13c.dst = some 11 ∧ o13c.guard = none := ⟨by kernel_rfl, by kernel_rfl⟩
theorem f13d : o13d.dst = none ∧ o13d.guard = none := ⟨by kernel_rfl, by kernel_rfl⟩
theorem c13c : zK Try.prog 72 zge o13c = some ⟨some p11, .alloc [.int .i64 0, .int .i64 0], none, 0⟩ := by kernel_rfl
theorem c13d : zK Try.prog 72 zge o13d = some ⟨none, .store 2 (.t p11) (.t p51), none, 0⟩ := by kernel_rfl
theorem u81 : ∃ k e, Try.prog.underlying 81 = some (.map k e) := ⟨_, _, Try.underlying81⟩
def c14 : CC := .cond (.t p71) (.seq (.ops [⟨some p6, .mv (.c (.bool false)), none, 0⟩, ⟨some p7, .mv (.c (.int .i64 0)), none, 0⟩]) [p6, p7] .ret) .skip
theorem bB_parts : ∃ x, c_bisB = .seq (.ops x) [p3, p4, p8, p71] c14 ∧ allO (zK Try.prog 72 (rgO (sqL bB))) (rgO (sqL bB)).toList = some x := ⟨_, rfl, by kernel_rfl⟩
theorem bB_eq : bB = .seq (.region 14 (rgO (sqL bB)) false) (sqR bB) := by kernel_rfl
def bX : Code := match sqR bB with
  | .cond _ x _ => x
  | c => c
def cX : CC := .seq (.ops [⟨some p6, .mv (.c (.bool false)), none, 0⟩, ⟨some p7, .mv (.c (.int .i64 0)), none, 0⟩]) [p6, p7] .ret
theorem bX_eq : sqR bB = .cond (.tmp 71) bX .skip := by kernel_rfl
theorem cX_comp : zA Try.prog 72 bX = some (zR cX) := by kernel_rfl
theorem hmixT : Try.prog.follows .mixedOrders = true := by kernel_rfl
theorem d14 : (rgO (sqL bB)).toList.all (fun o => !(o.dst == some 47)) = true := by kernel_rfl
theorem zji {P : Program} {o : Oper} {a : Act} {w w' : World} {v : Value} {next : Act → World → Prop} {Q : Exit → Act → World → Prop} (hnd : ∀ c, o.op ≠ .defer c) (hrun : (execOp a.eval o).run P w = .ok (.value v) w') (hn : next (a.put o.dst v) w') : o.wpIn Fence.wide 0 P a w next Q :=
  ⟨fun f _ => trivial, by rw [Oper.semAt_eq _ _ _ hnd, hrun]; exact hn⟩
theorem zc1 {P : Program} {ops : Array Oper} {i : Nat} {o : Oper} {rest : List Nat} {a : Act} {w : World} {Q : Exit → Act → World → Prop} (hi : ops[i]? = some o) (hg : o.guard = none) (h : o.wpIn Fence.wide 0 P a w (wpOpsIn Fence.wide 0 P ops Q rest) Q) : wpOpsIn Fence.wide 0 P ops Q (i :: rest) a w := by
  simp only [wpOpsIn, hi, Region.wanted, hg]
  exact h
theorem zfL {P : Program} {fn : Func} {rs : List CR} (hc : allO (zbr P) fn.results.toList = some rs) {s : ze} {tmps : Array Value} {h : H} {v : Value} (ho : ziU rs s h = some (.val v h)) {ρ0 : Rho} {w0 : World} {σ : Rho} (hs : SR σ s tmps) {R : Ending → World → Prop} (hR : ∀ v' w, VR σ v v' → HR P σ h w → Ext ρ0 w0 σ w → R (.returned v') w) :
    ∀ (Ds : List Nat) (w : World), zb8 σ w Ds → (∀ D ∈ Ds, w0.heap.size ≤ D) → HR P σ h w → Ext ρ0 w0 σ w → LeavesInM Fence.wide 0 P fn tmps R (Ds.map zbi) .returning w
  | [], w, hD, hds, hr, he => by
    obtain ⟨v1, v', e, h1, h2⟩ := zhF hc hr hs ho
    cases e
    exact ⟨v', h1, hR v' w h2 hr he⟩
  | D :: Ds, w, hD, hds, hr, he => by
    obtain ⟨q1, q2, q3⟩ := hD.ok D (by simp)
    obtain ⟨g1, g2⟩ := hr.shut he (o := .deferred none) (zb4 _) q3 (zb4 _) (hds D (by simp)) q2
    refine ⟨by simp, .inl ⟨D, _, rfl, run_takeDeferred q3, ?_⟩⟩
    exact zfL hc ho hs hR Ds _ (hD.tail_put _) (fun D' h => hds D' (by simp [h])) g1 g2
def zeS (es : List (Value × Value × Nat)) : Array MapEntry := (es.map fun e => ({ key := e.1, val := e.2.1, born := e.2.2 } : MapEntry)).toArray
theorem vr_key2 {σ : Rho} {a b : Int} {y : Value} (h : VR σ (key2 a b) y) : y = key2 a b := by
  obtain ⟨ys, rfl, hl⟩ := h.inv_agg
  obtain ⟨y1, r1, e1, h1, h2⟩ := hl.cons_left
  obtain ⟨y2, r2, e2, h3, h4⟩ := h2.cons_left
  have := h4.nil_left
  subst this
  rw [h1.inv_int] at e1
  rw [h3.inv_int] at e2
  subst e2
  have : ys = ⟨[.int .i64 a, .int .i64 b]⟩ := by rw [← Array.toList_inj, e1]
  rw [this]
theorem real_of {σ : Rho} {es : List (Value × Value × Nat)} {es' : Array MapEntry} (hlen : es.length = es'.size) (hrel : ∀ (j : Nat) e, es[j]? = some e → ∃ e', es'[j]? = some e' ∧ VR σ e.1 e'.key ∧ VR σ e.2.1 e'.val ∧ e'.born = e.2.2) (hkv : ∀ e ∈ es, ∃ a b, e.1 = key2 a b ∧ e.2.1 = .bool true) : es' = zeS es := by
  apply Array.ext'
  apply List.ext_getElem?
  intro j
  show es'.toList[j]? = (es.map _)[j]?
  rw [List.getElem?_map]
  by_cases hj : j < es.length
  · have he : es[j]? = some es[j] := List.getElem?_eq_getElem hj
    obtain ⟨e', h1, h2, h3, h4⟩ := hrel j _ he
    obtain ⟨a, b, hk, hv⟩ := hkv es[j] (List.getElem_mem hj)
    rw [he, Array.getElem?_toList, h1]
    rw [hk] at h2; rw [hv] at h3
    have k1 := vr_key2 h2
    have k2 := h3.inv_bool
    show some e' = some ({ key := es[j].1, val := es[j].2.1, born := es[j].2.2 } : MapEntry)
    rw [hk, hv]
    congr 1
    obtain ⟨k, v, n⟩ := e'
    simp only at k1 k2 h4
    subst k1 k2 h4
    rfl
  · rw [List.getElem?_eq_none (l := es) (by omega), List.getElem?_eq_none (by rw [Array.length_toList]; omega)]; rfl
noncomputable abbrev s3 (q m : Nat) : ze := setL [p3, p4, p8] [ptr q, ptr (q + 1), .map (some m)]
def BInv (ρ0 : Rho) (w0 : World) (hA : H) (q m bm it clk : Nat) (seen : Array Nat) (a : Act) (w : World) : Prop :=
  ∃ σ h Ds R, Ext ρ0 w0 σ w ∧ a.tmps.size = 72 ∧ a.defers = Ds.map zbi ∧ (zb8 σ w Ds ∧ ∀ D ∈ Ds, w0.heap.size ≤ D) ∧ SR σ (s3 q m) a.tmps ∧ HR Try.prog σ h w ∧ Fr hA h ∧ a.tmps[47]? = some (.pointer (some ⟨it, 0, none⟩)) ∧ w.heap[it]? = some (.mapIter (some bm) clk seen clk) ∧ (∀ i S, σ i = some S → S.blk ≠ it) ∧ σ m = some R ∧ R.blk = bm ∧ w0.heap.size ≤ it
theorem zid (m : Option Nat) (a : Nat) (s : Array Nat) (b : Nat) : Calm (.mapIter m a s b) := fun _ _ _ h => by cases h
def zfZ : Code := .seq (.region 12 ops12 false) (.seq (.cond (.tmp 49) .skip (.exit 2)) (.block 3 (.seq (.region 13 zge false) bB)))
theorem zdB {q m t : Nat} (h3 : t ≠ 3) (h4 : t ≠ 4) (h8 : t ≠ 8) : (s3 q m).get (bits t) = none := by
  have e : s3 q m = ((PT.nil.set (bits 8) (.map (some m))).set (bits 4) (ptr (q + 1))).set (bits 3) (ptr q) := rfl
  rw [e, PT.get_set_bits, if_neg (Ne.symm h3), PT.get_set_bits, if_neg (Ne.symm h4), PT.get_set_bits, if_neg (Ne.symm h8)]
  exact PT.get_nil _
theorem zc5 {a : Act} {t : Nat} {v : Value} (h : a.tmps[t]? = some v) : a.eval (.tmp t) = v := by
  show a.tmps.getD t undef = v
  rw [Array.getD_eq_getD_getElem?, h]; rfl
section
variable {ρ0 : Rho} {w0 : World} {hA : H} {q m bm it clk : Nat} {es : List (Value × Value × Nat)} {R : Int → Int → Bool} {eg fg : List Ed} {st lb st' lb' : Int} {sl sl' : Value}
theorem bis_step (heg : zY eg) (hfg : zY fg) (hez : eg.length ≤ 1000) (hfz : fg.length ≤ 1000) (hrow : Row hA 3 sl (eg.map edL)) (hrow' : Row hA 3 sl' (fg.map edL)) (hgm : hA.get m = some (.map es clk)) (hmi : zgC es (sV R)) (hok : zfc es clk) (hqm : q + 1 < m) (hml : m < hA.next) (hg : hA.get q = some (.cells (gL st lb sl) 0)) (hg' : hA.get (q + 1) = some (.cells (gL st' lb' sl') 0))
    {Q : Exit → Act → World → Prop}
    (hend : (∀ e ∈ es, ∀ a b, e.1 = key2 a b → okQ R eg fg (a, b) = true) → ∀ seen a w, BInv ρ0 w0 hA q m bm it clk seen a w → bE.wpIn Fence.wide 0 Try.prog Q a w)
    (hret : (∃ e ∈ es, ∃ a b, e.1 = key2 a b ∧ okQ R eg fg (a, b) = false) → ∀ σ h Ds a w, Ext ρ0 w0 σ w → a.tmps.size = 72 → a.defers = Ds.map zbi → zb8 σ w Ds → (∀ D ∈ Ds, w0.heap.size ≤ D) → HR Try.prog σ h w → Fr hA h → ∀ s, SR σ s a.tmps → s.get p6 = some (.bool false) → s.get p7 = some (.int .i64 0) → Q .ret a w)
    (n : Nat) (ih : ∀ n', n = n' + 1 → ∀ seen a w, (leftOf (zeS es) seen).size ≤ n' → BInv ρ0 w0 hA q m bm it clk seen a w → (∀ e ∈ es, seen.contains e.2.2 = true → ∀ a b, e.1 = key2 a b → okQ R eg fg (a, b) = true) →
      Code.roundsIn Fence.wide 0 Try.prog zfZ (Exit.inBlock 2 (Exit.then (bE.wpIn Fence.wide 0 Try.prog Q) Q)) (n' + 1) a w) : ∀ seen a w, (leftOf (zeS es) seen).size ≤ n → BInv ρ0 w0 hA q m bm it clk seen a w → (∀ e ∈ es, seen.contains e.2.2 = true → ∀ a b, e.1 = key2 a b → okQ R eg fg (a, b) = true) →
      Code.roundsIn Fence.wide 0 Try.prog zfZ (Exit.inBlock 2 (Exit.then (bE.wpIn Fence.wide 0 Try.prog Q) Q)) (n + 1) a w := by
    intro seen a w hsz hI hgood
    rw [roundsIn_succ]
    have hI0 := hI
    obtain ⟨σ, h, Ds, Rm, hx, hN, hd, ⟨hD, hDs⟩, hs, hr, hf, hit, hiter, hun, hm, hbm, hitn⟩ := hI
    have hfn := hf.next
    have hgmh : h.get m = some (.map es clk) := (hf.get _ hml).trans hgm
    obtain ⟨es', hb, hlen, hrel⟩ := hr.obj m Rm _ hm hgmh
    obtain rfl := real_of hlen hrel hok.kv
    rw [hbm] at hb
    have hold : ∀ x ∈ (zeS es).toList, x.born < clk := fun x hx => by
      obtain ⟨e, he, rfl⟩ := List.mem_map.1 (show x ∈ es.map _ from hx)
      exact hok.lt e he
    have hnd : ((zeS es).toList.map (·.born)).Nodup := by
      have : (zeS es).toList.map (·.born) = es.map (·.2.2) := by
        show (es.map _).map _ = _
        rw [List.map_map]; rfl
      rw [this]; exact hok.nd
    refine wpIn_seq ?_
    have hne : ∀ c, o12a.op ≠ .defer c := fun c => by rw [f12a.1]; nofun
    have hne2 : ∀ c, o12b.op ≠ .defer c := fun c => by rw [f12b.1]; nofun
    have hev47 : a.eval (.tmp 47) = .pointer (some ⟨it, 0, none⟩) := zc5 hit
    have reg12 : ∀ {Q' : Exit → Act → World → Prop} {v b : Value} {w1 : World}, (Instr.next (.pointer (some ⟨it, 0, none⟩)) false o12a.type).run Try.prog w = .ok v w1 → (Instr.extract v 0).run Try.prog w1 = .ok b w1 →
        Q' .normal ⟨(a.tmps.setIfInBounds 48 v).setIfInBounds 49 b, a.defers⟩ w1 → (Code.region 12 ops12 false).wpIn Fence.wide 0 Try.prog Q' a w := by
      intro Q' v b w1 h1 h2 hq
      refine wpIn_region ?_
      rw [s12]
      refine zc1 e12a f12a.2.2 (zji hne (v := v) (w' := w1) ?_ ?_)
      · simp only [execOp, f12a.1, Sem.run_bind, hev47, h1, Result.andThen_ok, Sem.run_pure]
      · refine zc1 e12b f12b.2.2 (zji hne2 (v := b) (w' := w1) ?_ ?_)
        · have : (a.put o12a.dst v).eval (.tmp 48) = v := by
            rw [f12a.2.1]
            refine zc5 ?_
            show (a.tmps.setIfInBounds 48 v)[48]? = _
            rw [Array.getElem?_setIfInBounds, if_pos rfl, if_pos (by omega)]
          simp only [execOp, f12b.1, Sem.run_bind, this, h2, Result.andThen_ok, Sem.run_pure]
        · rw [f12b.2.1, f12a.2.1]
          exact hq
    rcases run_next_at (P := Try.prog) w o12a.type it bm clk clk seen (zeS es) clk hiter hb hold (Nat.le_refl _) with ⟨h0, hrun⟩ | ⟨e, he, w1, hw1, hrun⟩
    ·
      refine reg12 hrun (b := .bool false) (by simp [Instr.extract]) ?_
      show (Code.seq _ _).wpIn _ _ _ _ _ _
      refine wpIn_seq (wpIn_cond_false (zc5 ?_) (wpIn_exit ?_))
      · show ((a.tmps.setIfInBounds 48 _).setIfInBounds 49 (.bool false))[49]? = _
        rw [Array.getElem?_setIfInBounds, if_pos rfl, if_pos (by simp; omega)]
      · show Exit.inBlock 2 (Exit.then (bE.wpIn Fence.wide 0 Try.prog Q) Q) (.exit 2) _ _
        simp only [Exit.inBlock, if_true]
        show bE.wpIn Fence.wide 0 Try.prog Q _ _
        refine hend (fun e he a b hk => hgood e he ?_ a b hk) seen _ w ⟨σ, h, Ds, Rm, hx, by simpa using hN, hd, ⟨hD, hDs⟩, (hs.skip (zdB (by decide) (by decide) (by decide)) _).skip (zdB (by decide) (by decide) (by decide)) _, hr, hf, ?_, hiter, hun, hm, hbm, hitn⟩
        · exact all_seen (zeS es) seen h0 ⟨e.1, e.2.1, e.2.2⟩ (List.mem_map.2 ⟨e, he, rfl⟩)
        · show ((a.tmps.setIfInBounds 48 _).setIfInBounds 49 (.bool false))[47]? = _
          rw [Array.getElem?_setIfInBounds, if_neg (by decide), Array.getElem?_setIfInBounds, if_neg (by decide)]; exact hit
    ·
      obtain ⟨n', rfl⟩ : ∃ n', n = n' + 1 := by
        have := left_shrinks (zeS es) seen e he
        exact ⟨n - 1, by omega⟩
      have hshr := left_shrinks (zeS es) seen e he
      obtain ⟨hmem, hfresh⟩ := mem_left he
      obtain ⟨e0, he0, rfl⟩ := List.mem_map.1 (show e ∈ es.map _ from hmem)
      obtain ⟨ka, kb, hk, hv⟩ := hok.kv e0 he0
      simp only at hrun hfresh hshr hmem
      rw [hk] at hrun
      refine reg12 hrun (b := .bool true) (by simp [Instr.extract]) ?_
      have hr1 : HR Try.prog σ h w1 := by rcases hw1 with rfl | rfl; exact hr; exact hr.drew
      have hx1 : Ext ρ0 w0 σ w1 := by rcases hw1 with rfl | rfl; exact hx; exact hx.trans (.drew _ _)
      have hi1 : w1.heap[it]? = some (.mapIter (some bm) clk seen clk) := by rcases hw1 with rfl | rfl <;> exact hiter
      have hD1 : zb8 σ w1 Ds := by rcases hw1 with rfl | rfl; exact hD; exact hD.ext (.drew _ _)
      obtain ⟨w2, ew2⟩ : ∃ w2, w2 = w1.putObj it (.mapIter (some bm) clk (seen.push e0.2.2) clk) := ⟨_, rfl⟩
      have hset : Go.ChangeMaps.setBlock w1 it (.mapIter (some bm) clk (seen.push e0.2.2) clk) = w2 := by rw [ew2]; rfl
      rw [hset]
      obtain ⟨hr2, hx2⟩ := hr1.shut hx1 (o := .mapIter (some bm) clk (seen.push e0.2.2) clk) (zid _ _ _ _) hi1 (zid _ _ _ _) hitn hun
      rw [← ew2] at hr2 hx2
      have hlt1 : it < w1.heap.size := (Array.getElem?_eq_some_iff.1 hi1).1
      have hi2 : w2.heap[it]? = some (.mapIter (some bm) clk (seen.push e0.2.2) clk) := by rw [ew2]; exact World.putObj_heap_same hlt1
      have hD2 : zb8 σ w2 Ds := ⟨hD1.nodup, fun D hDm => by
        obtain ⟨d1, d2, d3⟩ := hD1.ok D hDm
        have hne : D ≠ it := by rintro rfl; rw [hi1] at d3; cases d3
        exact ⟨by rw [ew2]; simpa using d1, d2, by rw [ew2, World.putObj_heap_other hne]; exact d3⟩⟩
      have hb2 : w2.heap[bm]? = some (.map (zeS es) clk) := by
        obtain ⟨es2, k1, k2, k3⟩ := hr2.obj m Rm _ hm hgmh
        rw [real_of k2 k3 hok.kv, hbm] at k1
        exact k1
      obtain ⟨a2, ea2⟩ : ∃ a2 : Act, a2 = ⟨(a.tmps.setIfInBounds 48 (.tuple #[.bool true, key2 ka kb, e0.2.1])).setIfInBounds 49 (.bool true), a.defers⟩ := ⟨_, rfl⟩
      rw [← ea2]
      have hN2 : a2.tmps.size = 72 := by rw [ea2]; simpa using hN
      have hs2 : SR σ (s3 q m) a2.tmps := by rw [ea2]; exact (hs.skip (zdB (by decide) (by decide) (by decide)) _).skip (zdB (by decide) (by decide) (by decide)) _
      have hit2 : a2.tmps[47]? = some (.pointer (some ⟨it, 0, none⟩)) := by
        rw [ea2]
        show ((a.tmps.setIfInBounds 48 _).setIfInBounds 49 (.bool true))[47]? = _
        rw [Array.getElem?_setIfInBounds, if_neg (by decide), Array.getElem?_setIfInBounds, if_neg (by decide)]; exact hit
      have hd2 : a2.defers = Ds.map zbi := by rw [ea2]; exact hd
      show (Code.seq _ _).wpIn _ _ _ _ _ _
      refine wpIn_seq (wpIn_cond_true (zc5 ?_) (wpIn_skip ?_))
      · rw [ea2]
        show ((a.tmps.setIfInBounds 48 _).setIfInBounds 49 (.bool true))[49]? = _
        rw [Array.getElem?_setIfInBounds, if_pos rfl, if_pos (by simp; omega)]
      show (Code.block _ _).wpIn _ _ _ _ _ _
      refine wpIn_block (wpIn_seq (wpIn_region ?_))
      rw [s13]
      have hne3 : ∀ c, o13a.op ≠ .defer c := fun c => by rw [f13a.1]; nofun
      have hne4 : ∀ c, o13b.op ≠ .defer c := fun c => by rw [f13b.1]; nofun
      have hent := run_entry_at (P := Try.prog) w2 it bm clk seen (zeS es) clk ⟨e0.1, e0.2.1, e0.2.2⟩ hi2 hb2 hmem hnd
      simp only at hent
      rw [hk] at hent
      refine zc1 e13a f13a.2.2 (zji hne3 (v := .tuple #[key2 ka kb, e0.2.1]) (w' := w2) ?_ ?_)
      · simp only [execOp, f13a.1, Sem.run_bind, zc5 hit2, hent, Result.andThen_ok, Sem.run_pure]
      refine zc1 e13b f13b.2.2 (zji hne4 (v := key2 ka kb) (w' := w2) ?_ ?_)
      · have : (a2.put o13a.dst (.tuple #[key2 ka kb, e0.2.1])).eval (.tmp 50) = .tuple #[key2 ka kb, e0.2.1] := by
          rw [f13a.2.1]
          refine zc5 ?_
          show (a2.tmps.setIfInBounds 50 _)[50]? = _
          rw [Array.getElem?_setIfInBounds, if_pos rfl, if_pos (by omega)]
        simp only [execOp, f13b.1, Sem.run_bind, this, Result.andThen_ok, Sem.run_pure]
        simp [Instr.extract]
      rw [f13b.2.1, f13a.2.1]
      obtain ⟨a3, ea3⟩ : ∃ a3 : Act, a3 = (a2.put (some 50) (.tuple #[key2 ka kb, e0.2.1])).put (some 51) (key2 ka kb) := ⟨_, rfl⟩
      rw [← ea3]
      have hN3 : a3.tmps.size = 72 := by rw [ea3]; simpa [Act.put] using hN2
      have hd3 : a3.defers = Ds.map zbi := by rw [ea3]; exact hd2
      have hit3 : a3.tmps[47]? = some (.pointer (some ⟨it, 0, none⟩)) := by
        rw [ea3]
        show ((a2.tmps.setIfInBounds 50 _).setIfInBounds 51 _)[47]? = _
        rw [Array.getElem?_setIfInBounds, if_neg (by decide), Array.getElem?_setIfInBounds, if_neg (by decide)]; exact hit2
      have hs3' : SR σ (s3 q m) a3.tmps := by rw [ea3]; exact (hs2.skip (zdB (by decide) (by decide) (by decide)) _).skip (zdB (by decide) (by decide) (by decide)) _
      have hkr : VR σ (key2 ka kb) (key2 ka kb) := VR.agg_of (.cons (.int _ _) (.cons (.int _ _) (.nil _)))
      have hs4 : SR σ ((s3 q m).set p51 (key2 ka kb)) a3.tmps := by
        have : a3.tmps = ((a2.put (some 50) (.tuple #[key2 ka kb, e0.2.1])).tmps).setIfInBounds 51 (key2 ka kb) := by rw [ea3]; rfl
        rw [this]
        exact SR.set (t := 51) (hs2.skip (t := 50) (zdB (by decide) (by decide) (by decide)) _) (by simp; omega) hkr
      have hih : ∀ tt o, E F 0 tt = some o → zgB Try.prog 0 tt o := fun tt o he => by cases he
      refine zc1 e13c f13c.2 (zgf (s := (s3 q m).set p51 (key2 ka kb)) hih c13c none hr2 hs4 (v := ptr h.next) (h' := h.new (.cells [.int .i64 0, .int .i64 0] 0)) rfl ?_)
      intro v4 w4 σ4 hv4 hr4 hx4
      rw [f13c.1]
      obtain ⟨a4, ea4⟩ : ∃ a4 : Act, a4 = a3.put (some 11) v4 := ⟨_, rfl⟩
      rw [← ea4]
      have hN4 : a4.tmps.size = 72 := by rw [ea4]; simpa [Act.put] using hN3
      have hd4 : a4.defers = Ds.map zbi := by rw [ea4]; exact hd3
      have hit4 : a4.tmps[47]? = some (.pointer (some ⟨it, 0, none⟩)) := by
        rw [ea4]
        show (a3.tmps.setIfInBounds 11 _)[47]? = _
        rw [Array.getElem?_setIfInBounds, if_neg (by decide)]; exact hit3
      have hs5 : SR σ4 (((s3 q m).set p51 (key2 ka kb)).set p11 (ptr h.next)) a4.tmps := by
        rw [ea4]
        exact SR.set (t := 11) (hs4.mono hx4.le) (by omega) hv4
      have hg5 : (h.new (.cells [.int .i64 0, .int .i64 0] 0)).get h.next = some (.cells [.int .i64 0, .int .i64 0] 0) := by simp
      refine zc1 e13d f13d.2 (zgf (s := ((s3 q m).set p51 (key2 ka kb)).set p11 (ptr h.next)) hih c13d none hr4 hs5 (v := zL) (h' := h.new (.cells [.int .i64 ka, .int .i64 kb] 0)) ?_ ?_)
      · have e1 : (CO.t p11).ev (((s3 q m).set p51 (key2 ka kb)).set p11 (ptr h.next)) = some (ptr h.next) := rfl
        have e2 : (CO.t p51).ev (((s3 q m).set p51 (key2 ka kb)).set p11 (ptr h.next)) = some (key2 ka kb) := rfl
        show zfY 2 (.t p11) (.t p51) (((s3 q m).set p51 (key2 ka kb)).set p11 (ptr h.next)) (h.new (.cells [.int .i64 0, .int .i64 0] 0)) = _
        unfold zfY
        rw [e1, Option.bind_some, e2, Option.bind_some]
        simp (disch := first | omega | (simp only [za, zb]; done)) [zd9]
      intro v6 w6 σ6 hv6 hr6 hx6
      rw [f13d.1]
      show bB.wpIn Fence.wide 0 Try.prog _ a4 w6
      obtain ⟨h6, eh6⟩ : ∃ h6, h6 = h.new (.cells [.int .i64 ka, .int .i64 kb] 0) := ⟨_, rfl⟩
      rw [← eh6] at hr6
      have hf6 : Fr h h6 := by rw [eh6]; exact .new _ _
      have hn6 : h6.next = h.next + 1 := by rw [eh6]; simp
      have hfA := hf.trans hf6
      have gp6 : h6.get h.next = some (.cells (prL (ka, kb)) 0) := by rw [eh6]; simp
      have hx46 := hx4.trans hx6
      have hX6 : Ext ρ0 w0 σ6 w6 := hx2.trans hx46
      have hD6 := hD2.ext hx46
      obtain ⟨hi6, hun6⟩ := hx46.keeps hi2 hun
      have hs6 : SR σ6 (setL [p3, p4, p8, p11] [ptr q, ptr (q + 1), .map (some m), ptr h.next]) a4.tmps := (hs5.mono hx6.le).keep [p3, p4, p8, p11]
      obtain ⟨hB, hfB, eB⟩ := bisB_ok R eg fg heg hfg hez hfz st lb st' lb' sl sl' m q h.next (ka, kb) h6 (hrow.fr hfA) (hrow'.fr hfA) ⟨es, clk, (hfA.get _ hml).trans hgm, hmi⟩ (by omega) ((hfA.get _ (by omega)).trans hg) ((hfA.get _ (by omega)).trans hg') gp6 (by omega) (by omega)
      obtain ⟨nB, oB, hEB, hapB⟩ := piece_run eB
      obtain ⟨x14, hcB, hxc⟩ := bB_parts
      rw [hcB] at hEB
      obtain ⟨nB', rfl⟩ : ∃ k, nB = k + 1 := by cases nB with | zero => cases hEB | succ k => exact ⟨k, rfl⟩
      rw [zf9] at hEB
      obtain ⟨o14, hE1, hE2⟩ := aof (show (E F nB' (.code (.ops x14) _ h6)).bind (thenK (E F nB') _ c14) = some oB from hEB)
      obtain ⟨nB, rfl⟩ : ∃ k, nB' = k + 1 := by cases nB' with | zero => cases hE1 | succ k => exact ⟨k, rfl⟩
      rw [zf9] at hE1
      obtain ⟨⟨sF, hF14⟩, hrun14, rfl⟩ := amf (show (zdd (E F nB) x14 _ h6).map nrmOf = some o14 from hE1)
      have hE2 : E F (nB + 1) (.code c14 (zJ [p3, p4, p8, p71] sF) hF14) = some oB := hE2
      rw [bB_eq]
      refine wpIn_seq (wpIn_region ?_)
      rw [List.range_eq_range']
      refine zhL (E_sound hmixT okFs nB) none (aI := a4) ?_ _ 0 x14 σ6 _ h6 a4 w6 (by omega) (by rw [List.drop_zero]; exact hxc) hrun14 hr6 hs6 hN4 hd4 hD6 (.refl _ _) (fun t _ => rfl)
      rintro a7 w7 ⟨σ7, Ds7, s7, h7, hx7, hN7, hd7, ⟨hD7, hDs7⟩, hs7, hr7, hcase⟩ hkeep
      obtain ⟨rfl, rfl⟩ : s7 = sF ∧ h7 = hF14 := by
        rcases hcase with ⟨e, -⟩ | ⟨i, e, -⟩ | ⟨e, -⟩
        · cases e; exact ⟨rfl, rfl⟩
        · cases e
        · cases e
      have hit7 : a7.tmps[47]? = some (.pointer (some ⟨it, 0, none⟩)) := by
        rw [hkeep 47 (fun o ho => by have := List.all_eq_true.1 d14 o ho; intro e; rw [e] at this; simp at this)]; exact hit4
      have hDsA : ∀ D ∈ Ds7, w0.heap.size ≤ D := fun D hDm => (hDs7 D hDm).elim (fun h => hDs D h) (fun h => Nat.le_trans hX6.size h)
      obtain ⟨hi7, hun7⟩ := hx7.keeps hi6 hun6
      have hX7 := hX6.trans hx7
      show (sqR bB).wpIn Fence.wide 0 Try.prog _ a7 w7
      rw [bX_eq]
      rw [zf9] at hE2
      obtain ⟨vc, hvc, hE3⟩ := aof (show ((CO.t p71).ev (zJ [p3, p4, p8, p71] s7)).bind (fun v => (condV cX .skip v).bind fun x => E F nB (.code x (zJ [p3, p4, p8, p71] s7) h7)) = some oB from hE2)
      obtain ⟨xc, hxcc, hE4⟩ := aof hE3
      have hsk := hs7.keep [p3, p4, p8, p71]
      have hcv := zbu (a := a7) (x := .tmp 71) (c := .t p71) rfl hsk hvc
      unfold condV at hxcc
      split at hxcc
      ·
        cases hxcc
        have hoB : oB = .ret (zJ [p6, p7] (((zJ [p3, p4, p8, p71] s7).set p6 (.bool false)).set p7 (.int .i64 0))) h7 := E_det hE4 (m := 2) rfl
        subst hoB
        obtain ⟨v6', g6, hap⟩ := aof hapB
        obtain ⟨v7', g7, hap⟩ := aof hap
        have hap := Option.some.inj hap
        cases hq : okQ R eg fg (ka, kb) with
        | true => rw [hq, if_pos rfl] at hap; simp at hap
        | false =>
          rw [hq, if_neg (by simp)] at hap
          simp only [Out.val.injEq, Value.tuple.injEq, Array.mk.injEq, List.cons.injEq, and_true, true_and] at hap
          obtain ⟨⟨rfl, rfl⟩, rfl⟩ := hap
          refine wpIn_cond_true hcv.inv_bool (wpIn_mono (zia hmixT okFs hE4 cX_comp hN7 hsk hr7 hd7 hD7) ?_)
          rintro e8 a8 w8 ⟨σ8, Ds8, s8, h8, hx8, hN8, hd8, ⟨hD8, hDs8⟩, hs8, hr8, hcase8⟩
          rcases hcase8 with ⟨e, -⟩ | ⟨i, e, -⟩ | ⟨e, rfl⟩
          · cases e
          · cases e
          · cases e
            show Q .ret a8 w8
            exact hret ⟨e0, he0, ka, kb, hk, hq⟩ σ8 h7 Ds8 a8 w8 (hX7.trans hx8) hN8 hd8 hD8 (fun D hDm => (hDs8 D hDm).elim (hDsA D) (fun h => Nat.le_trans hX7.size h)) hr8 (hfA.trans hfB) _ hs8 g6 g7
      ·
        cases hxcc
        have hoB : oB = .nrm (zJ [p3, p4, p8, p71] s7) h7 := E_det hE4 (m := 1) rfl
        subst hoB
        obtain ⟨v3', g3, hap⟩ := aof hapB
        obtain ⟨v4', g4, hap⟩ := aof hap
        obtain ⟨v8', g8, hap⟩ := aof hap
        have hap := Option.some.inj hap
        cases hq : okQ R eg fg (ka, kb) with
        | false => rw [hq, if_neg (by simp)] at hap; simp at hap
        | true =>
          rw [hq, if_pos rfl] at hap
          simp only [Out.val.injEq, Value.tuple.injEq, Array.mk.injEq, List.cons.injEq, and_true, true_and] at hap
          obtain ⟨⟨rfl, rfl, rfl⟩, rfl⟩ := hap
          refine wpIn_cond_false hcv.inv_bool (wpIn_skip ?_)
          show Code.roundsIn Fence.wide 0 Try.prog zfZ _ (n' + 1) a7 w7
          have hs37 : SR σ7 (s3 q m) a7.tmps := by
            have e : zJ [p3, p4, p8] (zJ [p3, p4, p8, p71] s7) = s3 q m := keepS_of rfl (fun i p v hp hv => by
              match i with
              | 0 => cases hp; cases hv; exact g3
              | 1 => cases hp; cases hv; exact g4
              | 2 => cases hp; cases hv; exact g8
              | i + 3 => simp at hp)
            rw [← e]; exact hsk.keep _
          refine ih n' rfl (seen.push e0.2.2) a7 w7 (by omega) ⟨σ7, h7, Ds7, Rm, hX7, hN7, hd7, ⟨hD7, hDsA⟩, hs37, hr7, hfA.trans hfB, hit7, hi7, hun7, hx7.le _ _ (hx46.le _ _ hm), hbm, hitn⟩ ?_
          intro e he hse a b hkk
          by_cases heq : e.2.2 = e0.2.2
          · have hee : e = e0 := by
              have h1 := find_born (⟨e.1, e.2.1, e.2.2⟩ : MapEntry) (zeS es).toList hnd (List.mem_map.2 ⟨e, he, rfl⟩)
              have h2 := find_born (⟨e0.1, e0.2.1, e0.2.2⟩ : MapEntry) (zeS es).toList hnd (List.mem_map.2 ⟨e0, he0, rfl⟩)
              simp only at h1 h2
              rw [heq, h2] at h1
              have h3 := Option.some.inj h1
              simp only [MapEntry.mk.injEq] at h3
              exact Prod.ext h3.1.symm (Prod.ext h3.2.1.symm heq)
            subst hee
            rw [hk] at hkk
            cases hkk
            exact hq
          · refine hgood e he ?_ a b hkk
            rw [Array.contains_push] at hse
            simp only [Bool.or_eq_true, beq_iff_eq] at hse
            rcases hse with h | h
            · exact h
            · exact absurd h.symm (fun h => heq (by omega))
      · cases hxcc
theorem bis_loop (heg : zY eg) (hfg : zY fg) (hez : eg.length ≤ 1000) (hfz : fg.length ≤ 1000) (hrow : Row hA 3 sl (eg.map edL)) (hrow' : Row hA 3 sl' (fg.map edL)) (hgm : hA.get m = some (.map es clk)) (hmi : zgC es (sV R)) (hok : zfc es clk) (hqm : q + 1 < m) (hml : m < hA.next) (hg : hA.get q = some (.cells (gL st lb sl) 0)) (hg' : hA.get (q + 1) = some (.cells (gL st' lb' sl') 0))
    {Q : Exit → Act → World → Prop}
    (hend : (∀ e ∈ es, ∀ a b, e.1 = key2 a b → okQ R eg fg (a, b) = true) → ∀ seen a w, BInv ρ0 w0 hA q m bm it clk seen a w → bE.wpIn Fence.wide 0 Try.prog Q a w)
    (hret : (∃ e ∈ es, ∃ a b, e.1 = key2 a b ∧ okQ R eg fg (a, b) = false) → ∀ σ h Ds a w, Ext ρ0 w0 σ w → a.tmps.size = 72 → a.defers = Ds.map zbi → zb8 σ w Ds → (∀ D ∈ Ds, w0.heap.size ≤ D) → HR Try.prog σ h w → Fr hA h → ∀ s, SR σ s a.tmps → s.get p6 = some (.bool false) → s.get p7 = some (.int .i64 0) → Q .ret a w) :
    ∀ n seen a w, (leftOf (zeS es) seen).size ≤ n → BInv ρ0 w0 hA q m bm it clk seen a w → (∀ e ∈ es, seen.contains e.2.2 = true → ∀ a b, e.1 = key2 a b → okQ R eg fg (a, b) = true) →
      Code.roundsIn Fence.wide 0 Try.prog zfZ (Exit.inBlock 2 (Exit.then (bE.wpIn Fence.wide 0 Try.prog Q) Q)) (n + 1) a w := by
  intro n
  induction n with
  | zero =>
    intro seen a w hsz hI hgood
    exact bis_step heg hfg hez hfz hrow hrow' hgm hmi hok hqm hml hg hg' hend hret 0 (fun _ h => by omega) seen a w hsz hI hgood
  | succ n ih =>
    exact bis_step heg hfg hez hfz hrow hrow' hgm hmi hok hqm hml hg hg' hend hret (n + 1) fun n' hn' => by
      have : n' = n := by omega
      subst this; exact ih
end
theorem Row_det {h : H} {sz : Nat} {v : Value} {rows rows' : List (List Value)} (h1 : Row h sz v rows) (h2 : Row h sz v rows') : rows = rows' := by
  cases h1 with
  | nil => obtain ⟨b, c, e⟩ := h2.len; cases rows' with | nil => rfl | cons _ _ => cases e
  | hole _ => obtain ⟨b, c, e⟩ := h2.len; cases rows' with | nil => rfl | cons _ _ => cases e
  | @cells b off cap e cs rows hlt hg hrd hcap =>
    have hl : rows'.length = rows.length := by
      obtain ⟨b', c', e'⟩ := h2.len
      simp only [Value.slice.injEq] at e'
      exact e'.2.1.symm
    apply List.ext_getElem?
    intro i
    by_cases hi : i < rows.length
    · have e1 : rows[i]? = some rows[i] := List.getElem?_eq_getElem hi
      have e2 : rows'[i]? = some (rows'[i]'(by omega)) := List.getElem?_eq_getElem _
      obtain ⟨b2, o2, cs2, x2, k1, k2, k3, k4⟩ := h2.index e2
      have k0 := hrd i _ e1
      have hb : b2 = b ∧ o2 = off + i * sz := by
        have := k1 h
        rw [zhs (by omega)] at this
        simp only [Option.some.injEq, Prod.mk.injEq, Value.pointer.injEq, Addr.mk.injEq, and_true] at this
        exact ⟨this.1.symm, this.2.symm⟩
      obtain ⟨rfl, rfl⟩ := hb
      rw [hg] at k3
      cases k3
      rw [k0] at k4
      rw [e1, e2, Option.some.inj k4]
    · rw [List.getElem?_eq_none (by omega), List.getElem?_eq_none (by omega)]
theorem zfk : ∀ {es fs : List Ed}, es.map edL = fs.map edL → es = fs
  | [], [], _ => rfl
  | [], _ :: _, h => by simp at h
  | _ :: _, [], h => by simp at h
  | x :: es, y :: fs, h => by
    obtain ⟨h1, h2⟩ := List.cons.inj h
    simp only [edL, List.cons.injEq, Value.int.injEq, true_and, and_true] at h1
    rw [zfk h2, Prod.ext h1.1 (Prod.ext h1.2.1 h1.2.2)]
theorem zhQ : ∀ {es fs : List (Int × Int)}, es.map prL = fs.map prL → es = fs
  | [], [], _ => rfl
  | [], _ :: _, h => by simp at h
  | _ :: _, [], h => by simp at h
  | x :: es, y :: fs, h => by
    obtain ⟨h1, h2⟩ := List.cons.inj h
    simp only [prL, List.cons.injEq, Value.int.injEq, true_and, and_true] at h1
    rw [zhQ h2, Prod.ext h1.1 h1.2]
def zjG (args : List Value) (h : H) (r : Value) : Prop := ∃ st lb sl es st' lb' sl' fs v ps, args = [gV st lb sl, gV st' lb' sl', v] ∧ Row h 3 sl (es.map edL) ∧ Row h 3 sl' (fs.map edL) ∧ Row h 2 v (ps.map prL) ∧ ps.length ≤ 100000 ∧ r = bisA st lb es st' lb' fs ps
theorem zjG.det {args : List Value} {h : H} {r r' : Value} (h1 : zjG args h r) (h2 : zjG args h r') : r = r' := by
  obtain ⟨st, lb, sl, es, st', lb', sl', fs, v, ps, rfl, q1, q2, q3, q4, rfl⟩ := h1
  obtain ⟨_, _, _, es2, _, _, _, fs2, _, ps2, e, k1, k2, k3, k4, rfl⟩ := h2
  simp only [List.cons.injEq, Value.agg.injEq, Array.mk.injEq, Value.int.injEq, true_and, and_true] at e
  obtain ⟨⟨rfl, rfl, rfl⟩, ⟨rfl, rfl, rfl⟩, rfl⟩ := e
  rw [zfk (Row_det q1 k1), zfk (Row_det q2 k2), zhQ (Row_det q3 k3)]
open Classical in
def bisP (args : List Value) (h : H) : Option (Value × H) := if hx : ∃ r, zjG args h r then some (Classical.choose hx, h) else none
theorem bisP_some {args : List Value} {h : H} {r : Value} (hx : zjG args h r) : bisP args h = some (r, h) := by
  unfold bisP
  rw [dif_pos ⟨r, hx⟩]
  rw [(Classical.choose_spec (⟨r, hx⟩ : ∃ r, zjG args h r)).det hx]
theorem findE_mem {k v : Value} : ∀ {es : List (Value × Value × Nat)}, zdW kk2 k es = some (some v) → ∃ e ∈ es, zbc kk2 k e.1 = some true
  | [], h => by cases h
  | (key, w, n) :: es, h => by
    rw [zce] at h
    obtain ⟨s, h1, h⟩ := aof h
    cases s with
    | true => exact ⟨_, List.mem_cons_self, h1⟩
    | false => obtain ⟨e, he, h2⟩ := findE_mem h; exact ⟨e, List.mem_cons_of_mem _ he, h2⟩
theorem findE_hit {a b : Int} : ∀ {es : List (Value × Value × Nat)}, (∀ e ∈ es, ∃ a b, e.1 = key2 a b) → (∃ e ∈ es, e.1 = key2 a b) → zdW kk2 (key2 a b) es ≠ some none
  | [], _, h => by obtain ⟨e, he, _⟩ := h; cases he
  | (key, w, n) :: es, hk, h => by
    obtain ⟨p, q, e⟩ := hk _ List.mem_cons_self
    have e : key = key2 p q := e
    subst e
    rw [zce, zbI]
    by_cases hab : a = p ∧ b = q
    · simp [hab]
    · have hf : (decide (a = p) && decide (b = q)) = false := by
        rw [Bool.eq_false_iff]; intro h'; simp at h'; exact hab h'
      rw [hf]
      refine findE_hit (fun e he => hk e (List.mem_cons_of_mem _ he)) ?_
      obtain ⟨e, he, h2⟩ := h
      rcases List.mem_cons.1 he with rfl | he
      · exfalso
        have h2 : key2 p q = key2 a b := h2
        simp only [Value.agg.injEq, Array.mk.injEq, List.cons.injEq, Value.int.injEq, true_and, and_true] at h2
        exact hab ⟨h2.1.symm, h2.2.symm⟩
      · exact ⟨e, he, h2⟩
theorem zju {es : List (Value × Value × Nat)} {ps : List (Int × Int)} (hmi : zgC es (sV (inP ps))) (Qp : Int × Int → Bool) : (∀ e ∈ es, ∀ a b, e.1 = key2 a b → Qp (a, b) = true) ↔ ps.all Qp = true := by
  have hin : ∀ a b, inP ps a b = true ↔ (a, b) ∈ ps := by
    intro a b
    unfold inP
    rw [List.any_eq_true]
    constructor
    · rintro ⟨p, hp, h⟩
      have := of_decide_eq_true h
      have e : p = (a, b) := Prod.ext this.1 this.2
      rwa [← e]
    · intro h; exact ⟨_, h, by simp⟩
  constructor
  · intro h
    rw [List.all_eq_true]
    rintro ⟨a, b⟩ hp
    have h1 := hmi.look a b
    rw [show sV (inP ps) a b = some (.bool true) by unfold sV; rw [if_pos ((hin a b).2 hp)]] at h1
    obtain ⟨e, he, hs⟩ := findE_mem h1
    obtain ⟨p, q, hk⟩ := hmi.keys e he
    rw [hk, zbI] at hs
    simp only [Option.some.injEq, Bool.and_eq_true, decide_eq_true_eq] at hs
    obtain ⟨rfl, rfl⟩ := hs
    exact h e he _ _ hk
  · intro h e he a b hk
    have h1 := findE_hit hmi.keys ⟨e, he, hk⟩
    rw [hmi.look] at h1
    have h2 : inP ps a b = true := by
      cases hc : inP ps a b with
      | true => rfl
      | false => exact absurd (by unfold sV; rw [hc]; rfl) h1
    exact List.all_eq_true.1 h _ ((hin a b).1 h2)
theorem res67 : allO (zbr Try.prog) Try.f22.results.toList = some [.tmp p6, .tmp p7] := by kernel_rfl
theorem ntmps22 : Try.f22.ntmps = 72 := by kernel_rfl
theorem res_of67 {s : ze} {a b : Value} (ha : s.get p6 = some a) (hb : s.get p7 = some b) (h : H) : ziU [.tmp p6, .tmp p7] s h = some (.val (.tuple ⟨[a, b]⟩) h) := by
  show (allO (resV s h) [.tmp p6, .tmp p7]).map _ = _
  have e1 : resV s h (.tmp p6) = some a := ha
  have e2 : resV s h (.tmp p7) = some b := hb
  have : allO (resV s h) [.tmp p6, .tmp p7] = some [a, b] := by
    show (resV s h (.tmp p6)).bind (fun x => ((resV s h (.tmp p7)).bind fun y => (some []).map (y :: ·)).map (x :: ·)) = _
    rw [e1, e2]; rfl
  rw [this]; rfl
theorem bis_prim : PrimOk Try.prog 22 bisP := by
  have hname : (Try.f22.name == "runtime.NumGoroutine") = false := by kernel_rfl
  refine ⟨fun args w => by
    have hne : ¬ Try.f22.name = "runtime.NumGoroutine" := by simpa using hname
    have hb := bC_eq
    simp [callFunc, Try.func22, hne, hb], ?_⟩
  intro args h v h' hp ρ args' w ra hr
  unfold bisP at hp
  split at hp
  · rename_i hx
    have hans := Classical.choose_spec hx
    cases hp
    generalize Classical.choose hx = ans at hans
    obtain ⟨st, lb, sl, eg, st', lb', sl', fg, v, ps, rfl, hrow, hrow', hr2, hps, rfl⟩ := hans
    obtain ⟨Pq, hPq⟩ : ∃ Pq : Value → H → Prop, Pq = fun v1 h1 => Fr h h1 ∧ (((two st lb eg st' lb' fg && ps.all (rngQ st st')) = false ∧ v1 = .tuple ⟨[.bool false, .bool false, .int .i64 2]⟩) ∨
      ((two st lb eg st' lb' fg && ps.all (rngQ st st')) = true ∧ ∃ q m, q + 1 < m ∧ m < h1.next ∧ h1.get q = some (.cells (gL st lb sl) 0) ∧ h1.get (q + 1) = some (.cells (gL st' lb' sl') 0) ∧ SetM h1 m (inP ps) ∧ v1 = .tuple ⟨[.bool true, ptr q, ptr (q + 1), .map (some m)]⟩)) := ⟨_, rfl⟩
    obtain ⟨v1, h1, hsh, hP1⟩ := bisA_ok st lb st' lb' eg fg ps hps v sl sl' h hrow hrow' hr2 (P := Pq)
      (fun hc h1 hf => by rw [hPq]; exact ⟨hf, .inl ⟨hc, rfl⟩⟩) (fun hc h1 q m hf q1 q2 q3 q4 q5 q6 => by rw [hPq]; exact ⟨hf, .inr ⟨hc, q, m, q2, q3, q4, q5, q6, rfl⟩⟩)
    rw [hPq] at hP1
    obtain ⟨hf1, hcase⟩ := hP1
    obtain ⟨n, o, hE, hap⟩ := piece_run hsh
    refine (callsIn_wide (n := 0)).1 (callsIn_of_wp_marks Try.func22 bC_eq trivial ?_)
    rw [ntmps22]
    have hsz3 : args'.size = 3 := by have := ra.1; simp at this; omega
    have hs0 : SR ρ (setL [p0, p1, p2] [gV st lb sl, gV st' lb' sl', v]) (args' ++ Array.replicate (72 - args'.size) undef) := (args_SR ra _).keep [p0, p1, p2]
    refine wp_app hmixT okFs 3 n c_bisA bA 72 bA_comp _ h o hE ρ _ w [] (by simp; omega) hs0 hr rfl ⟨List.nodup_nil, by simp⟩ ?_
    rintro e a1 w1 hpost
    obtain ⟨σ, Ds, s1, hh, hx1, hN1, hd1, hD1, hDs1, hs1, hr1, hcase1⟩ := hpost.nil_ge
    have fin : ∀ {σ : Rho} {h2 : H} {Ds : List Nat} {a : Act} {w2 : World} {s : ze} {b : Bool} {k : Int}, Ext ρ w σ w2 → a.defers = Ds.map zbi → zb8 σ w2 Ds → (∀ D ∈ Ds, w.heap.size ≤ D) → HR Try.prog σ h2 w2 → Fr h h2 → SR σ s a.tmps → s.get p6 = some (.bool b) → s.get p7 = some (.int .i64 k) → bisA st lb eg st' lb' fg ps = zdg (.bool b) (.int .i64 k) →
        LeavesInM Fence.wide 0 Try.prog Try.f22 a.tmps (VPost Try.prog ρ w (.val (bisA st lb eg st' lb' fg ps) h)) a.defers .returning w2 := by
      intro σ h2 Ds a w2 s b k hx2 hd2 hD2 hDs2 hr2' hf2 hs2 g6 g7 hans
      rw [hd2, hans]
      refine zfL (ρ0 := ρ) (w0 := w) res67 (res_of67 g6 g7 h2) hs2 ?_ Ds w2 hD2 hDs2 hr2' hx2
      intro v' w3 hv3 hr3 hx3
      obtain ⟨r1, r2⟩ := hr.restrict hr3 hx3 (fun i hi => hf2.get i hi)
      refine ⟨_, _, v', ρ, rfl, rfl, ?_, r1, r2⟩
      obtain ⟨ys, rfl, hl⟩ := hv3.inv_tuple
      obtain ⟨y1, t1, e1, k1, k2⟩ := hl.cons_left
      obtain ⟨y2, t2, e2, k3, k4⟩ := k2.cons_left
      have := k4.nil_left
      subst this
      rw [k1.inv_bool] at e1
      rw [k3.inv_int] at e2
      subst e2
      have : ys = ⟨[.bool b, .int .i64 k]⟩ := by rw [← Array.toList_inj, e1]
      rw [this]
      exact VR.tuple_of (.cons (.bool _) (.cons (.int _ _) (.nil _)))
    rcases hcase with ⟨hc, rfl⟩ | ⟨hc, q, m, q2, q3, q4, q5, q6, rfl⟩
    ·
      have hans : bisA st lb eg st' lb' fg ps = zdg (.bool false) (.int .i64 2) := by
        unfold bisA
        cases h2w : two st lb eg st' lb' fg with
        | false => simp
        | true => rw [h2w] at hc; simp only [Bool.true_and] at hc; simp [hc]
      rcases hcase1 with ⟨rfl, rfl⟩ | ⟨i, rfl, rfl⟩ | ⟨rfl, rfl⟩
      · exfalso
        obtain ⟨x3, g3, hap⟩ := aof hap
        obtain ⟨x4, g4, hap⟩ := aof hap
        obtain ⟨x8, g8, hap⟩ := aof hap
        have hap := Option.some.inj hap
        simp at hap
      · cases hap
      · obtain ⟨x6, g6, hap⟩ := aof hap
        obtain ⟨x7, g7, hap⟩ := aof hap
        have hap := Option.some.inj hap
        simp only [Out.val.injEq, Value.tuple.injEq, Array.mk.injEq, List.cons.injEq, and_true, true_and] at hap
        obtain ⟨⟨rfl, rfl⟩, rfl⟩ := hap
        exact fin hx1 hd1 hD1 hDs1 hr1 hf1 hs1 g6 g7 hans
    ·
      rcases hcase1 with ⟨rfl, rfl⟩ | ⟨i, rfl, rfl⟩ | ⟨rfl, rfl⟩
      · obtain ⟨x3, g3, hap⟩ := aof hap
        obtain ⟨x4, g4, hap⟩ := aof hap
        obtain ⟨x8, g8, hap⟩ := aof hap
        have hap := Option.some.inj hap
        simp only [Out.val.injEq, Value.tuple.injEq, Array.mk.injEq, List.cons.injEq, and_true, true_and] at hap
        obtain ⟨⟨rfl, rfl, rfl⟩, rfl⟩ := hap
        have hs13 : SR σ (s3 q m) a1.tmps := by
          have e : zJ [p3, p4, p8] s1 = s3 q m := keepS_of rfl (fun i p v hp hv => by
            match i with
            | 0 => cases hp; cases hv; exact g3
            | 1 => cases hp; cases hv; exact g4
            | 2 => cases hp; cases hv; exact g8
            | i + 3 => simp at hp)
          rw [← e]; exact hs1.keep _
        obtain ⟨es, clk, hgm, hmi, hok⟩ := q6
        have h2w : two st lb eg st' lb' fg = true := by
          cases h2w : two st lb eg st' lb' fg with
          | true => rfl
          | false => rw [h2w] at hc; cases hc
        have hrg : ps.all (rngQ st st') = true := by rw [h2w] at hc; exact hc
        have h2w' := h2w
        unfold two at h2w'
        simp only [Bool.and_eq_true, decide_eq_true_eq] at h2w'
        have fm := (zgp st lb eg).1 h2w'.1.1
        have fm' := (zgp st' lb' fg).1 h2w'.1.2
        have e5 := fm.len
        have e6 := fm'.len
        have hm8 : ∃ R, σ m = some R ∧ a1.eval (.tmp 8) = .map (some R.blk) := by
          obtain ⟨x, hx, hv⟩ := hs13 8 (.map (some m)) rfl
          cases hv with | @map _ R h => exact ⟨R, h, zc5 hx⟩
        obtain ⟨Rm, hRm, hev8⟩ := hm8
        obtain ⟨es', hb, hlen, hrel⟩ := hr1.obj m Rm _ hRm hgm
        obtain rfl := real_of hlen hrel hok.kv
        obtain ⟨kt, et, hu⟩ := u81
        have hne : ∀ c, o11a.op ≠ .defer c := fun c => by rw [f11a.1]; nofun
        have hne2 : ∀ c, o11b.op ≠ .defer c := fun c => by rw [f11b.1]; nofun
        obtain ⟨it, eit⟩ : ∃ it, it = w1.heap.size := ⟨_, rfl⟩
        show (Code.seq _ bE).wpIn Fence.wide 0 Try.prog _ a1 w1
        refine wpIn_seq (wpIn_seq (wpIn_region ?_))
        rw [s11]
        refine zc1 e11a f11a.2.2 (zji hne (v := .map (some Rm.blk)) (w' := w1) ?_ ?_)
        · simp only [execOp, f11a.1, hev8, Sem.run_pure]
        have hev46 : (a1.put o11a.dst (.map (some Rm.blk))).eval (.tmp 46) = .map (some Rm.blk) := by
          rw [f11a.2.1]
          refine zc5 ?_
          show (a1.tmps.setIfInBounds 46 _)[46]? = _
          rw [Array.getElem?_setIfInBounds, if_pos rfl, if_pos (by omega)]
        refine zc1 e11b f11b.2.2 (zji hne2 (v := .pointer (some ⟨it, 0, none⟩)) (w' := w1.alloc (.mapIter (some Rm.blk) clk #[] clk)) ?_ ?_)
        · simp only [execOp, f11b.1, Sem.run_bind, hev46, run_range_map w1 81 kt et Rm.blk (zeS es) clk hu hb, Result.andThen_ok, Sem.run_pure, eit]
        rw [f11b.2.1, f11a.2.1]
        obtain ⟨a2, ea2⟩ : ∃ a2 : Act, a2 = (a1.put (some 46) (.map (some Rm.blk))).put (some 47) (.pointer (some ⟨it, 0, none⟩)) := ⟨_, rfl⟩
        rw [← ea2]
        obtain ⟨hr2', hx2⟩ := hr1.garbage (o := .mapIter (some Rm.blk) clk #[] clk) (zid _ _ _ _)
        have hI : BInv ρ w hh q m Rm.blk it clk #[] a2 (w1.alloc (.mapIter (some Rm.blk) clk #[] clk)) := by
          refine ⟨σ, hh, Ds, Rm, hx1.trans hx2, by rw [ea2]; simpa [Act.put] using hN1, by rw [ea2]; exact hd1, ⟨hD1.ext hx2, hDs1⟩, ?_, hr2', .refl _, ?_, ?_, fun i S hi e => ?_, hRm, rfl, by rw [eit]; exact hx1.size⟩
          · rw [ea2]
            exact (hs13.skip (t := 46) (zdB (by decide) (by decide) (by decide)) _).skip (t := 47) (zdB (by decide) (by decide) (by decide)) _
          · rw [ea2]
            show ((a1.tmps.setIfInBounds 46 _).setIfInBounds 47 _)[47]? = _
            rw [Array.getElem?_setIfInBounds, if_pos rfl, if_pos (by simp; omega)]
          · rw [eit]; exact Go.heap_alloc_new _ _
          · have := hr1.blk i S hi; omega
        refine wpIn_block (wpIn_loop_rounds (es.length + 1) ?_)
        refine bis_loop (R := inP ps) fm.sortedF fm'.sortedF (by omega) (by omega) (hrow.fr hf1) (hrow'.fr hf1) hgm hmi hok q2 q3 q4 q5 (Q := bodyPostM Fence.wide 0 Try.prog Try.f22 (VPost Try.prog ρ w (.val (bisA st lb eg st' lb' fg ps) h))) ?_ ?_ es.length #[] a2 _ ?_ hI (fun e he hs => by simp at hs)
        ·
          intro hall seen a w2 hI2
          obtain ⟨σ2, h2, Ds2, R2, hx3, hN3, hd3, ⟨hD3, hDs3⟩, hs3', hr3, hf3, hit3, hi3, hun3, hm3, hb3, hit3'⟩ := hI2
          have hq := (zju hmi (okQ (inP ps) eg fg)).1 hall
          have hans : bisA st lb eg st' lb' fg ps = zdg (.bool true) (.int .i64 0) := by
            unfold bisA
            rw [if_pos h2w, if_pos hrg]
            have : ps.all (bisQ eg fg ps) = true := by
              rw [List.all_eq_true] at hq ⊢
              intro p hp; rw [← okQ_bisQ]; exact hq p hp
            rw [this]
          have hEe : E F 2 (.code cEnd (s3 q m) h2) = some (.ret (zJ [p6, p7] (((s3 q m).set p6 (.bool true)).set p7 (.int .i64 0))) h2) := rfl
          refine wpIn_mono (zia hmixT okFs hEe bE_comp hN3 hs3' hr3 hd3 hD3) ?_
          rintro e4 a4 w4 ⟨σ4, Ds4, s4, h4, hx4, hN4, hd4, ⟨hD4, hDs4⟩, hs4, hr4, hcase4⟩
          rcases hcase4 with ⟨e, -⟩ | ⟨i, e, -⟩ | ⟨e, rfl⟩
          · cases e
          · cases e
          · cases e
            exact fin (hx3.trans hx4) hd4 hD4 (fun D hDm => (hDs4 D hDm).elim (hDs3 D) (fun h => Nat.le_trans hx3.size h)) hr4 (hf1.trans hf3) hs4 (b := true) (k := 0) rfl rfl hans
        ·
          rintro ⟨e0, he0, a0, b0, hk0, hq0⟩ σ4 h4 Ds4 a4 w4 hx4 hN4 hd4 hD4 hDs4 hr4 hf4 s4 hs4 g6 g7
          have hans : bisA st lb eg st' lb' fg ps = zdg (.bool false) (.int .i64 0) := by
            unfold bisA
            rw [if_pos h2w, if_pos hrg]
            have : ps.all (bisQ eg fg ps) = false := by
              cases hc2 : ps.all (bisQ eg fg ps) with
              | false => rfl
              | true =>
                have hq : ps.all (okQ (inP ps) eg fg) = true := by
                  rw [List.all_eq_true] at hc2 ⊢
                  intro p hp; rw [okQ_bisQ]; exact hc2 p hp
                have := (zju hmi (okQ (inP ps) eg fg)).2 hq e0 he0 a0 b0 hk0
                rw [hq0] at this; cases this
            rw [this]
          exact fin hx4 hd4 hD4 hDs4 hr4 (hf1.trans hf4) hs4 g6 g7 hans
        · unfold leftOf
          refine Nat.le_trans (Array.size_filter_le) ?_
          show (es.map _).length ≤ _
          rw [List.length_map]; exact Nat.le_refl _
      · cases hap
      · exfalso
        obtain ⟨x6, g6, hap⟩ := aof hap
        obtain ⟨x7, g7, hap⟩ := aof hap
        have hap := Option.some.inj hap
        simp at hap
  · cases hp
end
end Go.Ideal.J
set_option maxHeartbeats 2000000
namespace Go.Ideal.J
open Go Go.Ideal Go.Proofs
noncomputable def G : FuncId → Option zw := fun g => if g = n_N then some (primP bisP) else F g
theorem F_bis : F n_N = none := by kernel_rfl
theorem leFG : LeF F G := fun g cf h => by
  unfold G
  rw [if_neg (by rintro rfl; rw [F_bis] at h; cases h)]; exact h
theorem okGs : ∀ g cf, G g = some cf → FnOk Try.prog g cf := fun g cf h => by
  unfold G at h
  split at h
  · rename_i e; cases h; subst e; exact .inr (.inr ⟨bisP, rfl, bis_prim⟩)
  · exact okFs g cf h
theorem jBis_ok (st lb st' lb' : Int) (es fs : List Ed) (ps : List (Int × Int)) (hsz : ps.length ≤ 100000) (v sl sl' : Value) (h : H) (hrow : Row h 3 sl (es.map edL)) (hrow' : Row h 3 sl' (fs.map edL)) (hr2 : Row h 2 v (ps.map prL)) :
    zbv G (fnV n_N) [gV st lb sl, gV st' lb' sl', v] h = some (bisA st lb es st' lb' fs ps, h) :=
  callI_prim (cf := primP bisP) (by unfold G; rw [if_pos rfl]) rfl (bisP_some ⟨st, lb, sl, es, st', lb', sl', fs, v, ps, rfl, hrow, hrow', hr2, hsz, rfl⟩) (Nat.le_refl _)
end Go.Ideal.J
set_option maxRecDepth 10000
namespace Go.Ideal.J
open Go Go.Ideal
theorem Bis.refl (es : List Ed) (a : Int) : Bis es a a :=
  ⟨fun a b => a = b, fun a b e => by
    subst e
    refine ⟨fun x hx => ⟨x.2.1, ?_, rfl⟩, fun x hx => ⟨x.2.1, ?_, rfl⟩⟩ <;>
    · obtain ⟨h1, h2⟩ := zbE.1 hx
      exact zc9.2 ⟨x, h1, h2, rfl, rfl⟩, rfl⟩
theorem Bis.trans {es : List Ed} {a b c : Int} (h1 : Bis es a b) (h2 : Bis es b c) : Bis es a c := by
  refine ⟨fun a c => ∃ b, Bis es a b ∧ Bis es b c, ?_, b, h1, h2⟩
  rintro a c ⟨b, h1, h2⟩
  obtain ⟨p1, p2⟩ := zfN es a b h1
  obtain ⟨q1, q2⟩ := zfN es b c h2
  refine ⟨fun x hx => ?_, fun y hy => ?_⟩
  · obtain ⟨t, ht, r⟩ := p1 x hx
    obtain ⟨z, hz, e1, e2, rfl⟩ := zc9.1 ht
    obtain ⟨u, hu, s⟩ := q1 z (zbE.2 ⟨hz, e1⟩)
    rw [e2] at hu
    exact ⟨u, hu, z.2.1, r, s⟩
  · obtain ⟨t, ht, r⟩ := q2 y hy
    obtain ⟨z, hz, e1, e2, rfl⟩ := zc9.1 ht
    obtain ⟨u, hu, s⟩ := p2 z (zbE.2 ⟨hz, e1⟩)
    rw [e2] at hu
    exact ⟨u, hu, z.2.1, s, r⟩
def cls (B : Nat → Nat → Bool) : Nat → List Nat × List Nat
  | 0 => ([], [])
  | n + 1 => match (cls B n).2.findIdx? fun h => B h n with
    | some k => ((cls B n).1 ++ [k], (cls B n).2)
    | none => ((cls B n).1 ++ [(cls B n).2.length], (cls B n).2 ++ [n])
theorem cls_s (B : Nat → Nat → Bool) (n : Nat) : cls B (n + 1) = match (cls B n).2.findIdx? fun h => B h n with
    | some k => ((cls B n).1 ++ [k], (cls B n).2)
    | none => ((cls B n).1 ++ [(cls B n).2.length], (cls B n).2 ++ [n]) := rfl
structure Eqv (B : Nat → Nat → Bool) (N : Nat) : Prop where
  refl : ∀ a, a < N → B a a = true
  symm : ∀ a b, a < N → b < N → B a b = true → B b a = true
  trans : ∀ a b c, a < N → b < N → c < N → B a b = true → B b c = true → B a c = true
structure CI (B : Nat → Nat → Bool) (n : Nat) (c : List Nat × List Nat) : Prop where
  len : c.1.length = n
  hn : c.2.length ≤ n
  hd : ∀ (k h : Nat), c.2[k]? = some h → h < n
  ck : ∀ (i v : Nat), c.1[i]? = some v → v < c.2.length
  iff : ∀ (i v k h : Nat), c.1[i]? = some v → c.2[k]? = some h → (v = k ↔ B h i = true)
theorem zdy {α : Type} {l : List α} {a x : α} {i : Nat} (h : (l ++ [a])[i]? = some x) : (i < l.length ∧ l[i]? = some x) ∨ (i = l.length ∧ a = x) := by
  rcases Nat.lt_trichotomy i l.length with c | c | c
  · rw [List.getElem?_append_left c] at h; exact .inl ⟨c, h⟩
  · subst c; simp at h; exact .inr ⟨rfl, h⟩
  · rw [List.getElem?_eq_none (by simp; omega)] at h; cases h
theorem zc3 {α : Type} {p : α → Bool} : ∀ {l : List α} {k : Nat}, l.findIdx? p = some k → ∃ x, l[k]? = some x ∧ p x = true
  | [], k, h => by simp at h
  | a :: l, k, h => by
    rw [List.findIdx?_cons] at h
    split at h
    · rename_i c; cases h; exact ⟨a, rfl, c⟩
    · cases hq : l.findIdx? p with
      | none => rw [hq] at h; cases h
      | some j =>
        rw [hq] at h; cases h
        obtain ⟨x, h1, h2⟩ := zc3 hq
        exact ⟨x, by simpa using h1, h2⟩
theorem zeg {α : Type} {p : α → Bool} : ∀ {l : List α}, l.findIdx? p = none → ∀ (k : Nat) (x : α), l[k]? = some x → p x = false
  | [], h, k, x, hk => by simp at hk
  | a :: l, h, k, x, hk => by
    rw [List.findIdx?_cons] at h
    split at h
    · cases h
    · rename_i c
      cases hq : l.findIdx? p with
      | some j => rw [hq] at h; cases h
      | none =>
        cases k with
        | zero => simp at hk; subst hk; simpa using c
        | succ k => exact zeg hq k x (by simpa using hk)
theorem zjx {B : Nat → Nat → Bool} {N : Nat} (hB : Eqv B N) : ∀ n, n ≤ N → CI B n (cls B n)
  | 0, _ => ⟨rfl, Nat.le_refl _, by simp [cls], by simp [cls], by simp [cls]⟩
  | n + 1, hnN => by
    obtain ⟨c1, c2, c3, c4, c5⟩ := zjx hB n (by omega)
    rw [cls_s]
    cases hf : (cls B n).2.findIdx? fun h => B h n with
    | some k =>
      obtain ⟨h, hk, hb⟩ := zc3 hf
      have hkl : k < (cls B n).2.length := by
        rcases Nat.lt_or_ge k (cls B n).2.length with c | c
        · exact c
        · rw [List.getElem?_eq_none c] at hk; cases hk
      have hhn := c3 k h hk
      refine ⟨by simp [c1], by show (cls B n).2.length ≤ n + 1; omega, fun j x hj => by have := c3 j x hj; omega, fun i v hi => ?_, fun i v j g hi hj => ?_⟩
      · rcases zdy hi with ⟨_, hi⟩ | ⟨_, rfl⟩
        · exact c4 i v hi
        · exact hkl
      · have hgn := c3 j g hj
        rcases zdy hi with ⟨_, hi⟩ | ⟨e, rfl⟩
        · exact c5 i v j g hi hj
        · rw [c1] at e; subst e
          constructor
          · rintro rfl
            rw [hk] at hj; cases hj; exact hb
          · intro hg
            have hgh : B g h = true := hB.trans _ _ _ (by omega) (by omega) (by omega) hg (hB.symm _ _ (by omega) (by omega) hb)
            have hhl : h < (cls B i).1.length := by omega
            have e1 : (cls B i).1[h]? = some (cls B i).1[h] := List.getElem?_eq_getElem hhl
            have q1 := (c5 h _ j g e1 hj).2 hgh
            have q2 := (c5 h _ k h e1 hk).2 (hB.refl _ (by omega))
            omega
    | none =>
      have hno := zeg hf
      refine ⟨by simp [c1], by simp; omega, fun j x hj => ?_, fun i v hi => ?_, fun i v j g hi hj => ?_⟩
      · rcases zdy hj with ⟨_, hj⟩ | ⟨_, rfl⟩
        · have := c3 j x hj; omega
        · omega
      · rcases zdy hi with ⟨_, hi⟩ | ⟨_, rfl⟩
        · have := c4 i v hi; simp; omega
        · simp
      · rcases zdy hi with ⟨il, hi⟩ | ⟨e, rfl⟩
        · rcases zdy hj with ⟨_, hj⟩ | ⟨e, rfl⟩
          · exact c5 i v j g hi hj
          · have hv := c4 i v hi
            constructor
            · omega
            · intro hb
              have e1 : (cls B n).2[v]? = some (cls B n).2[v] := List.getElem?_eq_getElem hv
              have h1 := (c5 i v v _ hi e1).1 rfl
              have h2 := c3 v _ e1
              have := hB.trans _ _ _ (by omega) (by omega) (by omega) h1 (hB.symm n i (by omega) (by omega) hb)
              rw [hno v _ e1] at this; cases this
        · rcases zdy hj with ⟨jl, hj⟩ | ⟨e', rfl⟩
          · rw [c1] at e; subst e
            have := hno j g hj
            constructor
            · omega
            · intro hb; rw [hb] at this; cases this
          · rw [c1] at e; subst e
            exact ⟨fun _ => hB.refl _ (by omega), fun _ => by omega⟩
theorem CI.iff2 {B : Nat → Nat → Bool} {N n : Nat} (hB : Eqv B N) {c : List Nat × List Nat} (h : CI B n c) (hn : n ≤ N) {i k v w : Nat} (hi : c.1[i]? = some v) (hk : c.1[k]? = some w) : v = w ↔ B i k = true := by
  have lt : ∀ {i v}, c.1[i]? = some v → i < n := fun {i v} hi => by
    rcases Nat.lt_or_ge i c.1.length with q | q
    · have := h.len; omega
    · rw [List.getElem?_eq_none q] at hi; cases hi
  have hin := lt hi; have hkn := lt hk
  have hv := h.ck i v hi
  have ev : c.2[v]? = some c.2[v] := List.getElem?_eq_getElem hv
  have hh := h.hd v _ ev
  have h1 := (h.iff i v v _ hi ev).1 rfl
  constructor
  · rintro rfl
    have h2 := (h.iff k v v _ hk ev).1 rfl
    exact hB.trans _ _ _ (by omega) (by omega) (by omega) (hB.symm _ _ (by omega) (by omega) h1) h2
  · intro hb
    exact ((h.iff k w v _ hk ev).2 (hB.trans _ _ _ (by omega) (by omega) (by omega) h1 hb)).symm
theorem cls_next {B : Nat → Nat → Bool} {N n : Nat} (hB : Eqv B N) (hn : n < N) :
    (∀ b, b < n → B b n = true → (cls B (n + 1)).1 = (cls B n).1 ++ [(cls B n).1.getD b 0] ∧ (cls B (n + 1)).2 = (cls B n).2) ∧
    ((∀ b, b < n → B b n = false) → (cls B (n + 1)).1 = (cls B n).1 ++ [(cls B n).2.length] ∧ (cls B (n + 1)).2 = (cls B n).2 ++ [n]) := by
  obtain ⟨c1, c2, c3, c4, c5⟩ := zjx hB n (by omega)
  constructor
  · intro b hb hbn
    have e1 : (cls B n).1[b]? = some (cls B n).1[b] := List.getElem?_eq_getElem (by omega)
    have hv := c4 b _ e1
    have ev : (cls B n).2[(cls B n).1[b]]? = some (cls B n).2[(cls B n).1[b]] := List.getElem?_eq_getElem hv
    have hh := c3 _ _ ev
    have h1 := (c5 b _ _ _ e1 ev).1 rfl
    have h2 := hB.trans _ _ _ (by omega) (by omega) (by omega) h1 hbn
    rw [cls_s]
    cases hf : (cls B n).2.findIdx? fun h => B h n with
    | none => rw [zeg hf _ _ ev] at h2; cases h2
    | some k =>
      obtain ⟨h, hk, hb2⟩ := zc3 hf
      have hhn := c3 k h hk
      have : (cls B n).1[b] = k := (c5 b _ k h e1 hk).2 (hB.trans _ _ _ (by omega) (by omega) (by omega) hb2 (hB.symm _ _ (by omega) (by omega) hbn))
      refine ⟨?_, rfl⟩
      show (cls B n).1 ++ [k] = _
      rw [List.getD_eq_getElem?_getD, e1, ← this]; rfl
  · intro hno
    rw [cls_s]
    cases hf : (cls B n).2.findIdx? fun h => B h n with
    | none => exact ⟨rfl, rfl⟩
    | some k =>
      obtain ⟨h, hk, hb2⟩ := zc3 hf
      rw [hno h (c3 k h hk)] at hb2; cases hb2
def alk (es : List Ed) (N k : Nat) (a b : Nat) : Bool := (rN es N k (a : Int) (b : Int)).isNone
theorem zfq {es : List Ed} {N k : Nat} (hin : inB (N : Int) es) (hk : fnd (rN es N k) es ((k : Int) + 1) N = []) {a b : Nat} (ha : a < N) (hb : b < N) : alk es N k a b = true ↔ Bis es (a : Int) (b : Int) := rN_none hin hk ⟨by omega, by omega⟩ ⟨by omega, by omega⟩
theorem alk_eqv {es : List Ed} {N k : Nat} (hin : inB (N : Int) es) (hk : fnd (rN es N k) es ((k : Int) + 1) N = []) : Eqv (alk es N k) N :=
  ⟨fun a ha => (zfq hin hk ha ha).2 (Bis.refl _ _), fun a b ha hb h => (zfq hin hk hb ha).2 ((zfq hin hk ha hb).1 h).symm,
   fun a b c ha hb hc h1 h2 => (zfq hin hk ha hc).2 (((zfq hin hk ha hb).1 h1).trans ((zfq hin hk hb hc).1 h2))⟩
end Go.Ideal.J
namespace Go.Ideal.J
open Go Go.Ideal
theorem _root_.Go.Ideal.Grow.lt' {h : H} {sz : Nat} {v : Value} {rows : List (List Value)} {ob : Option Nat} (hg : Grow h sz v rows ob) {b : Nat} (e : ob = some b) : b < h.next := by subst e; exact hg.lt
abbrev natL (v : Nat) : List Value := [.int .i64 (v : Int)]
def CS (B : Nat → Nat → Bool) (lo n : Nat) (h : H) (ov hv : Value) : Prop :=
  ∃ ob1 ob2, Grow h 1 ov ((cls B n).1.map natL) ob1 ∧ Grow h 1 hv ((cls B n).2.map natL) ob2 ∧ (∀ q, ob1 = some q → lo ≤ q) ∧ (∀ q, ob2 = some q → lo ≤ q) ∧ ∀ q, ob1 = some q → ob2 ≠ some q
theorem CS.fr {B : Nat → Nat → Bool} {lo n : Nat} {h h' : H} {ov hv : Value} (c : CS B lo n h ov hv) (hf : Fr h h') : CS B lo n h' ov hv := by
  obtain ⟨a, b, h1, h2, h3⟩ := c
  exact ⟨a, b, h1.fr hf, h2.fr hf, h3⟩
theorem CS.z (B : Nat → Nat → Bool) (lo : Nat) (h : H) : CS B lo 0 h (.slice none 0 0) (.slice none 0 0) :=
  ⟨none, none, .nil, .nil, by simp, by simp, by simp⟩
theorem classes4 (es : List Ed) (N : Nat) (hN : N ≤ 200) (k m n : Nat) (hnN : n < N) (hin : inB (N : Int) es) (hk : fnd (rN es N k) es ((k : Int) + 1) N = []) (lo : Nat) (h0 : H) (hm : MapM h0 m (rV (rN es N k))) (hml : m < lo) (hlo : lo ≤ h0.next) (ov hv : Value) {P : Value → H → Prop}
    (hP : ∀ h' ov' hv', FrD (fun j => lo ≤ j) h0 h' → CS (alk es N k) lo (n + 1) h' ov' hv' → OkV (sh (rI F) ziY (K_d_2 (rI F)) (setL [p3, p4, p5, p14, p15] [.map (some m), ov', hv', .int .i64 (N : Int), .int .i64 (n : Int)]) h') P) :
    ∀ (r j : Nat) (h : H), j + r = (cls (alk es N k) n).2.length → FrD (fun j => lo ≤ j) h0 h → CS (alk es N k) lo n h ov hv → (∀ i (g : Nat), i < j → (cls (alk es N k) n).2[i]? = some g → alk es N k g n = false) →
    OkV (sh (rI F) zg1 (K_d_4 (rI F)) (setL [p3, p4, p5, p6, p14, p15, p18, p19, p20] [.map (some m), ov, hv, .int .i64 (n : Int), .int .i64 (N : Int), .int .i64 (n : Int), hv, .int .i64 ((cls (alk es N k) n).2.length : Int), .int .i64 (j : Int)]) h) P := by
  have hB := alk_eqv hin hk
  have ci := zjx hB n (by omega)
  have cl1 := ci.len
  have cl2 := ci.hn
  intro r
  induction r with
  | zero =>
    intro j h hj hf hc hno
    have e : j = (cls (alk es N k) n).2.length := by omega
    subst e
    obtain ⟨ob1, ob2, g1, g2, b1, b2, b3⟩ := hc
    have hfn := hf.next
    have hnone := (cls_next hB hnN).2 (fun b hb => by
      have hh : (cls (alk es N k) n).1[b]? = some (cls (alk es N k) n).1[b] := List.getElem?_eq_getElem (by omega)
      have hv := ci.ck b _ hh
      have ev : (cls (alk es N k) n).2[(cls (alk es N k) n).1[b]]? = some (cls (alk es N k) n).2[(cls (alk es N k) n).1[b]] := List.getElem?_eq_getElem hv
      have h1 := (ci.iff b _ _ _ hh ev).1 rfl
      have h2 := ci.hd _ _ ev
      have h3 := hno _ _ hv ev
      rw [Bool.eq_false_iff]; intro hbn
      have := hB.trans _ _ _ (by omega) (by omega) (by omega) h1 hbn
      rw [h3] at this; cases this)
    rw [s_d_4]
    have sv2 := g2.slvM
    obtain ⟨h2, eh2⟩ : ∃ h2, h2 = h.new (.cells (natL (cls (alk es N k) n).2.length) 0) := ⟨_, rfl⟩
    have hf2 : Fr h h2 := by rw [eh2]; exact .new _ _
    have hn2 : h2.next = h.next + 1 := by rw [eh2]; simp
    obtain ⟨h3, ov', ea3, g13, hn3, hf3⟩ := zdp (h := h2) (sz := 1) (bytes := 8) (r := natL (cls (alk es N k) n).2.length) (b := h.next) (e := 0) (by omega) (by decide) (g1.fr hf2) (by rw [eh2]; simp) rfl rfl rfl (by rw [List.length_map]; omega)
    obtain ⟨h4, eh4⟩ : ∃ h4, h4 = h3.new (.cells (natL n) 0) := ⟨_, rfl⟩
    have hf4 : Fr h3 h4 := by rw [eh4]; exact .new _ _
    have hn4 : h4.next = h3.next + 1 := by rw [eh4]; simp
    obtain ⟨h5, hv', ea5, g25, hn5, hf5⟩ := zdp (h := h4) (sz := 1) (bytes := 8) (r := natL n) (b := h3.next) (e := 0) (by omega) (by decide) ((((g2.fr hf2).frD hf3 (fun b e1 e2 => b3 _ e2 e1))).fr hf4) (by rw [eh4]; simp) rfl rfl rfl (by rw [List.length_map]; omega)
    have := hP h5 ov' hv' ⟨by omega, fun i hi hd => by
        rw [hf5.get _ (by omega) (fun e => hd (b2 _ e)), hf4.get _ (by omega), hf3.get _ (by omega) (fun e => hd (b1 _ e)), hf2.get _ (by omega)]
        exact hf.get _ hi hd⟩
      ⟨some h2.next, some h4.next, by
        rw [hnone.1, List.map_append]
        exact (g13.fr hf4).frD hf5 (fun b e1 e2 => by have := g2.lt' e2; have e1 := Option.some.inj e1; omega), by
        rw [hnone.2, List.map_append]; exact g25, fun q e => by cases e; omega, fun q e => by cases e; omega, fun q e e' => by have e := Option.some.inj e; have e' := Option.some.inj e'; omega⟩
    refine OkV.eq this ?_
    simp (disch := first | omega | (simp only [za, zb]; done) | (simp only [za, zb]; omega)) [↓zp, ↓zk, ↓zh, s_d_3, sv2.len, ← eh2, ea3, ← eh4, ea5, zq, zu]
  | succ r ih =>
    intro j h hj hf hc hno
    obtain ⟨ob1, ob2, g1, g2, b1, b2, b3⟩ := id hc
    have hfn := hf.next
    have hjl : j < (cls (alk es N k) n).2.length := by omega
    have ej : (cls (alk es N k) n).2[j]? = some (cls (alk es N k) n).2[j] := List.getElem?_eq_getElem hjl
    obtain ⟨g, eg⟩ : ∃ g, g = (cls (alk es N k) n).2[j] := ⟨_, rfl⟩
    rw [← eg] at ej
    have hgn := ci.hd _ _ ej
    obtain ⟨x1, o1, cs1, u1, hv1, _, hg1, ht1⟩ := (g2.row (by omega)).index (i := j) (r := natL g) (by rw [List.getElem?_map, ej]; rfl)
    have hlk := zhS (hm.fr hf (by omega) (by omega)) (.int .i64 0) (g : Int) (n : Int)
    rw [s_d_4]
    cases hr : rN es N k (g : Int) (n : Int) with
    | some v =>
      simp only [rV, hr, Option.map_some, Option.getD_some, Option.isSome_some] at hlk
      have := ih (j + 1) h (by omega) hf hc (fun i g' hi hg' => by
        by_cases e : i = j
        · subst e; rw [ej] at hg'; cases hg'
          unfold alk; rw [hr]; rfl
        · exact hno i g' (by omega) hg')
      refine OkV.eq (this.lp (l_d_4 F _ _ _ _ _ _ _ _ _ _)) ?_
      simp (disch := first | omega | (simp only [za, zb]; done) | (simp only [za, zb]; omega)) [↓zp, ↓zk, ↓zh, hjl, hv1, hg1, ht1, zq, hlk, zW]
    | none =>
      simp only [rV, hr, Option.map_none, Option.getD_none, Option.isSome_none] at hlk
      have halk : alk es N k g n = true := by unfold alk; rw [hr]; rfl
      have hsome := (cls_next hB hnN).1 g hgn halk
      have hcg : (cls (alk es N k) n).1.getD g 0 = j := by
        have hh : (cls (alk es N k) n).1[g]? = some (cls (alk es N k) n).1[g] := List.getElem?_eq_getElem (by omega)
        rw [List.getD_eq_getElem?_getD, hh]
        exact (ci.iff g _ j g hh ej).2 (hB.refl _ (by omega))
      rw [hcg] at hsome
      obtain ⟨h2, eh2⟩ : ∃ h2, h2 = h.new (.cells (natL j) 0) := ⟨_, rfl⟩
      have hf2 : Fr h h2 := by rw [eh2]; exact .new _ _
      have hn2 : h2.next = h.next + 1 := by rw [eh2]; simp
      obtain ⟨h3, ov', ea3, g13, hn3, hf3⟩ := zdp (h := h2) (sz := 1) (bytes := 8) (r := natL j) (b := h.next) (e := 0) (by omega) (by decide) (g1.fr hf2) (by rw [eh2]; simp) rfl rfl rfl (by rw [List.length_map]; omega)
      have := hP h3 ov' hv ⟨by omega, fun i hi hd => by
          rw [hf3.get _ (by omega) (fun e => hd (b1 _ e)), hf2.get _ (by omega)]
          exact hf.get _ hi hd⟩
        ⟨some h2.next, ob2, by
          rw [hsome.1, List.map_append]; exact g13, by
          rw [hsome.2]; exact (g2.fr hf2).frD hf3 (fun b e1 e2 => b3 _ e2 e1), fun q e => by cases e; omega, b2, fun q e e' => by
            have e := Option.some.inj e
            have := g2.lt' e'
            omega⟩
      refine OkV.eq this ?_
      simp (disch := first | omega | (simp only [za, zb]; done) | (simp only [za, zb]; omega)) [↓zp, ↓zk, ↓zh, hjl, hv1, hg1, ht1, zq, hlk, ← eh2, ea3, zu]
theorem classes1 (es : List Ed) (N : Nat) (hN : N ≤ 200) (k m : Nat) (hin : inB (N : Int) es) (hk : fnd (rN es N k) es ((k : Int) + 1) N = []) (lo : Nat) (h0 : H) (hm : MapM h0 m (rV (rN es N k))) (hml : m < lo) (hlo : lo ≤ h0.next) {P : Value → H → Prop}
    (hP : ∀ h' ov hv, FrD (fun j => lo ≤ j) h0 h' → CS (alk es N k) lo N h' ov hv → P ov h') :
    ∀ (r n : Nat) (h : H) (ov hv : Value), n + r = N → FrD (fun j => lo ≤ j) h0 h → CS (alk es N k) lo n h ov hv →
    OkV (sh (rI F) zg3 (K_d_1 (rI F)) (setL [p3, p4, p5, p14, p15] [.map (some m), ov, hv, .int .i64 (N : Int), .int .i64 (n : Int)]) h) P := by
  intro r
  induction r with
  | zero =>
    intro n h ov hv hn hf hc
    have e : n = N := by omega
    subst e
    have := hP h ov hv hf hc
    obtain ⟨ob1, ob2, g1, g2, b1, b2, b3⟩ := hc
    have sv := g1.slvM
    refine OkV.eq (OkV.val this) ?_
    rw [s_d_1]
    simp (disch := first | omega | (simp only [za, zb]; done) | (simp only [za, zb]; omega)) [↓zp, ↓zk, ↓zh, s_d_0, sv.one]
  | succ r ih =>
    intro n h ov hv hn hf hc
    have hnN : n < N := by omega
    obtain ⟨ob1, ob2, g1, g2, b1, b2, b3⟩ := id hc
    have sv2 := g2.slvM
    have := classes4 es N hN k m n hnN hin hk lo h0 hm hml hlo ov hv (P := P) (fun h' ov' hv' hf' hc' => by
      have := ih (n + 1) h' ov' hv' (by omega) hf' hc'
      refine OkV.eq (this.lp (l_d_1 F _ _ _ _ _ _)) ?_
      rw [s_d_2]
      simp (disch := first | omega | (simp only [za, zb]; done) | (simp only [za, zb]; omega)) [↓zp, ↓zk, ↓zh, zW]) _ 0 h (by rw [Nat.zero_add]) hf hc (fun i g hi => by omega)
    refine OkV.eq (this.lp (l_d_4 F _ _ _ _ _ _ _ _ _ _)) ?_
    rw [s_d_1]
    simp (disch := first | omega | (simp only [za, zb]; done) | (simp only [za, zb]; omega)) [↓zp, ↓zk, ↓zh, hnN, sv2.len]
theorem classes_ok (es : List Ed) (hs : zY es) (hsz : es.length ≤ 1000) (N : Nat) (hN : N ≤ 200) (hin : inB (N : Int) es) (lb : Int) (sl : Value) (h : H) (hrow : Row h 3 sl (es.map edL)) :
    ∃ v h' k ob, zbv F (fnV n_d) [gV (N : Int) lb sl] h = some (v, h') ∧ Fr h h' ∧ fnd (rN es N k) es ((k : Int) + 1) N = [] ∧ Grow h' 1 v ((cls (alk es N k) N).1.map natL) ob ∧ ∀ q, ob = some q → h.next ≤ q := by
  have hsv := hrow.slvM
  obtain ⟨h1, eh1⟩ : ∃ h1, h1 = h.new (.cells (gL (N : Int) lb sl) 0) := ⟨_, rfl⟩
  have hf1 : Fr h h1 := by rw [eh1]; exact .new _ _
  have hn1 : h1.next = h.next + 1 := by rw [eh1]; simp
  have g0 : h1.get h.next = some (.cells (gL (N : Int) lb sl) 0) := by rw [eh1]; simp
  obtain ⟨v2, h2, e2, k, m, rfl, hf2, hm1, hm2, hm3, hend⟩ := apart_ok es hs hsz N hN lb sl h1 (hrow.fr hf1) (P := fun v h' => ∃ k m, v = .map (some m) ∧ Fr h1 h' ∧ h1.next ≤ m ∧ m < h'.next ∧ MapM h' m (rV (rN es N k)) ∧ fnd (rN es N k) es ((k : Int) + 1) N = []) (fun h' m k q1 q2 q3 q4 q5 => ⟨k, m, rfl, q1, q2, q3, q4, q5⟩)
  have hfn2 := hf2.next
  have g02 := (hf2.get _ (by omega)).trans g0
  suffices hr : Ret F (fnV n_d) [gV (N : Int) lb sl] h fun v h' => ∃ k ob, Fr h h' ∧ fnd (rN es N k) es ((k : Int) + 1) N = [] ∧ Grow h' 1 v ((cls (alk es N k) N).1.map natL) ob ∧ ∀ q, ob = some q → h.next ≤ q by
    obtain ⟨v, h', e, k, ob, q⟩ := hr; exact ⟨v, h', k, ob, e, q⟩
  obtain ⟨P, hPd⟩ : ∃ P : Value → H → Prop, P = fun v h' => ∃ k ob, Fr h h' ∧ fnd (rN es N k) es ((k : Int) + 1) N = [] ∧ Grow h' 1 v ((cls (alk es N k) N).1.map natL) ob ∧ ∀ q, ob = some q → h.next ≤ q := ⟨_, rfl⟩
  rw [← hPd]
  refine Ret.fn F_d 1 (by decide) ?_
  rw [s_d]
  have := classes1 es N hN k m hin hend h2.next h2 hm3 hm2 (Nat.le_refl _) (P := P) (fun h' ov hv hf' hc => by
    obtain ⟨ob1, ob2, g1, g2, b1, b2, b3⟩ := hc
    rw [hPd]
    exact ⟨k, ob1, (hf1.trans hf2).transD hf' (fun i hi hd => by omega), hend, g1, fun q e => by have := b1 q e; omega⟩) N 0 h2 _ _ (by omega) (.refl _ _) (CS.z _ _ _)
  refine OkV.eq (this.lp (l_d_1 F _ _ _ _ _ _)) ?_
  simp (disch := first | omega | (simp only [za, zb]; done) | (simp only [za, zb]; omega)) [↓zp, ↓zk, ↓zh, hsv.clean, hsv.take, ← eh1, g0, e2, g02]
end Go.Ideal.J
namespace Go.Ideal.J
open Go Go.Ideal
def prsA (c : List Nat) (i j : Nat) : List (Int × Int) := ((List.range j).filter fun k => c.getD i 0 == c.getD k 0).map fun (k : Nat) => ((i : Int), (k : Int))
def prs (c : List Nat) (i : Nat) : List (Int × Int) := (List.range i).flatMap fun i => prsA c i c.length
theorem prsA_succ (c : List Nat) (i j : Nat) : prsA c i (j + 1) = prsA c i j ++ if c.getD i 0 = c.getD j 0 then [((i : Int), (j : Int))] else [] := by
  unfold prsA
  rw [List.range_succ, List.filter_append, List.map_append]
  congr 1
  by_cases e : c.getD i 0 = c.getD j 0
  · have e' : (c.getD i 0 == c.getD j 0) = true := by rw [beq_iff_eq]; exact e
    rw [if_pos e, List.filter_cons, if_pos e']; rfl
  · have e' : ¬ (c.getD i 0 == c.getD j 0) = true := by rw [beq_iff_eq]; exact e
    rw [if_neg e, List.filter_cons, if_neg e']; rfl
theorem prs_succ (c : List Nat) (i : Nat) : prs c (i + 1) = prs c i ++ prsA c i c.length := by
  unfold prs
  rw [List.range_succ, List.flatMap_append]
  simp
theorem prsA_len (c : List Nat) (i j : Nat) : (prsA c i j).length ≤ j := by
  unfold prsA
  rw [List.length_map]
  exact Nat.le_trans (List.length_filter_le _ _) (by simp)
theorem prs_len (c : List Nat) : ∀ i, (prs c i).length ≤ i * c.length
  | 0 => by simp [prs]
  | i + 1 => by
    rw [prs_succ, List.length_append, Nat.succ_mul]
    have := prs_len c i
    have := prsA_len c i c.length
    omega
theorem mem_prs {c : List Nat} {p : Int × Int} : p ∈ prs c c.length ↔ ∃ a b : Nat, p = ((a : Int), (b : Int)) ∧ a < c.length ∧ b < c.length ∧ c.getD a 0 = c.getD b 0 := by
  unfold prs prsA
  simp only [List.mem_flatMap, List.mem_map, List.mem_filter, List.mem_range, beq_iff_eq]
  constructor
  · rintro ⟨a, ha, b, ⟨hb, e⟩, rfl⟩; exact ⟨a, b, rfl, ha, hb, e⟩
  · rintro ⟨a, b, rfl, ha, hb, e⟩; exact ⟨a, ha, b, ⟨hb, e⟩, rfl⟩
theorem inP_iff {ps : List (Int × Int)} {a b : Int} : inP ps a b = true ↔ (a, b) ∈ ps := by
  unfold inP
  rw [List.any_eq_true]
  constructor
  · rintro ⟨⟨p, q⟩, h1, h2⟩
    simp at h2
    obtain ⟨rfl, rfl⟩ := h2; exact h1
  · intro h; exact ⟨_, h, by simp⟩
theorem cls_bis {es : List Ed} {N k : Nat} (hin : inB (N : Int) es) (hk : fnd (rN es N k) es ((k : Int) + 1) N = []) {a b : Nat} (ha : a < N) (hb : b < N) : (cls (alk es N k) N).1.getD a 0 = (cls (alk es N k) N).1.getD b 0 ↔ Bis es (a : Int) (b : Int) := by
  have hB := alk_eqv hin hk
  have ci := zjx hB N (Nat.le_refl _)
  have ea : (cls (alk es N k) N).1[a]? = some ((cls (alk es N k) N).1[a]'(by rw [ci.len]; exact ha)) := List.getElem?_eq_getElem _
  have eb : (cls (alk es N k) N).1[b]? = some ((cls (alk es N k) N).1[b]'(by rw [ci.len]; exact hb)) := List.getElem?_eq_getElem _
  rw [List.getD_eq_getElem?_getD, List.getD_eq_getElem?_getD, ea, eb]
  exact (ci.iff2 hB (Nat.le_refl _) ea eb).trans (zfq hin hk ha hb)
theorem prs_bis {es : List Ed} {N k : Nat} (hin : inB (N : Int) es) (hk : fnd (rN es N k) es ((k : Int) + 1) N = []) : (prs (cls (alk es N k) N).1 N).all (rngQ (N : Int) (N : Int)) = true ∧ (prs (cls (alk es N k) N).1 N).all (bisQ es es (prs (cls (alk es N k) N).1 N)) = true := by
  have hl := (zjx (alk_eqv hin hk) N (Nat.le_refl _)).len
  have hm : ∀ p : Int × Int, p ∈ prs (cls (alk es N k) N).1 N ↔ ∃ a b : Nat, p = ((a : Int), (b : Int)) ∧ a < N ∧ b < N ∧ Bis es (a : Int) (b : Int) := by
    intro p
    have := mem_prs (c := (cls (alk es N k) N).1) (p := p)
    rw [hl] at this
    rw [this]
    constructor
    · rintro ⟨a, b, rfl, ha, hb, e⟩; exact ⟨a, b, rfl, ha, hb, (cls_bis hin hk ha hb).1 e⟩
    · rintro ⟨a, b, rfl, ha, hb, e⟩; exact ⟨a, b, rfl, ha, hb, (cls_bis hin hk ha hb).2 e⟩
  rw [List.all_eq_true, List.all_eq_true]
  constructor
  · intro p hp
    obtain ⟨a, b, rfl, ha, hb, _⟩ := (hm p).1 hp
    unfold rngQ; simp; omega
  · intro p hp
    obtain ⟨a, b, rfl, ha, hb, h⟩ := (hm p).1 hp
    obtain ⟨h1, h2⟩ := zfN es _ _ h
    have nat : ∀ {x : Ed}, x ∈ es → ∃ t : Nat, x.2.1 = t ∧ t < N := fun {x} hx => by
      have := hin x hx
      exact ⟨x.2.1.toNat, by omega, by omega⟩
    unfold bisQ
    simp only [Bool.and_eq_true, List.all_eq_true]
    refine ⟨fun x hx => ?_, fun y hy => ?_⟩
    · obtain ⟨t, ht, r⟩ := h1 x hx
      obtain ⟨y, hy, e1, e2, rfl⟩ := zc9.1 ht
      obtain ⟨c, ec, hc⟩ := nat (zbE.1 hx).1
      obtain ⟨d, ed, hd⟩ := nat hy
      unfold ansA
      rw [List.any_eq_true]
      refine ⟨y, zbE.2 ⟨hy, e1⟩, ?_⟩
      rw [Bool.and_eq_true]
      exact ⟨by simp [e2], inP_iff.2 ((hm _).2 ⟨c, d, by rw [ec, ed], hc, hd, by rw [← ec, ← ed]; exact r⟩)⟩
    · obtain ⟨t, ht, r⟩ := h2 y hy
      obtain ⟨x, hx, e1, e2, rfl⟩ := zc9.1 ht
      obtain ⟨c, ec, hc⟩ := nat hx
      obtain ⟨d, ed, hd⟩ := nat (zbE.1 hy).1
      unfold ansB
      rw [List.any_eq_true]
      refine ⟨x, zbE.2 ⟨hx, e1⟩, ?_⟩
      rw [Bool.and_eq_true]
      exact ⟨by simp [e2], inP_iff.2 ((hm _).2 ⟨c, d, by rw [ec, ed], hc, hd, by rw [← ec, ← ed]; exact r⟩)⟩
theorem hva_map (es : List Ed) (f : Int → Fml) (s : Int) : ∀ l : List Int, hva es (l.map f) s = l.all fun t => hv es (f t) s
  | [] => rfl
  | a :: l => by simp only [List.map_cons, hva, List.all_cons, hva_map es f s l]
theorem tf_tells {es : List Ed} {N k : Nat} : ∀ (n : Nat) (a b : Int), Ok es N k n a b → hv es (TF es N k a b) a = true ∧ hv es (TF es N k a b) b = false := by
  intro n
  induction n with
  | zero => intro a b h; obtain ⟨m, e⟩ := h.pos; cases e
  | succ n ih =>
    intro a b h
    obtain ⟨v, hv1, _⟩ := id h
    cases hx : zP (rN es N k) es a b (v - 1) with
    | none =>
      have hi := ih b a (h.not hv1 hx)
      rw [TF_not hv1 hx]
      simp [hv, hvh, hi.1, hi.2]
    | some x =>
      have hi := fun t ht => ih x.2.1 t (h.can hv1 hx ht)
      have hxm := List.mem_of_find?_eq_some hx
      obtain ⟨x1, x2⟩ := zbE.1 hxm
      rw [TF_can hv1 hx]
      have e : ∀ s, hv es (.mk 4 x.2.2 [.mk 3 0 ((tos es b x.2.2).map fun t => TF es N k x.2.1 t)]) s = es.any fun y => decide (y.1 = s) && (decide (y.2.2 = x.2.2) && (tos es b x.2.2).all fun t => hv es (TF es N k x.2.1 t) y.2.1) := by
        intro s
        simp only [hv, hvh, hva_map]
        simp
      rw [e, e]
      constructor
      · rw [List.any_eq_true]
        refine ⟨x, x1, ?_⟩
        simp only [Bool.and_eq_true, decide_eq_true_eq, List.all_eq_true]
        exact ⟨x2, trivial, fun t ht => (hi t ht).1⟩
      · rw [List.any_eq_false]
        intro y hy
        simp only [Bool.and_eq_true, decide_eq_true_eq, List.all_eq_true, not_and]
        intro q1 q2 q3
        have ht : y.2.1 ∈ tos es b x.2.2 := zc9.2 ⟨y, hy, q1, q2, rfl⟩
        have := q3 _ ht
        rw [(hi _ ht).2] at this; cases this
mutual
def okM (lb : Int) : Fml → Bool
  | .mk op lab ks => opOk lb op lab ks.length && okMs lb ks
def okMs (lb : Int) : List Fml → Bool
  | [] => true
  | k :: ks => okM lb k && okMs lb ks
end
mutual
theorem fmd_ok (lb : Int) : ∀ (f : Fml) (L : Int), okM lb f = true → (sz f : Int) ≤ L → fmd lb f L = (true, L - sz f)
  | .mk op lab ks, L, h, hL => by
    unfold okM at h
    unfold sz at hL ⊢
    rw [Bool.and_eq_true] at h
    unfold fmd
    rw [if_neg (by omega), if_pos h.1, fmds_ok lb ks (L - 1) h.2 (by omega)]
    congr 1; omega
theorem fmds_ok (lb : Int) : ∀ (fs : List Fml) (L : Int), okMs lb fs = true → (szs fs : Int) ≤ L → fmds lb fs L = (true, L - szs fs)
  | [], L, _, _ => by unfold fmds szs; simp
  | f :: fs, L, h, hL => by
    unfold okMs at h
    unfold szs at hL ⊢
    rw [Bool.and_eq_true] at h
    unfold fmds
    rw [fmd_ok lb f L h.1 (by omega), if_pos rfl, fmds_ok lb fs _ h.2 (by omega)]
    congr 1; omega
end
theorem okMs_map (lb : Int) (f : Int → Fml) : ∀ l : List Int, (∀ t ∈ l, okM lb (f t) = true) → okMs lb (l.map f) = true
  | [], _ => rfl
  | a :: l, h => by
    rw [List.map_cons]; unfold okMs
    rw [h a (by simp), okMs_map lb f l fun t ht => h t (by simp [ht])]; rfl
theorem tf_ok {es : List Ed} {N k : Nat} {lb : Int} (hl : ∀ x ∈ es, 0 ≤ x.2.2 ∧ x.2.2 < lb) (h1 : 1 ≤ lb) : ∀ (n : Nat) (a b : Int), Ok es N k n a b → okM lb (TF es N k a b) = true := by
  intro n
  induction n with
  | zero => intro a b h; obtain ⟨m, e⟩ := h.pos; cases e
  | succ n ih =>
    intro a b h
    obtain ⟨v, hv1, _⟩ := id h
    cases hx : zP (rN es N k) es a b (v - 1) with
    | none =>
      have hi := ih b a (h.not hv1 hx)
      rw [TF_not hv1 hx]
      simp [okM, okMs, opOk, hi]
    | some x =>
      have hi := fun t ht => ih x.2.1 t (h.can hv1 hx ht)
      have hxm := List.mem_of_find?_eq_some hx
      have hlx := hl x (zbE.1 hxm).1
      rw [TF_can hv1 hx]
      have := okMs_map lb (fun t => TF es N k x.2.1 t) _ hi
      have e1 : ∀ op lab ks, okM lb (.mk op lab ks) = (opOk lb op lab ks.length && okMs lb ks) := fun _ _ _ => rfl
      have e2 : ∀ f fs, okMs lb (f :: fs) = (okM lb f && okMs lb fs) := fun _ _ => rfl
      rw [e1, e2, e1, this]
      simp [opOk, hlx.1, hlx.2, okMs]
end Go.Ideal.J
namespace Go.Ideal.J
open Go Go.Ideal
def ClsA (st lb : Int) (es : List Ed) (v : Value) (lo : Nat) (h' : H) : Prop :=
  (chk st lb es = false ∧ v = zdg (.slice none 0 0) (.int .i64 2)) ∨
  (chk st lb es = true ∧ ∃ u k ob, v = zdg u (.int .i64 0) ∧ fnd (rN es st.toNat k) es ((k : Int) + 1) st.toNat = [] ∧ Grow h' 1 u ((cls (alk es st.toNat k) st.toNat).1.map natL) ob ∧ ∀ q, ob = some q → lo ≤ q)
theorem jClasses_ok (st lb : Int) (es : List Ed) (sl : Value) (h : H) (hrow : Row h 3 sl (es.map edL)) :
    Ret F (fnV n_G) [gV st lb sl] h fun v h' => Fr h h' ∧ ClsA st lb es v h.next h' := by
  obtain ⟨P, hPd⟩ : ∃ P : Value → H → Prop, P = fun v h' => Fr h h' ∧ ClsA st lb es v h.next h' := ⟨_, rfl⟩
  rw [← hPd]
  have hsv := hrow.slvM
  refine Ret.fn F_G 1 (by decide) ?_
  rw [s_G]
  obtain ⟨h1, eh1⟩ : ∃ h1, h1 = h.new (.cells (gL st lb sl) 0) := ⟨_, rfl⟩
  have hf1 : Fr h h1 := by rw [eh1]; exact .new _ _
  have hn1 : h1.next = h.next + 1 := by rw [eh1]; simp
  have g0 : h1.get h.next = some (.cells (gL st lb sl) 0) := by rw [eh1]; simp
  obtain ⟨h2, e2, hf2⟩ := zcz st lb sl es h1 (hrow.fr hf1)
  have hfn2 := hf2.next
  have g02 := (hf2.get _ (by omega)).trans g0
  cases hc : chk st lb es with
  | false =>
    rw [hc] at e2
    refine OkV.eq (OkV.val (v := zdg (.slice none 0 0) (.int .i64 2)) (h := h2) (by rw [hPd]; exact ⟨hf1.trans hf2, .inl ⟨hc, rfl⟩⟩)) ?_
    simp (disch := first | omega | (simp only [za, zb]; done) | (simp only [za, zb]; omega)) [↓zp, ↓zk, ↓zh, hsv.clean, hsv.take, ← eh1, g0, e2, erk]
  | true =>
    rw [hc] at e2
    have fm := (zgp st lb es).1 hc
    obtain ⟨N, rfl⟩ := Int.eq_ofNat_of_zero_le (show 0 ≤ st by have := fm.st1; omega)
    have hN := fm.st2
    have hlen := fm.len
    obtain ⟨v3, h3, k, ob, e3, hf3, hk, hg3, hob⟩ := classes_ok es fm.sortedF (by omega) N (by omega) fm.inB lb sl h2 ((hrow.fr hf1).fr hf2)
    have sv3 := hg3.slvM
    refine OkV.eq (OkV.val (v := zdg v3 (.int .i64 0)) (h := h3) (by
      rw [hPd]; exact ⟨(hf1.trans hf2).trans hf3, .inr ⟨hc, v3, k, ob, rfl, hk, hg3, fun q e => by have := hob q e; omega⟩⟩)) ?_
    simp (disch := first | omega | (simp only [za, zb]; done) | (simp only [za, zb]; omega)) [↓zp, ↓zk, ↓zh, hsv.clean, hsv.take, ← eh1, g0, e2, erk, g02, e3]
theorem apart_3 (c : List Nat) (hc : c.length ≤ 200) (t1 t2 t3 v : Value) (i : Nat) (hi : i < c.length) (lo : Nat) (h0 : H) (hrow : Row h0 1 v (c.map natL)) (hlt : ∀ b o n c, v = .slice (some ⟨b, o, none⟩) n c → b < lo) (hlo : lo ≤ h0.next) (ps : List (Int × Int)) (hps : ps.length ≤ 40000) {P : Value → H → Prop}
    (hP : ∀ h' w ob, FrD (fun j => lo ≤ j) h0 h' → Grow h' 2 w ((ps ++ prsA c i c.length).map prL) ob → (∀ q, ob = some q → lo ≤ q) →
      OkV (sh (rI G) c_e_2 (K_e_2 (rI G)) (setL [p1, p2, p3, p7, p9, p10] [t1, t2, t3, v, w, .int .i64 (i : Int)]) h') P) :
    ∀ (r j : Nat) (h : H) (w : Value) (ob : Option Nat), j + r = c.length → FrD (fun j => lo ≤ j) h0 h → Grow h 2 w ((ps ++ prsA c i j).map prL) ob → (∀ q, ob = some q → lo ≤ q) →
    OkV (sh (rI G) c_e_3 (K_e_3 (rI G)) (setL [p1, p2, p3, p7, p9, p10, p11] [t1, t2, t3, v, w, .int .i64 (i : Int), .int .i64 (j : Int)]) h) P := by
  have hsv := hrow.slvM
  intro r
  induction r with
  | zero =>
    intro j h w ob hj hf hg hob
    have e : j = c.length := by omega
    subst e
    refine OkV.eq (hP h w ob hf hg hob) ?_
    rw [s_e_3]
    simp (disch := first | omega | (simp only [za, zb]; done) | (simp only [za, zb]; omega)) [↓zp, ↓zk, ↓zh, hsv.len]
  | succ r ih =>
    intro j h w ob hj hf hg hob
    have hjl : j < c.length := by omega
    have hfn := hf.next
    have hrow1 := hrow.frD hf (fun b o n c e => by have := hlt b o n c e; omega)
    have ei : c[i]? = some (c.getD i 0) := by rw [List.getD_eq_getElem?_getD, List.getElem?_eq_getElem hi]; rfl
    have ej : c[j]? = some (c.getD j 0) := by rw [List.getD_eq_getElem?_getD, List.getElem?_eq_getElem hjl]; rfl
    obtain ⟨a, ea⟩ : ∃ a, a = c.getD i 0 := ⟨_, rfl⟩
    obtain ⟨b, eb⟩ : ∃ b, b = c.getD j 0 := ⟨_, rfl⟩
    have hsucc := prsA_succ c i j
    rw [← ea, ← eb] at hsucc
    rw [← ea] at ei
    rw [← eb] at ej
    obtain ⟨x1, o1, cs1, u1, hv1, _, hg1, ht1⟩ := hrow1.index (i := i) (r := natL a) (by rw [List.getElem?_map, ei]; rfl)
    obtain ⟨x2, o2, cs2, u2, hv2, _, hg2, ht2⟩ := hrow1.index (i := j) (r := natL b) (by rw [List.getElem?_map, ej]; rfl)
    have hpl := prsA_len c i j
    rw [s_e_3]
    by_cases e : a = b
    · obtain ⟨h2, eh2⟩ : ∃ h2, h2 = h.new (.cells (prL ((i : Int), (j : Int))) 0) := ⟨_, rfl⟩
      have hf2 : Fr h h2 := by rw [eh2]; exact .new _ _
      have hn2 : h2.next = h.next + 1 := by rw [eh2]; simp
      obtain ⟨h3, w', ea3, hg3, hn3, hf3⟩ := zdp (h := h2) (sz := 2) (bytes := 16) (r := prL ((i : Int), (j : Int))) (b := h.next) (e := 0) (by omega) (by decide) (hg.fr hf2) (by rw [eh2]; simp) rfl rfl rfl (by rw [List.length_map, List.length_append]; omega)
      have := ih (j + 1) h3 w' (some h2.next) (by omega) ⟨by omega, fun i hi hd => (hf3.get _ (by omega) (fun e => hd (hob _ e))).trans ((hf2.get _ (by omega)).trans (hf.get _ hi hd))⟩ (by rw [hsucc, if_pos e, ← List.append_assoc, List.map_append]; exact hg3) (fun q e => by cases e; omega)
      refine OkV.eq (this.lp (l_e_3 G _ _ _ _ _ _ _ _)) ?_
      subst e
      simp (disch := first | omega | (simp only [za, zb]; done) | (simp only [za, zb]; omega)) [↓zp, ↓zk, ↓zh, hsv.len, hjl, hv1, hg1, ht1, hv2, hg2, ht2, zq, zu, ← eh2, ea3, s_e_4, zW]
    · have := ih (j + 1) h w ob (by omega) hf (by rw [hsucc, if_neg e, List.append_nil]; exact hg) hob
      refine OkV.eq (this.lp (l_e_3 G _ _ _ _ _ _ _ _)) ?_
      have e' : ¬ ((a : Nat) : Int) = (b : Int) := by omega
      simp (disch := first | omega | (simp only [za, zb]; done) | (simp only [za, zb]; omega)) [↓zp, ↓zk, ↓zh, hsv.len, hjl, hv1, hg1, ht1, hv2, hg2, ht2, e, e', s_e_4, zW]
theorem apart_1 (c : List Nat) (hc : c.length ≤ 200) (t1 t2 t3 v : Value) (lo : Nat) (h0 : H) (hrow : Row h0 1 v (c.map natL)) (hlt : ∀ b o n c, v = .slice (some ⟨b, o, none⟩) n c → b < lo) (hlo : lo ≤ h0.next) {P : Value → H → Prop}
    (hP : ∀ h' w ob, FrD (fun j => lo ≤ j) h0 h' → Grow h' 2 w ((prs c c.length).map prL) ob → (∀ q, ob = some q → lo ≤ q) →
      OkV (sh (rI G) c_e_0 (K_e_0 (rI G)) (setL [p1, p2, p3, p7, p9] [t1, t2, t3, v, w]) h') P) :
    ∀ (r i : Nat) (h : H) (w : Value) (ob : Option Nat), i + r = c.length → FrD (fun j => lo ≤ j) h0 h → Grow h 2 w ((prs c i).map prL) ob → (∀ q, ob = some q → lo ≤ q) →
    OkV (sh (rI G) c_e_1 (K_e_1 (rI G)) (setL [p1, p2, p3, p7, p9, p10] [t1, t2, t3, v, w, .int .i64 (i : Int)]) h) P := by
  have hsv := hrow.slvM
  intro r
  induction r with
  | zero =>
    intro i h w ob hi hf hg hob
    have e : i = c.length := by omega
    subst e
    refine OkV.eq (hP h w ob hf hg hob) ?_
    rw [s_e_1]
    simp (disch := first | omega | (simp only [za, zb]; done) | (simp only [za, zb]; omega)) [↓zp, ↓zk, ↓zh, hsv.len]
  | succ r ih =>
    intro i h w ob hi hf hg hob
    have hil : i < c.length := by omega
    have hfn := hf.next
    have hpl := prs_len c i
    have hnn : i * c.length ≤ 200 * 200 := Nat.mul_le_mul (by omega) hc
    have := apart_3 c hc t1 t2 t3 v i hil lo h (hrow.frD hf (fun b o n c e => by have := hlt b o n c e; omega)) hlt (by omega) (prs c i) (by omega) (P := P) (fun h' w' ob' hf' hg' hob' => by
      have := ih (i + 1) h' w' ob' (by omega) (hf.trans hf') (by rw [prs_succ]; exact hg') hob'
      refine OkV.eq (this.lp (l_e_1 G _ _ _ _ _ _ _)) ?_
      rw [s_e_2]
      simp (disch := first | omega | (simp only [za, zb]; done) | (simp only [za, zb]; omega)) [↓zp, ↓zk, ↓zh, zW]) c.length 0 h w ob (by omega) (.refl _ _) (by simpa [prsA] using hg) hob
    refine OkV.eq (this.lp (l_e_3 G _ _ _ _ _ _ _ _)) ?_
    rw [s_e_1]
    simp (disch := first | omega | (simp only [za, zb]; done) | (simp only [za, zb]; omega)) [↓zp, ↓zk, ↓zh, hsv.len, hil]
end Go.Ideal.J
set_option maxHeartbeats 4000000
namespace Go.Ideal.J
open Go Go.Ideal
theorem i64_conv {k : IntKind} {n : Int} {h : H} (h1 : -9223372036854775808 ≤ n) (h2 : n ≤ 9223372036854775807) : vConv .i64 (.int k n) h = some (.int .i64 n, h) := by
  show some (Value.int .i64 (IntKind.wrap .i64 n), h) = _
  rw [← zhf, zhe h1 h2]
theorem i64_rem {ek : EK} {a b : Nat} {h : H} (hb : 0 < b) : vBin .rem ek (.int .i64 (a : Int)) (.int .i64 (b : Int)) h = some (.int .i64 ((a % b : Nat) : Int), h) := by
  have e : eqI (b : Int) 0 = false := by
    cases b with
    | zero => omega
    | succ b => rfl
  show (Option.map (·, h) (if eqI (b : Int) 0 then none else some (Value.int .i64 ((a : Int).tmod b)))) = _
  rw [e, Int.ofNat_tmod]; rfl
theorem idx_nat {h : H} {u : Value} {c : List Nat} (hr : Row h 1 u (c.map natL)) {x : Nat} (hx : x < c.length) : ∃ b o cs e, (∀ h', zy 1 u (.int .i64 (x : Int)) h' = some (.pointer (some ⟨b, o, none⟩), h')) ∧ b < h.next ∧ h.get b = some (.cells cs e) ∧ zbb 1 (zbY o cs) = some (natL (c.getD x 0)) :=
  hr.index (by rw [List.getElem?_map, List.getD_eq_getElem?_getD, List.getElem?_eq_getElem hx]; rfl)
theorem apart_law (st lb : Int) (es : List Ed) (sl : Value) (a b : Nat) (ha : a < 256) (hb : b < 256) (h : H) (hrow : Row h 3 sl (es.map edL)) : Ret G (fnV n_e) [gV st lb sl, .int .u8 (a : Int), .int .u8 (b : Int)] h fun v h' => v = .bool true ∧ Fr h h' := by
  refine Ret.fn (leFG _ _ F_e) 3 (by decide) ?_
  obtain ⟨P, hPd⟩ : ∃ P : Value → H → Prop, P = fun v h' => v = .bool true ∧ Fr h h' := ⟨_, rfl⟩
  rw [← hPd]
  have hP : ∀ h', Fr h h' → OkV (some (Out.val (.bool true) h')) P := fun h' hf => OkV.val (by rw [hPd]; exact ⟨rfl, hf⟩)
  have hsv := hrow.slvM
  have hkn : ∀ h, zbv G (fnV n_A) [] h = some (.bool true, h) := fun h => zel leFG (known_ok' h)
  obtain ⟨q, eq⟩ : ∃ q, q = h.next := ⟨_, rfl⟩
  obtain ⟨h1, eh1⟩ : ∃ h1, h1 = h.new (.cells (gL st lb sl) 0) := ⟨_, rfl⟩
  have hf1 : Fr h h1 := by rw [eh1]; exact .new _ _
  have hn1 : h1.next = q + 1 := by rw [eh1, eq]; simp
  have g0 : h1.get q = some (.cells (gL st lb sl) 0) := by rw [eh1, eq]; simp
  obtain ⟨v2, h2, e2, hf2, hA⟩ := jClasses_ok st lb es sl h1 (hrow.fr hf1)
  have e2 := zel leFG e2
  have hfn2 := hf2.next
  have g02 := (hf2.get _ (by omega)).trans g0
  rw [s_e]
  rcases hA with ⟨hc, rfl⟩ | ⟨hc, u, k, ob, rfl, hk, hg2, hob⟩
  · refine OkV.eq (hP h2 (hf1.trans hf2)) ?_
    simp (disch := first | omega | (simp only [za, zb]; done) | (simp only [za, zb]; omega)) [↓zp, ↓zk, ↓zh, hsv.clean, hsv.take, ← eq, ← eh1, g0, e2, hkn]
  · have fm := (zgp st lb es).1 hc
    obtain ⟨N, rfl⟩ := Int.eq_ofNat_of_zero_le (show 0 ≤ st by have := fm.st1; omega)
    have hN := fm.st2
    have hN1 := fm.st1
    have hlen := fm.len
    have hin := fm.inB
    have hst : ((N : Int)).toNat = N := by simp
    rw [hst] at hk hg2
    obtain ⟨c, ec⟩ : ∃ c, c = (cls (alk es N k) N).1 := ⟨_, rfl⟩
    have hcl : c.length = N := by rw [ec]; exact (zjx (alk_eqv hin hk) N (Nat.le_refl _)).len
    have hcb : ∀ {a b : Nat}, a < N → b < N → (c.getD a 0 = c.getD b 0 ↔ Bis es (a : Int) (b : Int)) := fun ha hb => by rw [ec]; exact cls_bis hin hk ha hb
    have hpb := prs_bis hin hk
    rw [← ec] at hg2 hpb
    have hlt : ∀ b o n c, u = .slice (some ⟨b, o, none⟩) n c → b < h2.next := fun b o n c e => (hg2.row (by omega)).lt e
    have hrow2 := hg2.row (by omega)
    have su := hg2.slvM
    rw [hcl] at su
    have N1 : ¬ ((N : Int) < 1) := by omega
    have := apart_1 c (by omega) (.int .u8 (a : Int)) (.int .u8 (b : Int)) (ptr q) u h2.next h2 hrow2 hlt (Nat.le_refl _) (P := P) (fun h3 w ob3 hf3 hg3 hob3 => by
      rw [hcl] at hg3
      have hF3 : Fr h h3 := (hf1.trans hf2).transD hf3 (fun i hi hd => by omega)
      have hfn3 := hf3.next
      have g03 := (hf3.get _ (by omega) (by omega)).trans g02
      have hpl := prs_len c N
      rw [hcl] at hpl
      have hNN : N * N ≤ 60 * 60 := Nat.mul_le_mul (by omega) (by omega)
      have e4 := jBis_ok (N : Int) lb (N : Int) lb es es (prs c N) (by omega) w sl sl h3 (hrow.fr hF3) (hrow.fr hF3) (hg3.row (by omega))
      have hbA : bisA (N : Int) lb es (N : Int) lb es (prs c N) = zdg (.bool true) (.int .i64 0) := by
        unfold bisA two
        rw [hc, hpb.1, hpb.2]; simp
      rw [hbA] at e4
      obtain ⟨x, ex⟩ : ∃ x, x = a % N := ⟨_, rfl⟩
      obtain ⟨y, ey⟩ : ∃ y, y = b % N := ⟨_, rfl⟩
      have hx : x < N := by rw [ex]; exact Nat.mod_lt _ (by omega)
      have hy : y < N := by rw [ey]; exact Nat.mod_lt _ (by omega)
      have ra : ∀ h', vBin .rem .other (.int .i64 (a : Int)) (.int .i64 (N : Int)) h' = some (.int .i64 (x : Int), h') := fun h' => by rw [ex]; exact i64_rem (by omega)
      have rb : ∀ h', vBin .rem .other (.int .i64 (b : Int)) (.int .i64 (N : Int)) h' = some (.int .i64 (y : Int), h') := fun h' => by rw [ey]; exact i64_rem (by omega)
      obtain ⟨v5, h5, e5, hf5, r, f, e, rfl, hfv5, hT⟩ := jTells_ok (N : Int) lb es sl (x : Int) (y : Int) h3 (hrow.fr hF3)
      have e5 := zel leFG e5
      have hfn5 := hf5.next
      have g05 := (hf5.get _ (by omega)).trans g03
      obtain ⟨op, lab, bs, nn, cc, er, hr1, hr2, hr3⟩ := hfv5.cells
      obtain ⟨h6, eh6⟩ : ∃ h6, h6 = h5.new (.cells r 0) := ⟨_, rfl⟩
      have hf6 : Fr h5 h6 := by rw [eh6]; exact .new _ _
      have hn6 : h6.next = h5.next + 1 := by rw [eh6]; simp
      have g06 := (hf6.get _ (by omega)).trans g05
      have gt6 : h6.get h5.next = some (.cells r 0) := by rw [eh6]; simp
      have hF6 : Fr h h6 := (hF3.trans hf5).trans hf6
      have hrow6 : Row h6 1 u (c.map natL) := ((hrow2.frD hf3 (fun b o n c e => by have := hlt b o n c e; omega)).fr hf5).fr hf6
      obtain ⟨x1, o1, cs1, u1, hv1, hl1, hg1, ht1⟩ := idx_nat hrow6 (x := x) (by omega)
      obtain ⟨x2, o2, cs2, u2, hv2, hl2, hg2', ht2⟩ := idx_nat hrow6 (x := y) (by omega)
      obtain ⟨cx, ecx⟩ : ∃ cx, cx = c.getD x 0 := ⟨_, rfl⟩
      obtain ⟨cy, ecy⟩ : ∃ cy, cy = c.getD y 0 := ⟨_, rfl⟩
      have hcxy : cx = cy ↔ Bis es (x : Int) (y : Int) := by rw [ecx, ecy]; exact hcb hx hy
      rw [← ecx] at ht1
      rw [← ecy] at ht2
      have hsx : isSt (N : Int) lb es (x : Int) = true := by unfold isSt; rw [hc]; simp [hx]
      have hsy : isSt (N : Int) lb es (y : Int) = true := by unfold isSt; rw [hc]; simp [hy]
      have hzw : zF = .mk 0 0 [] := rfl
      have zr : ∀ f, FV (fun _ => True) h5 f r → f = zF → op = 0 := fun f hf e => by
        subst e; unfold zF FV at hf
        obtain ⟨slv, rows, e1, _⟩ := hf
        rw [er] at e1
        simp at e1; exact e1.1
      have hbb : ∀ (b : Bool) (h' : H), vBin .eql .bool (.bool b) (.bool b) h' = some (.bool true, h') := fun b h' => by cases b <;> rfl
      rw [s_e_0]
      rcases hT with ⟨hT1, _⟩ | ⟨_, k', hk', hT⟩
      · rw [hsx, hsy] at hT1; cases hT1
      · rw [hst] at hk' hT
        rcases hT with ⟨hn, hz, rfl⟩ | ⟨v, hv, hT⟩
        · have hop := zr f hfv5 hz
          have hbis := (rN_none (a := (x : Int)) (b := (y : Int)) hin hk' ⟨by omega, by omega⟩ ⟨by omega, by omega⟩).1 (by rw [hn]; rfl)
          have hxy := hcxy.2 hbis
          refine OkV.eq (hP h6 hF6) ?_
          subst er hop
          simp (disch := first | omega | (simp only [za, zb]; done) | (simp only [za, zb]; omega)) [↓zp, ↓zk, ↓zh, hsv.clean, hsv.take, g03, e4, i64_conv, ra, rb, g05, e5, zq, ← eh6, g06, gt6, hv1, hg1, ht1, hv2, hg2', ht2, hxy, hkn]
        · have hnb : ¬ Bis es (x : Int) (y : Int) := (zbR hv).2.2
          have hxy : ¬ cx = cy := fun e => hnb (hcxy.1 e)
          have hxyI : ¬ (cx : Int) = (cy : Int) := fun e => hxy (by omega)
          rcases hT with ⟨_, hz, rfl⟩ | ⟨hsz, hz, rfl⟩
          · have hop := zr f hfv5 hz
            refine OkV.eq (hP h6 hF6) ?_
            subst er hop
            simp (disch := first | omega | (simp only [za, zb]; done) | (simp only [za, zb]; omega)) [↓zp, ↓zk, ↓zh, hsv.clean, hsv.take, g03, e4, i64_conv, ra, rb, g05, e5, zq, ← eh6, g06, gt6, hv1, hg1, ht1, hv2, hg2', ht2, hxy, hxyI, hkn]
          · have hfw6 : FW h6 f r := FW.fr hf6 hfv5.w
            have htell := tf_tells _ _ _ (Ok.top hv)
            have hfo := tf_ok (lb := lb) (fun x hx => by have := fm.ok x hx; exact ⟨this.2.2.2.2.1, this.2.2.2.2.2⟩) fm.lb1 _ _ _ (Ok.top hv)
            have hfm := fmd_ok lb _ 3000 hfo (by omega)
            rw [← hz] at htell hfm
            obtain ⟨h7, e7, hf7⟩ := jHolds_ok (N : Int) lb es sl f r (x : Int) h6 (hrow.fr hF6) hfw6
            have e7 := zel leFG e7
            have hfn7 := hf7.next
            have g07 := (hf7.get _ (by omega)).trans g06
            have gt7 := (hf7.get _ (by omega)).trans gt6
            obtain ⟨h8, e8, hf8⟩ := jHolds_ok (N : Int) lb es sl f r (y : Int) h7 (hrow.fr (hF6.trans hf7)) (FW.fr hf7 hfw6)
            have e8 := zel leFG e8
            have hfn8 := hf8.next
            have hx7 : zgO (N : Int) lb es f (x : Int) = zdg (.bool true) (.int .i64 0) := by unfold zgO; rw [if_pos ⟨hsx, by rw [hfm]⟩, htell.1]
            have hy7 : zgO (N : Int) lb es f (y : Int) = zdg (.bool false) (.int .i64 0) := by unfold zgO; rw [if_pos ⟨hsy, by rw [hfm]⟩, htell.2]
            rw [hx7] at e7
            rw [hy7] at e8
            have hg18 := (hf8.get x1 (by omega)).trans ((hf7.get x1 hl1).trans hg1)
            have hg28 := (hf8.get x2 (by omega)).trans ((hf7.get x2 hl2).trans hg2')
            refine OkV.eq (hP h8 ((hF6.trans hf7).trans hf8)) ?_
            subst er
            simp (disch := first | omega | (simp only [za, zb]; done) | (simp only [za, zb]; omega)) [↓zp, ↓zk, ↓zh, hsv.clean, hsv.take, g03, e4, i64_conv, ra, rb, g05, e5, zq, ← eh6, g06, gt6, e7, g07, gt7, e8, hv1, hg18, ht1, hv2, hg28, ht2, hxy, hxyI, hkn]) N 0 h2 _ none (by omega) (.refl _ _) (by simpa [prs] using Grow.nil) (by simp)
    refine OkV.eq (this.lp (l_e_1 G _ _ _ _ _ _ _)) ?_
    simp (disch := first | omega | (simp only [za, zb]; done) | (simp only [za, zb]; omega)) [↓zp, ↓zk, ↓zh, hsv.clean, hsv.take, ← eq, ← eh1, g0, e2, hkn, g02, su.len, N1]
end Go.Ideal.J
set_option maxRecDepth 100000
namespace Go.Proofs.Ytanaepeilcjhcaa
open Go.ChangeShapes Go.WideShapes Go.ChangeAt Go.RowKit Go.Ideal Go.Ideal.J
theorem Try.own : ownKnob Try.prog.godebug = none := by kernel_rfl
theorem Try.laidOut : laidOutB Try.prog = true := by kernel_rfl
theorem graph_in {H : Type} {enc : TypeId × Value → H} {W : World} {base b : Nat} {r : Reach} {spare : Nat → Bool} {held : Bool} {v : Value} {d : DataW H} {ps : List MemPlace} (hval : Value.okWide Try.prog W r base 24 v) (hd : DataW.Trod enc Try.prog W b spare held 24 v d ps) :
    ∃ (st lb : Int) (sl : Value) (es : List Ed), v = gV st lb sl ∧ okArg W v = true ∧ Row (impH W) 3 sl (es.map edL) := by
  unfold Value.okWide at hval
  rw [Try.underlying24] at hval
  obtain ⟨cs, rfl, hsz, ts, hts, _, hcell⟩ := hval
  obtain ⟨fuel, hd⟩ := hd
  have hcs : (Value.agg cs).cells.toList = cs.toList := rfl
  rw [hcs] at hd
  obtain ⟨xs, n, _, _, hl, hlen, hf⟩ := DataW.trod_struct Try.underlying24 hd
  have h3 : Try.prog.cellsOf 24 = 3 := by kernel_rfl
  have hi1 : Try.prog.cellsOf 3 = 1 := by kernel_rfl
  have hs1 : Try.prog.cellsOf 22 = 1 := by kernel_rfl
  have hE3 : Try.prog.cellsOf 58 = 3 := by kernel_rfl
  have hty : Try.prog.cellTypes Try.prog.depth 24 = some [3, 3, 22] := by kernel_rfl
  rw [hty] at hts
  cases hts
  rw [h3] at hl
  obtain ⟨c0, c1, c2, hc⟩ : ∃ c0 c1 c2, cs.toList = [c0, c1, c2] := by
    match cs.toList, hl with
    | [c0, c1, c2], _ => exact ⟨c0, c1, c2, rfl⟩
  rw [hc] at hf
  have e0 : DataW.trod enc Try.prog W b spare held n 3 (([c0, c1, c2].drop 0).take (Try.prog.cellsOf 3)) = xs[0]? := hf 0 _ rfl
  have e1 : DataW.trod enc Try.prog W b spare held n 3 (([c0, c1, c2].drop 1).take (Try.prog.cellsOf 3)) = xs[1]? := hf 1 _ rfl
  have e2 : DataW.trod enc Try.prog W b spare held n 22 (([c0, c1, c2].drop 2).take (Try.prog.cellsOf 22)) = xs[2]? := hf 2 _ rfl
  rw [hi1] at e0 e1
  rw [hs1] at e2
  obtain ⟨y0, y1, y2, rfl⟩ : ∃ y0 y1 y2, xs = [y0, y1, y2] := by
    match xs, hlen with
    | [y0, y1, y2], _ => exact ⟨y0, y1, y2, rfl⟩
  obtain ⟨st, rfl, _⟩ := zcM Try.underlying3 (show DataW.trod enc Try.prog W b spare held n 3 [c0] = some y0 from e0)
  obtain ⟨lb, rfl, _⟩ := zcM Try.underlying3 (show DataW.trod enc Try.prog W b spare held n 3 [c1] = some y1 from e1)
  have hcs' : cs = #[.int .i64 st, .int .i64 lb, c2] := by rw [← Array.toList_inj, hc]
  subst hcs'
  obtain ⟨u, hu, hok⟩ := hcell 2 c2 rfl
  cases hu
  obtain ⟨hokv, es, hrow⟩ := row_of_trod (α := Ed) (f := edL) (sz := 3) Try.underlying22 hE3 (by omega) (fun _ => rfl) (fun _ => rfl) (fun a v hv => by
      simp only [List.mem_cons, List.not_mem_nil, or_false] at hv
      rcases hv with rfl | rfl | rfl <;> rfl)
    (fun fuel cs y h => by
      obtain ⟨p, q, s, rfl⟩ := ints3_of_trod Try.underlying58 ⟨rfl, rfl⟩ ⟨rfl, rfl⟩ ⟨rfl, rfl⟩ Try.underlying3 Try.underlying3 Try.underlying3 hi1 hi1 hi1 hE3 h
      exact ⟨(p, q, s), rfl⟩) (slice_ok Try.underlying22 hok) (show DataW.trod enc Try.prog W b spare held n 22 [c2] = some y2 from e2)
  refine ⟨st, lb, c2, es, rfl, ?_, hrow⟩
  show ([.int .i64 st, .int .i64 lb, c2] : List Value).all (okV W) = true
  simp only [List.all_cons, List.all_nil, hokv, Bool.and_true]
  rfl
end Go.Proofs.Ytanaepeilcjhcaa
namespace Go.Proofs.Ytanaepeilcjhcaa
open Go.ChangeShapes Go.WideShapes Go.ChangeAt Go.RowKit Go.Ideal Go.Ideal.J
theorem apart_calls {W : World} {v : Value} {st lb : Int} {a b : Nat} (ha : a < 256) (hb : b < 256) {sl : Value} {es : List Ed} (hv : v = gV st lb sl) (ho : okArg W v = true) (hrow : Row (impH W) 3 sl (es.map edL)) : Calls Try.prog 8 #[v, .int .u8 (a : Int), .int .u8 (b : Int)] W fun e W' => e = .returned (.bool true) ∧ Same W W' := by
  obtain ⟨u, h', he, rfl, hf⟩ := apart_law st lb es sl a b ha hb (impH W) hrow
  subst hv
  exact calls_import Go.Ideal.X.hmix okGs (fun v hv => by
    simp only [List.mem_cons, List.not_mem_nil, or_false] at hv
    rcases hv with rfl | rfl | rfl
    · exact ho
    · rfl
    · rfl) he (fun i hi => hf.get i (Nat.lt_succ_of_lt hi))
theorem byte_in {H : Type} {enc : TypeId × Value → H} {W : World} {base b : Nat} {r : Reach} {spare : Nat → Bool} {held : Bool} {v : Value} {d : DataW H} {ps : List MemPlace} (hval : Value.okWide Try.prog W r base 5 v) (hd : DataW.Trod enc Try.prog W b spare held 5 v d ps) : ∃ n : Nat, n < 256 ∧ v = .int .u8 (n : Int) := by
  unfold Value.okWide at hval
  rw [Try.underlying5] at hval
  have h : Cell.okWide Try.prog W r base 5 v := hval
  unfold Cell.okWide at h
  rw [Try.underlying5] at h
  have h : Cell.ok Try.prog W r base 5 v := h
  unfold Cell.ok at h
  rw [Try.underlying5] at h
  cases v with
  | int k n =>
    obtain ⟨h1, h2⟩ := h
    subst h1
    have h3 : 0 ≤ n ∧ n < 256 := by
      have h2 : (0 : Int) ≤ n ∧ n ≤ 255 := h2
      omega
    exact ⟨n.toNat, by omega, by rw [show ((n.toNat : Nat) : Int) = n by omega]⟩
  | _ => exact h.elim
theorem apart_lifted (os : Os) (started : os.Started) (H : Type) (enc : TypeId × Value → H) :
    ReturnsInHanded {} Try.checked os 8 .any (Rows.judgeApartSpec.pre6 enc Try.prog Try.f8 Rows.judgeApartRow.domain false) (Rows.judgeApartSpec.post enc Try.prog Try.f8 false true false false) := by
  refine returnsInHanded_of_change (C := Try.checked) Try.own started (by kernel_rfl) Try.func8
    (ChangeSpec.witness6 (enc := enc) (C := Try.checked) false ⟨#[], #[.agg #[.int .i64 0, .int .i64 0, .slice none 0 0], .int .u8 0, .int .u8 0], []⟩ 8 (by kernel_rfl) (by kernel_rfl) (by kernel_rfl) (by kernel_rfl)) ?_
  intro W base args ds gs before hval0 hW hcnd _
  have hval : ∀ (j : Nat) t v, Try.f8.params[j]? = some t → args[j]? = some v → Value.okWide Try.prog W .any base t v := hval0
  have hW' := hW
  obtain ⟨p, q, hA0, hV, rfl, hfz, hnd⟩ := hW
  have hA : DataW.TrodAll enc Try.prog W 0 (fun _ => true) true Try.f8.params.toList args.toList ds p := hA0
  rw [Try.params8] at hA hval
  obtain ⟨v0, v1, v2, d0, d1, d2, q0, q1, q2, rfl, rfl, rfl, h0, h1, h2⟩ := trodAll_three hA
  obtain ⟨st, lb, sl, es, hv, ho, hrow⟩ := graph_in (hval 0 24 v0 rfl rfl) h0
  obtain ⟨a, ha, rfl⟩ := byte_in (hval 1 5 v1 rfl rfl) h1
  obtain ⟨b, hb, rfl⟩ := byte_in (hval 2 5 v2 rfl rfl) h2
  obtain ⟨rfl, rfl⟩ := trodVars_none hV
  refine (apart_calls ha hb hv ho hrow).mono fun e W' ⟨he, hs⟩ => ⟨_, he, ?_⟩
  exact law_post hW' rfl rfl (t := 4) (by kernel_rfl) Try.underlying4 hs Try.laidOut (fun t ht => by
    rw [Try.params8] at ht
    simp only [List.mem_cons, List.not_mem_nil, or_false] at ht
    rcases ht with rfl | rfl | rfl <;> exact ⟨by kernel_rfl, of_decide_eq_true (by kernel_rfl)⟩)
theorem apart_holds : Rows.JudgeApartSaid :=
  OpenClaim.holds_of_wide 8 Try.f8 rfl rfl rfl rfl rfl rfl rfl ⟨rfl, rfl, rfl, rfl, rfl⟩ rfl rfl rfl rfl rfl (by kernel_rfl) Try.func8 (by kernel_rfl)
    (of_decide_eq_true (by kernel_rfl)) (by unfold Func.isWrapper; first | (rw [if_pos (by decide +kernel)]; kernel_rfl) | (rw [if_neg (by decide +kernel)]; exact ⟨rfl, rfl⟩))
    (fun os started H enc _ => apart_lifted os started H enc)
end Go.Proofs.Ytanaepeilcjhcaa
