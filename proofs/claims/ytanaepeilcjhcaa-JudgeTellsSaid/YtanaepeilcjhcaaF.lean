/- JudgeTells: for any graph and any two states the law answers true: both find the same formula, or none for the same reason. No condition. -/
import Derived.Test.YtanaepeilcjhcaaRows
import Derived.Test.YtanaepeilcjhcaaE
set_option linter.unusedSimpArgs false
set_option linter.unusedVariables false
set_option linter.unusedSimpArgs false
set_option linter.unusedVariables false
set_option maxRecDepth 10000
set_option maxHeartbeats 2000000
namespace Go.Ideal.J
open Go Go.Ideal
def setR (r : Int → Int → Option Int) (n : Int) (p : Int × Int) : Int → Int → Option Int := fun c d => if (c = p.1 ∧ d = p.2) ∨ (c = p.2 ∧ d = p.1) then some n else r c d
def updAll (r : Int → Int → Option Int) (n : Int) (l : List (Int × Int)) : Int → Int → Option Int := l.foldl (fun r p => setR r n p) r
theorem rV_set (r : Int → Int → Option Int) (n : Int) (p : Int × Int) : upd2 (upd2 (rV r) p.1 p.2 (.int .i64 n)) p.2 p.1 (.int .i64 n) = rV (setR r n p) := by
  funext c d
  unfold upd2 setR rV; dsimp only
  by_cases h1 : c = p.2 ∧ d = p.1
  · rw [if_pos h1, if_pos (.inr h1)]; rfl
  · rw [if_neg h1]
    by_cases h2 : c = p.1 ∧ d = p.2
    · rw [if_pos h2, if_pos (.inl h2)]; rfl
    · rw [if_neg h2, if_neg (fun h => h.elim h2 h1)]
theorem updAll_get (n : Int) : ∀ (l : List (Int × Int)) (r : Int → Int → Option Int) (c d : Int), updAll r n l c d = if (c, d) ∈ l ∨ (d, c) ∈ l then some n else r c d
  | [], r, c, d => by simp [updAll]
  | p :: l, r, c, d => by
    show updAll (setR r n p) n l c d = _
    rw [updAll_get n l]
    by_cases h : (c, d) ∈ l ∨ (d, c) ∈ l
    · rw [if_pos h, if_pos (h.imp (fun h => List.mem_cons_of_mem _ h) (fun h => List.mem_cons_of_mem _ h))]
    · rw [if_neg h]
      unfold setR
      by_cases h2 : (c = p.1 ∧ d = p.2) ∨ (c = p.2 ∧ d = p.1)
      · rw [if_pos h2, if_pos]
        rcases h2 with ⟨rfl, rfl⟩ | ⟨rfl, rfl⟩
        · exact .inl (by simp)
        · exact .inr (by simp)
      · rw [if_neg h2, if_neg]
        rintro (h3 | h3)
        · rcases List.mem_cons.1 h3 with h3 | h3
          · exact h2 (.inl ⟨by rw [← h3], by rw [← h3]⟩)
          · exact h (.inl h3)
        · rcases List.mem_cons.1 h3 with h3 | h3
          · exact h2 (.inr ⟨by rw [← h3], by rw [← h3]⟩)
          · exact h (.inr h3)
/-- the rounds, one by one. -/
def rN (es : List Ed) (N : Nat) : Nat → Int → Int → Option Int
  | 0 => fun _ _ => none
  | k + 1 => updAll (rN es N k) ((k : Int) + 1) (fnd (rN es N k) es ((k : Int) + 1) N)
def allP (N : Nat) : List (Nat × Nat) := (List.range N).flatMap fun a => (List.range a).map fun b => (a, b)
def meas (N : Nat) (r : Int → Int → Option Int) : Nat := (allP N).countP fun p => (r p.1 p.2).isNone
theorem countP_le {α : Type} {p q : α → Bool} : ∀ {l : List α}, (∀ x ∈ l, q x = true → p x = true) → l.countP q ≤ l.countP p
  | [], _ => by simp
  | a :: l, h => by
    have ih := countP_le (l := l) fun x hx => h x (by simp [hx])
    have ha := h a (by simp)
    rw [List.countP_cons, List.countP_cons]
    cases hq : q a
    · simp; omega
    · rw [ha hq]; simp; omega
theorem countP_lt {α : Type} {p q : α → Bool} : ∀ {l : List α}, (∀ x ∈ l, q x = true → p x = true) → (∃ x ∈ l, p x = true ∧ q x = false) → l.countP q < l.countP p
  | [], _, ⟨x, hx, _⟩ => by cases hx
  | a :: l, h, ⟨x, hx, h1, h2⟩ => by
    have hle := countP_le (l := l) fun x hx => h x (by simp [hx])
    have ha := h a (by simp)
    rw [List.countP_cons, List.countP_cons]
    rcases List.mem_cons.1 hx with rfl | hx
    · rw [h1, h2]; simp; omega
    · have := countP_lt (l := l) (fun x hx => h x (by simp [hx])) ⟨x, hx, h1, h2⟩
      cases hq : q a
      · simp; omega
      · rw [ha hq]; simp; omega
theorem mem_allP {N a b : Nat} : (a, b) ∈ allP N ↔ a < N ∧ b < a := by
  unfold allP
  rw [List.mem_flatMap]
  constructor
  · rintro ⟨a', h1, h2⟩
    obtain ⟨b', h3, h4⟩ := List.mem_map.1 h2
    cases h4
    exact ⟨List.mem_range.1 h1, List.mem_range.1 h3⟩
  · rintro ⟨h1, h2⟩
    exact ⟨a, List.mem_range.2 h1, List.mem_map.2 ⟨b, List.mem_range.2 h2, rfl⟩⟩
theorem mem_fnd {r : Int → Int → Option Int} {es : List Ed} {n : Int} {N : Nat} {p : Int × Int} : p ∈ fnd r es n N ↔ ∃ a b : Nat, p = ((a : Int), (b : Int)) ∧ a < N ∧ b < a ∧ condR r es n a b = true := by
  unfold fnd fndA
  rw [List.mem_flatMap]
  constructor
  · rintro ⟨a, h1, h2⟩
    obtain ⟨b, h3, rfl⟩ := List.mem_map.1 h2
    obtain ⟨h4, h5⟩ := List.mem_filter.1 h3
    exact ⟨a, b, rfl, List.mem_range.1 h1, List.mem_range.1 h4, h5⟩
  · rintro ⟨a, b, rfl, h1, h2, h3⟩
    exact ⟨a, List.mem_range.2 h1, List.mem_map.2 ⟨b, List.mem_filter.2 ⟨List.mem_range.2 h2, h3⟩, rfl⟩⟩
theorem meas_lt {r : Int → Int → Option Int} {es : List Ed} {n : Int} {N : Nat} (h : fnd r es n N ≠ []) : meas N (updAll r n (fnd r es n N)) < meas N r := by
  unfold meas
  refine countP_lt (fun x hx hq => ?_) ?_
  · rw [updAll_get] at hq
    split at hq
    · cases hq
    · exact hq
  · obtain ⟨p, l, e⟩ := List.exists_cons_of_ne_nil h
    have hp : p ∈ fnd r es n N := by rw [e]; simp
    obtain ⟨a, b, rfl, h1, h2, h3⟩ := mem_fnd.1 hp
    refine ⟨(a, b), mem_allP.2 ⟨h1, h2⟩, ?_, ?_⟩
    · unfold condR at h3
      rw [Bool.and_eq_true] at h3
      exact h3.1
    · rw [updAll_get, if_pos (.inl hp)]; rfl

theorem apart8 (n : Int) (m pg : Nat) (l : List (Int × Int)) (hl : l.length ≤ 100000) (fv : Value) (h0 : H) (hrow : Row h0 2 fv (l.map prL)) (hfm : ∀ b o n c, fv = .slice (some ⟨b, o, none⟩) n c → b ≠ m) (hml : m < h0.next) {P : Value → H → Prop} (r : Int → Int → Option Int)
    (hP : ∀ h', FrD (fun j => j = m) h0 h' → MapM h' m (rV (updAll r n l)) → OkV (sh (rI F) c_judge_apart_1 (K_judge_apart_1 (rI F)) (setL [p1, p3, p4] [ptr pg, .map (some m), .int .i64 n]) h') P) :
    ∀ (k i : Nat) (h : H), i + k = l.length → FrD (fun j => j = m) h0 h → MapM h m (rV (updAll r n (l.take i))) →
    OkV (sh (rI F) c_judge_apart_8 (K_judge_apart_8 (rI F)) (setL [p1, p3, p4, p70, p71, p72] [ptr pg, .map (some m), .int .i64 n, fv, .int .i64 (l.length : Int), .int .i64 (i : Int)]) h) P := by
  intro k
  induction k with
  | zero =>
    intro i h hi hf hm
    have e : i = l.length := by omega
    subst e
    rw [List.take_length] at hm
    rw [s_judge_apart_8]
    simp (disch := first | omega | (simp only [new_next, put_next]; done) | (simp only [new_next, put_next]; omega)) []
    exact hP h hf hm
  | succ k ih =>
    intro i h hi hf hm
    have hil : i < l.length := by omega
    have hx : (l.map prL)[i]? = some (prL l[i]) := by simp [hil]
    have htk : l.take (i + 1) = l.take i ++ [l[i]] := by rw [List.take_add_one, List.getElem?_eq_getElem hil]; rfl
    obtain ⟨b, o, cs, e, hv, hb, hg, htc⟩ := (hrow.frD hf hfm).index hx
    generalize l[i] = p at *
    obtain ⟨p1', p2'⟩ := p
    have hfn := hf.next
    obtain ⟨h1, eh1⟩ : ∃ h1, h1 = h.new (.cells [.int .i64 p1', .int .i64 p2'] 0) := ⟨_, rfl⟩
    have hf1 : Fr h h1 := by rw [eh1]; exact .new _ _
    have hn1 : h1.next = h.next + 1 := by rw [eh1]; simp
    have gp1 : h1.get h.next = some (.cells [.int .i64 p1', .int .i64 p2'] 0) := by rw [eh1]; simp
    obtain ⟨o1, e1, hm1⟩ := upd_ok (hm.fr (D := fun _ => False) hf1.D (by omega) (by simp)) p1' p2' (.int .i64 n)
    have gp2 : (h1.put m o1).get h.next = some (.cells [.int .i64 p1', .int .i64 p2'] 0) := by rw [get_put_ne' (by omega)]; exact gp1
    obtain ⟨o2, e2, hm2⟩ := upd_ok hm1 p2' p1' (.int .i64 n)
    rw [put_put] at e2 hm2
    rw [rV_set _ n (p1', p2')] at hm2
    have := ih (i + 1) (h1.put m o2) (by omega) ((hf.trans hf1.D).put (.inr rfl) _) (by
      rw [htk]
      show MapM _ _ (rV ((l.take i ++ [(p1', p2')]).foldl (fun r p => setR r n p) r))
      rw [List.foldl_append]; exact hm2)
    rw [s_judge_apart_8]
    refine OkV.eq (this.lp (l_judge_apart_8 F _ _ _ _ _ _ _)) ?_
    have a1 : ∀ h' : H, vIndexA 2 1 (ptr h.next) (.int .i64 1) h' = some (.pointer (some ⟨h.next, 0 + 1 * 1, none⟩), h') := fun h' => rfl
    have a0 : ∀ h' : H, vIndexA 2 1 (ptr h.next) (.int .i64 0) h' = some (.pointer (some ⟨h.next, 0 + 0 * 1, none⟩), h') := fun h' => rfl
    simp (disch := first | omega | (simp only [new_next, put_next]; done) | (simp only [new_next, put_next]; omega)) [hil, hv, hg, htc, ← eh1, gp1, e1, gp2, fillL, e2, i64_add, a1, a0]

theorem apart3 (es : List Ed) (hs : SortedF es) (hsz : es.length ≤ 1000) (N : Nat) (hN : N ≤ 200) (lb : Int) (r : Int → Int → Option Int) (n : Int) (hn : 1 ≤ n ∧ n ≤ 1000000) (m pg : Nat) (sl : Value) (h0 : H) (hrow : Row h0 3 sl (es.map edL)) (hm : MapM h0 m (rV r)) (hml : m < h0.next) (hgg : h0.get pg = some (.cells (gL (N : Int) lb sl) 0)) (hpg : pg < h0.next) (lo : Nat) (hlo : lo ≤ h0.next) (hmlo : m < lo) (hpglo : pg < lo) (hsllo : ∀ b o n c, sl = .slice (some ⟨b, o, none⟩) n c → b < lo) {P : Value → H → Prop}
    (hP : ∀ h' fv ob, FrD (fun j => lo ≤ j) h0 h' → Grow h' 2 fv ((fnd r es n N).map prL) ob → (∀ q, ob = some q → lo ≤ q) → OkV (sh (rI F) c_judge_apart_2 (K_judge_apart_2 (rI F)) (setL [p1, p3, p4, p5] [ptr pg, .map (some m), .int .i64 n, fv]) h') P) :
    ∀ (k a : Nat) (h : H) (fv : Value) (ob : Option Nat), a + k = N → FrD (fun j => lo ≤ j) h0 h → Grow h 2 fv ((fnd r es n a).map prL) ob → (∀ q, ob = some q → lo ≤ q) →
    OkV (sh (rI F) c_judge_apart_3 (K_judge_apart_3 (rI F)) (setL [p1, p3, p4, p5, p18, p19] [ptr pg, .map (some m), .int .i64 n, fv, .int .i64 (N : Int), .int .i64 (a : Int)]) h) P := by
  intro k
  induction k with
  | zero =>
    intro a h fv ob ha hf hg hob
    have e : a = N := by omega
    subst e
    rw [s_judge_apart_3]
    simp (disch := first | omega | (simp only [new_next, put_next]; done) | (simp only [new_next, put_next]; omega)) []
    exact hP h fv ob hf hg hob
  | succ k ih =>
    intro a h fv ob ha hf hg hob
    have haN : a < N := by omega
    have hfn := hf.next
    have hfl := fnd_len r es n (N := N) a (by omega)
    have hNN : a * N ≤ 200 * 200 := Nat.mul_le_mul (by omega) hN
    rw [s_judge_apart_3]
    have := apart5 es hs hsz N hN lb r n hn m pg sl a haN (fnd r es n a) (by omega) h (hrow.frD hf (fun b o n c e => by have := hsllo b o n c e; omega)) (hm.fr hf hml (by omega)) (by omega) ((hf.get _ hpg (by omega)).trans hgg) (by omega) lo (by omega) hmlo hpglo hsllo (P := P)
      (fun h' fv' ob' hf' hg' hob' => by
        rw [s_judge_apart_4]
        have := ih (a + 1) h' fv' ob' (by omega) (hf.trans hf') (by rw [fnd_succ]; exact hg') hob'
        refine OkV.eq (this.lp (l_judge_apart_3 F _ _ _ _ _ _ _)) ?_
        simp (disch := first | omega | (simp only [new_next, put_next]; done) | (simp only [new_next, put_next]; omega)) [i64_add]) a 0 h fv ob (by omega) (.refl _ _) (by simpa [fndA] using hg) hob
    refine OkV.eq (this.lp (l_judge_apart_5 F _ _ _ _ _ _ _ _ _ _)) ?_
    simp (disch := first | omega | (simp only [new_next, put_next]; done) | (simp only [new_next, put_next]; omega)) [haN]

theorem apart0 (es : List Ed) (hs : SortedF es) (hsz : es.length ≤ 1000) (N : Nat) (hN : N ≤ 200) (lb : Int) (m pg : Nat) (sl : Value) (h0 : H) (hrow : Row h0 3 sl (es.map edL)) (hml : m < h0.next) (hgg : h0.get pg = some (.cells (gL (N : Int) lb sl) 0)) (hpg : pg < h0.next) (hsl : ∀ b o n c, sl = .slice (some ⟨b, o, none⟩) n c → b ≠ m) (hpm : pg ≠ m) {P : Value → H → Prop}
    (hP : ∀ h' k, FrD (fun j => j = m) h0 h' → MapM h' m (rV (rN es N k)) → fnd (rN es N k) es ((k : Int) + 1) N = [] → P (.map (some m)) h') :
    ∀ (μ k : Nat) (h : H), meas N (rN es N k) = μ → k + μ ≤ 100000 → FrD (fun j => j = m) h0 h → MapM h m (rV (rN es N k)) →
    OkV (sh (rI F) c_judge_apart_0 (K_judge_apart_0 (rI F)) (setL [p1, p3, p4] [ptr pg, .map (some m), .int .i64 ((k : Int) + 1)]) h) P := by
  intro μ
  induction μ using Nat.strongRecOn with
  | _ μ ih =>
    intro k h hμ hk hf hm
    have hfn := hf.next
    have gpg := (hf.get _ hpg hpm).trans hgg
    have hrow1 := hrow.frD hf hsl
    rw [s_judge_apart_0]
    have := apart3 es hs hsz N hN lb (rN es N k) ((k : Int) + 1) (by omega) m pg sl h hrow1 hm (by omega) gpg (by omega) h.next (Nat.le_refl _) (by omega) (by omega) (fun b o n c e => hrow1.lt e) (P := P)
      (fun h' fv ob hf' hg' hob' => by
        have hfn' := hf'.next
        have hff : Fr h h' := hf'.fr (by omega)
        have hv := hg'.slvM
        rw [s_judge_apart_2]
        by_cases hnil : fnd (rN es N k) es ((k : Int) + 1) N = []
        · have hl0 : (fnd (rN es N k) es ((k : Int) + 1) N).length = 0 := by rw [hnil]; rfl
          refine OkV.eq (OkV.val (hP h' k (hf.trans hff.D) (hm.fr (D := fun _ => False) hff.D (by omega) (by simp)) hnil)) ?_
          simp (disch := first | omega | (simp only [new_next, put_next]; done) | (simp only [new_next, put_next]; omega)) [hv.len, hl0]
        · have hl0 : ¬ ((fnd (rN es N k) es ((k : Int) + 1) N).length : Int) = 0 := by
            have := List.length_pos_iff.2 hnil; omega
          have hfl := fnd_len (rN es N k) es ((k : Int) + 1) (N := N) N (Nat.le_refl _)
          have hNN : N * N ≤ 200 * 200 := Nat.mul_le_mul hN hN
          have hlt := meas_lt hnil
          have h8 := apart8 ((k : Int) + 1) m pg (fnd (rN es N k) es ((k : Int) + 1) N) (by omega) fv h' (hg'.row (by omega)) (fun b o n c e => by have := hob' _ (hg'.block e); omega) (by omega) (P := P) (rN es N k)
            (fun h'' hf'' hm'' => by
              rw [s_judge_apart_1]
              have := ih (meas N (rN es N (k + 1))) (by rw [← hμ]; exact hlt) (k + 1) h'' rfl (by
                have : meas N (rN es N (k + 1)) < μ := by rw [← hμ]; exact hlt
                omega) ((hf.trans hff.D).trans hf'') hm''
              refine OkV.eq (this.lp (l_judge_apart_0 F _ _ _ _)) ?_
              simp (disch := first | omega | (simp only [new_next, put_next]; done) | (simp only [new_next, put_next]; omega)) [i64_add]) (fnd (rN es N k) es ((k : Int) + 1) N).length 0 h' (by omega) (.refl _ _) (by simpa [updAll] using hm.fr (D := fun _ => False) hff.D (by omega) (by simp))
          refine OkV.eq (h8.lp (l_judge_apart_8 F _ _ _ _ _ _ _)) ?_
          have hl0' : ¬ (fnd (rN es N k) es ((k : Int) + 1) N) = [] := hnil
          simp (disch := first | omega | (simp only [new_next, put_next]; done) | (simp only [new_next, put_next]; omega)) [hv.len, hl0, hl0']) N 0 h (.slice none 0 0) none (by omega) (.refl _ _) (by simpa [fnd] using Grow.nil) (by simp)
    refine OkV.eq (this.lp (l_judge_apart_3 F _ _ _ _ _ _ _)) ?_
    simp (disch := first | omega | (simp only [new_next, put_next]; done) | (simp only [new_next, put_next]; omega)) [gpg]
theorem meas_le (N : Nat) (r : Int → Int → Option Int) : meas N r ≤ N * N := by
  have : (allP N).length ≤ N * N := by
    unfold allP
    have key : ∀ n, n ≤ N → ((List.range n).flatMap fun a => (List.range a).map fun b => (a, b)).length ≤ n * N := by
      intro n
      induction n with
      | zero => intro _; simp
      | succ n ih =>
        intro h
        rw [List.range_succ, List.flatMap_append, List.length_append, Nat.succ_mul]
        have := ih (by omega)
        simp only [List.flatMap_cons, List.flatMap_nil, List.append_nil, List.length_map, List.length_range]
        omega
    exact key N (Nat.le_refl _)
  exact Nat.le_trans List.countP_le_length this
theorem apart_ok (es : List Ed) (hs : SortedF es) (hsz : es.length ≤ 1000) (N : Nat) (hN : N ≤ 200) (lb : Int) (sl : Value) (h : H) (hrow : Row h 3 sl (es.map edL)) {P : Value → H → Prop}
    (hP : ∀ h' m k, Fr h h' → h.next ≤ m → m < h'.next → MapM h' m (rV (rN es N k)) → fnd (rN es N k) es ((k : Int) + 1) N = [] → P (.map (some m)) h') : Ret F (fnV n_judge_apart) [gV (N : Int) lb sl] h P := by
  refine Ret.fn F_judge_apart 1 (by decide) ?_
  rw [s_judge_apart]
  obtain ⟨h2, eh2⟩ : ∃ h2, h2 = (h.new (.cells (gL (N : Int) lb sl) 0)).new (.map [] 0) := ⟨_, rfl⟩
  have hf2 : Fr h h2 := by rw [eh2]; exact (Fr.new _ _).newR _
  have hn2 : h2.next = h.next + 2 := by rw [eh2]; simp
  have hNN : N * N ≤ 200 * 200 := Nat.mul_le_mul hN hN
  have := apart0 es hs hsz N hN lb (h.next + 1) h.next sl h2 (hrow.fr hf2) (by omega) (by rw [eh2]; simp (disch := omega)) (by omega) (fun b o n c e => by have := hrow.lt e; omega) (by omega) (P := P) (fun h' k hf' hm' hk => hP h' (h.next + 1) k ⟨by have := hf'.next; omega, fun i hi => (hf'.get _ (by omega) (by omega)).trans (hf2.get _ hi)⟩ (by omega) (by have := hf'.next; omega) hm' hk) (meas N (rN es N 0)) 0 h2 rfl (by have := meas_le N (rN es N 0); omega) (.refl _ _) ⟨[], 0, by rw [eh2]; simp (disch := omega), .nil⟩
  refine OkV.eq (this.lp (l_judge_apart_0 F _ _ _ _)) ?_
  rw [eh2]
  simp (disch := first | omega | (simp only [new_next, put_next]; done) | (simp only [new_next, put_next]; omega)) []
end Go.Ideal.J
set_option linter.unusedSimpArgs false
set_option linter.unusedVariables false
set_option maxRecDepth 10000
set_option maxHeartbeats 2000000
namespace Go.Ideal.J
open Go Go.Ideal
end Go.Ideal.J
set_option linter.unusedSimpArgs false
set_option linter.unusedVariables false
set_option maxRecDepth 10000
set_option maxHeartbeats 2000000
namespace Go.Ideal.J
open Go Go.Ideal
end Go.Ideal.J
set_option linter.unusedSimpArgs false
set_option linter.unusedVariables false
set_option maxRecDepth 10000
set_option maxHeartbeats 2000000
namespace Go.Ideal.J
open Go Go.Ideal
/-! ### Bisimulations -/
def IsBis (es : List Ed) (R : Int → Int → Prop) : Prop :=
  ∀ a b, R a b → (∀ x ∈ outs es a, ∃ t ∈ tos es b x.2.2, R x.2.1 t) ∧ (∀ y ∈ outs es b, ∃ t ∈ tos es a y.2.2, R t y.2.1)
def Bis (es : List Ed) (a b : Int) : Prop := ∃ R, IsBis es R ∧ R a b
theorem Bis.symm {es : List Ed} {a b : Int} (h : Bis es a b) : Bis es b a := by
  obtain ⟨R, hR, h⟩ := h
  exact ⟨fun x y => R y x, fun x y hxy => ⟨(hR y x hxy).2, (hR y x hxy).1⟩, h⟩
theorem isBis_bis (es : List Ed) : IsBis es (Bis es) := by
  rintro a b ⟨R, hR, h⟩
  obtain ⟨h1, h2⟩ := hR a b h
  refine ⟨fun x hx => ?_, fun y hy => ?_⟩
  · obtain ⟨t, ht, hr⟩ := h1 x hx; exact ⟨t, ht, R, hR, hr⟩
  · obtain ⟨t, ht, hr⟩ := h2 y hy; exact ⟨t, ht, R, hR, hr⟩
theorem mem_outs {es : List Ed} {a : Int} {x : Ed} : x ∈ outs es a ↔ x ∈ es ∧ x.1 = a := by
  unfold outs; rw [List.mem_filter]; simp
theorem rN_some {es : List Ed} {N : Nat} : ∀ {k : Nat} {a b : Int} {v : Int}, rN es N k a b = some v → v ≤ k ∧ a ≠ b ∧ ¬ Bis es a b
  | 0, a, b, v, h => by cases h
  | k + 1, a, b, v, h => by
    have h : updAll (rN es N k) ((k : Int) + 1) (fnd (rN es N k) es ((k : Int) + 1) N) a b = some v := h
    rw [updAll_get] at h
    have step : ∀ a b : Int, (a, b) ∈ fnd (rN es N k) es ((k : Int) + 1) N → a ≠ b ∧ ¬ Bis es a b := by
      intro a b hm
      obtain ⟨c, d, e, h1, h2, h3⟩ := mem_fnd.1 hm
      cases e
      refine ⟨by omega, fun hb => ?_⟩
      unfold condR at h3
      simp only [Bool.and_eq_true, Bool.or_eq_true] at h3
      have key : ∀ p q : Int, (firstR (rN es N k) es p q ((k : Int) + 1 - 1)).isSome = true → ¬ Bis es p q := by
        intro p q hf hb
        obtain ⟨x, hx⟩ := Option.isSome_iff_exists.1 hf
        have h4 := List.find?_some hx
        have h5 := List.mem_of_find?_eq_some hx
        obtain ⟨t, ht, hbt⟩ := (isBis_bis es p q hb).1 x h5
        have h6 := List.all_eq_true.1 h4 t ht
        unfold tellsR at h6
        cases hr : rN es N k x.2.1 t with
        | none => rw [hr] at h6; simp at h6
        | some u => exact (rN_some hr).2.2 hbt
      rcases h3.2 with h | h
      · exact key _ _ h hb
      · exact key _ _ h hb.symm
    split at h
    · rename_i hm
      cases h
      refine ⟨by omega, ?_⟩
      rcases hm with hm | hm
      · exact step a b hm
      · obtain ⟨h1, h2⟩ := step b a hm
        exact ⟨fun e => h1 e.symm, fun hb => h2 hb.symm⟩
    · obtain ⟨h1, h2⟩ := rN_some h
      exact ⟨by omega, h2⟩
theorem rN_symm {es : List Ed} {N : Nat} : ∀ (k : Nat) (a b : Int), rN es N k a b = rN es N k b a
  | 0, _, _ => rfl
  | k + 1, a, b => by
    show updAll _ _ _ a b = updAll _ _ _ b a
    rw [updAll_get, updAll_get, rN_symm k a b]
    congr 1
    exact propext Or.comm
end Go.Ideal.J
set_option linter.unusedSimpArgs false
set_option linter.unusedVariables false
set_option maxRecDepth 10000
set_option maxHeartbeats 2000000
namespace Go.Ideal.J
open Go Go.Ideal
/-! ### Two graphs as one -/
section
variable {es fs : List Ed} {N M K : Nat}
end
end Go.Ideal.J
set_option linter.unusedSimpArgs false
set_option linter.unusedVariables false
set_option maxRecDepth 10000
set_option maxHeartbeats 2000000
namespace Go.Ideal.J
open Go Go.Ideal
theorem known_ok' (h : H) : callI F (fnV n_cabotagelaw22_known) [] h = some (.bool true, h) := by
  refine call_fn F_cabotagelaw22_known 0 (by decide) ?_
  rfl
end Go.Ideal.J
set_option linter.unusedSimpArgs false
set_option linter.unusedVariables false
set_option maxRecDepth 10000
set_option maxHeartbeats 2000000
namespace Go.Ideal.J
open Go Go.Ideal
theorem outs_take_succ {es : List Ed} {a : Int} {i : Nat} {x : Ed} (h : es[i]? = some x) : outs (es.take (i + 1)) a = outs (es.take i) a ++ if x.1 = a then [x] else [] := by
  unfold outs
  rw [List.take_add_one, h, List.filter_append]
  congr 1
  by_cases e : x.1 = a <;> simp [e]
theorem rsteps_loop (es : List Ed) (hsz : es.length ≤ 1000) (a st lb : Int) (sl : Value) (pg lo : Nat) (h0 : H) (hrow : Row h0 3 sl (es.map edL)) (hsl : ∀ b o n c, sl = .slice (some ⟨b, o, none⟩) n c → b < lo) (hgg : h0.get pg = some (.cells (gL st lb sl) 0)) (hpg : pg < lo) (hlo : lo ≤ h0.next) {P : Value → H → Prop}
    (hP : ∀ h' v ob, FrD (fun j => lo ≤ j) h0 h' → Grow h' 3 v ((outs es a).map edL) ob → (∀ b, ob = some b → lo ≤ b) → P v h') :
    ∀ (k i : Nat) (h : H) (v : Value) (ob : Option Nat), i + k = es.length → FrD (fun j => lo ≤ j) h0 h → Grow h 3 v ((outs (es.take i) a).map edL) ob → (∀ b, ob = some b → lo ≤ b) →
    OkV (sh (rI F) c_cabotageref22_steps_1 (K_cabotageref22_steps_1 (rI F)) (setL [p1, p2, p5, p6] [.int .i64 a, ptr pg, v, .int .i64 (i : Int)]) h) P := by
  intro k
  induction k with
  | zero =>
    intro i h v ob hi hf hg hob
    have e : i = es.length := by omega
    subst e
    rw [List.take_length] at hg
    have gpg := (hf.get _ (by omega) (by omega)).trans hgg
    have hv := hrow.slvM
    refine OkV.eq (OkV.val (hP h v ob hf hg hob)) ?_
    rw [s_cabotageref22_steps_1]
    simp (disch := first | omega | (simp only [new_next, put_next]; done) | (simp only [new_next, put_next]; omega)) [gpg, hv.take, hv.one, hv.len, s_cabotageref22_steps_0]
  | succ k ih =>
    intro i h v ob hi hf hg hob
    have hil : i < es.length := by omega
    have hfn := hf.next
    have gpg := (hf.get _ (by omega) (by omega)).trans hgg
    have hv := hrow.slvM
    have hx : (es.map edL)[i]? = some (edL es[i]) := by simp [hil]
    have hsucc := outs_take_succ (a := a) (List.getElem?_eq_getElem hil)
    obtain ⟨b, o, cs, e, hvi, hb, hgi, htc⟩ := (hrow.frD hf (fun b o n c e => by have := hsl b o n c e; omega)).index hx
    generalize es[i] = x at *
    have ht1 : takeC 1 (dropN o cs) = some [.int .i64 x.1] := by
      have h1 := (takeC_some htc).1
      rw [takeN_eq, dropN_eq] at h1
      split at h1
      · rename_i hl
        rw [dropN_eq]
        have hd : ∃ r, cs.drop o = Value.int .i64 x.1 :: r := by
          have h2 := Option.some.inj h1
          match hcs : cs.drop o with
          | [] => rw [hcs] at h2; simp at h2
          | c :: r => rw [hcs] at h2; simp at h2; exact ⟨r, by rw [h2.1]⟩
        obtain ⟨r, hr⟩ := hd
        rw [hr, takeC_int, takeC_z]; rfl
      · cases h1
    rw [s_cabotageref22_steps_1]
    by_cases c : x.1 = a
    · rw [if_pos c] at hsucc
      obtain ⟨x1, x2, x3⟩ := x
      obtain rfl : a = x1 := c.symm
      have hlen : (outs (es.take i) a).length ≤ 1000 := by
        unfold outs
        have := List.length_filter_le (fun x : Ed => decide (x.1 = a)) (es.take i)
        rw [List.length_take] at this; omega
      obtain ⟨h2, eh2⟩ : ∃ h2, h2 = h.new (.cells (edL (a, x2, x3)) 0) := ⟨_, rfl⟩
      have hf2 : Fr h h2 := by rw [eh2]; exact Fr.new _ _
      have hn2 : h2.next = h.next + 1 := by rw [eh2]; simp
      obtain ⟨h3, v', ea, hg3, hn3, hf3⟩ := append_one (h := h2) (sz := 3) (bytes := 24) (r := edL (a, x2, x3)) (b := h.next) (e := 0) (by omega) (by decide) (hg.fr hf2) (by rw [eh2]; simp) rfl rfl rfl (by rw [List.length_map]; omega)
      have := ih (i + 1) h3 v' (some h2.next) (by omega) ⟨by omega, fun j hj hd => (hf3.get _ (by omega) (fun e => hd (hob _ e))).trans ((hf2.get _ (by omega)).trans (hf.get _ hj hd))⟩ (by rw [hsucc, List.map_append]; exact hg3) (fun b e => by cases e; omega)
      refine OkV.eq (this.lp (l_cabotageref22_steps_1 F _ _ _ _ _)) ?_
      simp (disch := first | omega | (simp only [new_next, put_next]; done) | (simp only [new_next, put_next]; omega)) [gpg, hv.take, hv.one, hv.len, hil, hvi, hgi, ht1, htc, fillL, repeatL, ← eh2, ea, s_cabotageref22_steps_2, i64_add]
    · rw [if_neg c, List.append_nil] at hsucc
      have := ih (i + 1) h v ob (by omega) hf (by rw [hsucc]; exact hg) hob
      refine OkV.eq (this.lp (l_cabotageref22_steps_1 F _ _ _ _ _)) ?_
      simp (disch := first | omega | (simp only [new_next, put_next]; done) | (simp only [new_next, put_next]; omega)) [gpg, hv.take, hv.one, hv.len, hil, hvi, hgi, ht1, c, s_cabotageref22_steps_2, i64_add]
theorem rsteps_ok (es : List Ed) (hsz : es.length ≤ 1000) (a st lb : Int) (sl : Value) (h : H) (hrow : Row h 3 sl (es.map edL)) {P : Value → H → Prop}
    (hP : ∀ h' v ob, Fr h h' → Grow h' 3 v ((outs es a).map edL) ob → (∀ b, ob = some b → h.next ≤ b) → P v h') : Ret F (fnV n_cabotageref22_steps) [gV st lb sl, .int .i64 a] h P := by
  refine Ret.fn F_cabotageref22_steps 2 (by decide) ?_
  rw [s_cabotageref22_steps]
  have hv := hrow.slvM
  have hf1 : Fr h (h.new (.cells (gL st lb sl) 0)) := .new _ _
  have := rsteps_loop es hsz a st lb sl h.next (h.next + 1) (h.new (.cells (gL st lb sl) 0)) (hrow.fr hf1) (fun b o n c e => by have := hrow.lt e; omega) (by simp) (by omega) (by simp) (P := P) (fun h' v ob q1 q2 q3 => hP h' v ob ⟨by have := q1.next; simp at this; omega, fun i hi => (q1.get _ (by simp; omega) (by omega)).trans (hf1.get _ hi)⟩ q2 (fun b e => by have := q3 b e; omega)) es.length 0 (h.new (.cells (gL st lb sl) 0)) (.slice none 0 0) none (by omega) (.refl _ _) (by simpa [outs] using Grow.nil) (by simp)
  refine OkV.eq (this.lp (l_cabotageref22_steps_1 F _ _ _ _ _)) ?_
  simp (disch := first | omega | (simp only [new_next, put_next]; done) | (simp only [new_next, put_next]; omega)) []
end Go.Ideal.J
set_option linter.unusedSimpArgs false
set_option linter.unusedVariables false
set_option maxRecDepth 10000
set_option maxHeartbeats 2000000
namespace Go.Ideal.J
open Go Go.Ideal
/-- the lists of edges and the rounds, as the reference holds them. -/
structure RC2 (es : List Ed) (N : Nat) (h : H) (tl tr : Value) (lvs rvs : List Value) (R : Int → Int → Int) : Prop where
  rl : Row h 1 tl (lvs.map fun v => [v])
  rr : Row h 1 tr (rvs.map fun v => [v])
  lst : ∀ a : Nat, a < N → ∃ lv, lvs[a]? = some lv ∧ Row h 3 lv ((outs es a).map edL)
  mat : ∀ a : Nat, a < N → ∃ (q : Nat) (is : List Int), rvs[a]? = some (slF q N) ∧ h.get q = some (.cells (is.map fun i => .int .i64 i) 0) ∧ is.length = N ∧ (∀ c : Nat, c < N → is[c]? = some (R a c)) ∧ q < h.next
theorem RC2.fr {es : List Ed} {N : Nat} {h h' : H} {tl tr : Value} {lvs rvs : List Value} {R : Int → Int → Int} (r : RC2 es N h tl tr lvs rvs R) (hf : Fr h h') : RC2 es N h' tl tr lvs rvs R where
  rl := r.rl.fr hf
  rr := r.rr.fr hf
  lst := fun a ha => by obtain ⟨lv, h1, h2⟩ := r.lst a ha; exact ⟨lv, h1, h2.fr hf⟩
  mat := fun a ha => by
    obtain ⟨q, is, h1, h2, h3, h4, h5⟩ := r.mat a ha
    exact ⟨q, is, h1, (hf.get _ h5).trans h2, h3, h4, Nat.lt_of_lt_of_le h5 hf.next⟩
def badR (R : Int → Int → Int) (most u t : Int) : Bool := decide (R u t = 0) || (decide (0 ≤ most) && decide (most < R u t))
def ansR (R : Int → Int → Int) (es : List Ed) (x : Ed) (b most : Int) : Bool := (tos es b x.2.2).all fun t => !badR R most x.2.1 t

theorem answerless_ok (es : List Ed) (hsz : es.length ≤ 1000) (N : Nat) (hin : inB (N : Int) es) (tl tr : Value) (lvs rvs : List Value) (R : Int → Int → Int) (x : Ed) (hx : x ∈ es) (b : Nat) (hb : b < N) (most : Int) (h : H) (hr : RC2 es N h tl tr lvs rvs R) :
    ∃ h', callI F (fnV n_cabotageref22_answerless) [tl, tr, edV x, .int .i64 (b : Int), .int .i64 most] h = some (.bool (ansR R es x b most), h') ∧ Fr h h' := by
  suffices hr : Ret F (fnV n_cabotageref22_answerless) [tl, tr, edV x, .int .i64 (b : Int), .int .i64 most] h fun v h' => v = .bool (ansR R es x b most) ∧ Fr h h' by
    obtain ⟨v, h', e, rfl, hf⟩ := hr; exact ⟨h', e, hf⟩
  obtain ⟨P, hPd⟩ : ∃ P : Value → H → Prop, P = fun v h' => v = .bool (ansR R es x b most) ∧ Fr h h' := ⟨_, rfl⟩
  rw [← hPd]
  have hxin := hin x hx
  obtain ⟨u, hu⟩ := Int.eq_ofNat_of_zero_le hxin.2.2.1
  obtain ⟨lv, l1, l2⟩ := hr.lst b hb
  obtain ⟨q, is, m1, m2, m3, m4, m5⟩ := hr.mat u (by omega)
  have hv := l2.slvM
  have hol : (outs es b).length ≤ es.length := by unfold outs; exact List.length_filter_le _ _
  have hf1 : Fr h (h.new (.cells (edL x) 0)) := .new _ _
  have loop : ∀ (k i : Nat) (h1 : H), i + k = (outs es b).length → Fr h h1 → h1.get h.next = some (.cells (edL x) 0) → h.next < h1.next → (∀ y ∈ (outs es b).take i, y.2.2 = x.2.2 → badR R most x.2.1 y.2.1 = false) →
      OkV (sh (rI F) c_cabotageref22_answerless_1 (K_cabotageref22_answerless_1 (rI F)) (setL [p0, p1, p3, p4, p7, p11] [tl, tr, .int .i64 (b : Int), .int .i64 most, ptr h.next, .int .i64 (i : Int)]) h1) P := by
    intro k
    induction k with
    | zero =>
      intro i h1 hi hf gx hl hall
      have e : i = (outs es b).length := by omega
      subst e
      rw [List.take_length] at hall
      obtain ⟨b1, o1, cs1, e1, hv1, hb1, hg1, ht1⟩ := (hr.rl.fr hf).index (i := b) (r := [lv]) (by rw [List.getElem?_map, l1]; rfl)
      refine OkV.eq (OkV.val (v := .bool true) (h := h1) (by
        rw [hPd]
        refine ⟨?_, hf⟩
        congr 1; symm
        refine List.all_eq_true.2 fun t ht => ?_
        obtain ⟨y, hy, q1, q2, rfl⟩ := mem_tos.1 ht
        rw [hall y (mem_outs.2 ⟨hy, q1⟩) q2]; rfl)) ?_
      rw [s_cabotageref22_answerless_1]
      simp (disch := first | omega | (simp only [new_next, put_next]; done) | (simp only [new_next, put_next]; omega)) [hv1, hg1, ht1, hv.one, hv.len, s_cabotageref22_answerless_0]
    | succ k ih =>
      intro i h1 hi hf gx hl hall
      have hil : i < (outs es b).length := by omega
      have hfn := hf.next
      have htk : (outs es b).take (i + 1) = (outs es b).take i ++ [(outs es b)[i]] := by rw [List.take_add_one, List.getElem?_eq_getElem hil]; rfl
      have hyo := mem_outs.1 (List.getElem_mem hil)
      obtain ⟨b1, o1, cs1, e1, hv1, hb1, hg1, ht1⟩ := (hr.rl.fr hf).index (i := b) (r := [lv]) (by rw [List.getElem?_map, l1]; rfl)
      obtain ⟨b2, o2, cs2, e2, hv2, hb2, hg2, ht2⟩ := (l2.fr hf).index (i := i) (r := edL (outs es b)[i]) (by simp [hil])
      have hyin := hin _ hyo.1
      generalize (outs es b)[i] = y at *
      have hf2 : Fr h (h1.new (.cells (edL y) 0)) := hf.newR _
      have next : (y.2.2 = x.2.2 → badR R most x.2.1 y.2.1 = false) → OkV (sh (rI F) c_cabotageref22_answerless_2 (K_cabotageref22_answerless_2 (rI F)) (setL [p0, p1, p3, p4, p7, p11] [tl, tr, .int .i64 (b : Int), .int .i64 most, ptr h.next, .int .i64 (i : Int)]) (h1.new (.cells (edL y) 0))) P := by
        intro hh
        rw [s_cabotageref22_answerless_2]
        have := ih (i + 1) (h1.new (.cells (edL y) 0)) (by omega) hf2 (by rw [get_new_ne (by omega)]; exact gx) (by simp; omega) (fun z hz => by
          rw [htk] at hz
          rcases List.mem_append.1 hz with hz | hz
          · exact hall z hz
          · rw [List.mem_singleton] at hz; subst hz; exact hh)
        refine OkV.eq (this.lp (l_cabotageref22_answerless_1 F _ _ _ _ _ _ _)) ?_
        simp (disch := first | omega | (simp only [new_next, put_next]; done) | (simp only [new_next, put_next]; omega)) [i64_add]
      rw [s_cabotageref22_answerless_1]
      by_cases c : y.2.2 = x.2.2
      · obtain ⟨w, hw⟩ := Int.eq_ofNat_of_zero_le hyin.2.2.1
        obtain ⟨b3, o3, cs3, e3, hv3, hb3, hg3, ht3⟩ := (hr.rr.fr hf).index (i := u) (r := [slF q N]) (by rw [List.getElem?_map, m1]; rfl)
        have gq : h1.get q = some (.cells (is.map fun i => .int .i64 i) 0) := (hf.get _ m5).trans m2
        have hwN : w < N := by omega
        have rq : takeC 1 (dropN w (is.map fun i => Value.int .i64 i)) = some [.int .i64 (R u w)] := takeC_at (by rw [List.getElem?_map, m4 w hwN]; rfl) rfl
        obtain ⟨x1, x2, x3⟩ := x
        obtain ⟨y1, y2, y3⟩ := y
        obtain rfl : x2 = (u : Int) := hu
        obtain rfl : y2 = (w : Int) := hw
        obtain rfl : y3 = x3 := c
        by_cases c1 : R u w = 0
        · refine OkV.eq (OkV.val (v := .bool false) (h := h1.new (.cells (edL (y1, (w : Int), y3)) 0)) (by
            rw [hPd]
            refine ⟨?_, hf2⟩
            congr 1; symm
            rw [Bool.eq_false_iff]; intro hh
            have := List.all_eq_true.1 hh (w : Int) (mem_tos.2 ⟨_, hyo.1, hyo.2, rfl, rfl⟩)
            simp [badR, c1] at this)) ?_
          simp (disch := first | omega | (simp only [new_next, put_next]; done) | (simp only [new_next, put_next]; omega)) [hv1, hg1, ht1, hv.one, hv.len, hil, hv2, hg2, ht2, gx, hv3, hg3, ht3, gq, rq, hwN, c1]
        · by_cases c2 : 0 ≤ most
          · by_cases c3 : most < R u w
            · refine OkV.eq (OkV.val (v := .bool false) (h := h1.new (.cells (edL (y1, (w : Int), y3)) 0)) (by
                rw [hPd]
                refine ⟨?_, hf2⟩
                congr 1; symm
                rw [Bool.eq_false_iff]; intro hh
                have := List.all_eq_true.1 hh (w : Int) (mem_tos.2 ⟨_, hyo.1, hyo.2, rfl, rfl⟩)
                simp [badR, c1, c2, c3] at this)) ?_
              simp (disch := first | omega | (simp only [new_next, put_next]; done) | (simp only [new_next, put_next]; omega)) [hv1, hg1, ht1, hv.one, hv.len, hil, hv2, hg2, ht2, gx, hv3, hg3, ht3, gq, rq, hwN, c1, c2, c3]
            · refine OkV.eq (next fun _ => by simp [badR, c1, c2, c3]) ?_
              simp (disch := first | omega | (simp only [new_next, put_next]; done) | (simp only [new_next, put_next]; omega)) [hv1, hg1, ht1, hv.one, hv.len, hil, hv2, hg2, ht2, gx, hv3, hg3, ht3, gq, rq, hwN, c1, c2, c3]
          · refine OkV.eq (next fun _ => by simp [badR, c1, c2]) ?_
            simp (disch := first | omega | (simp only [new_next, put_next]; done) | (simp only [new_next, put_next]; omega)) [hv1, hg1, ht1, hv.one, hv.len, hil, hv2, hg2, ht2, gx, hv3, hg3, ht3, gq, rq, hwN, c1, c2]
      · refine OkV.eq (next fun h => absurd h c) ?_
        simp (disch := first | omega | (simp only [new_next, put_next]; done) | (simp only [new_next, put_next]; omega)) [hv1, hg1, ht1, hv.one, hv.len, hil, hv2, hg2, ht2, gx, c]
  refine Ret.fn F_cabotageref22_answerless 5 (by decide) ?_
  rw [s_cabotageref22_answerless]
  have := loop (outs es b).length 0 (h.new (.cells (edL x) 0)) (by omega) hf1 (by simp) (by simp) (by simp)
  refine OkV.eq (this.lp (l_cabotageref22_answerless_1 F _ _ _ _ _ _ _)) ?_
  simp (disch := first | omega | (simp only [new_next, put_next]; done) | (simp only [new_next, put_next]; omega)) []

def splitR (R : Int → Int → Int) (es : List Ed) (a b : Int) : Bool := (outs es a).any fun x => ansR R es x b (-1)
theorem split_ok (es : List Ed) (hsz : es.length ≤ 1000) (N : Nat) (hin : inB (N : Int) es) (tl tr : Value) (lvs rvs : List Value) (R : Int → Int → Int) (a b : Nat) (ha : a < N) (hb : b < N) (h : H) (hr : RC2 es N h tl tr lvs rvs R) :
    ∃ h', callI F (fnV n_cabotageref22_split) [tl, tr, .int .i64 (a : Int), .int .i64 (b : Int)] h = some (.bool (splitR R es a b), h') ∧ Fr h h' := by
  suffices hr : Ret F (fnV n_cabotageref22_split) [tl, tr, .int .i64 (a : Int), .int .i64 (b : Int)] h fun v h' => v = .bool (splitR R es a b) ∧ Fr h h' by
    obtain ⟨v, h', e, rfl, hf⟩ := hr; exact ⟨h', e, hf⟩
  obtain ⟨P, hPd⟩ : ∃ P : Value → H → Prop, P = fun v h' => v = .bool (splitR R es a b) ∧ Fr h h' := ⟨_, rfl⟩
  rw [← hPd]
  obtain ⟨lv, l1, l2⟩ := hr.lst a ha
  have hv := l2.slvM
  have hol : (outs es a).length ≤ es.length := by unfold outs; exact List.length_filter_le _ _
  have loop : ∀ (k i : Nat) (h1 : H), i + k = (outs es a).length → Fr h h1 → (∀ x ∈ (outs es a).take i, ansR R es x b (-1) = false) →
      OkV (sh (rI F) c_cabotageref22_split_1 (K_cabotageref22_split_1 (rI F)) (setL [p0, p1, p2, p3, p9] [tl, tr, .int .i64 (a : Int), .int .i64 (b : Int), .int .i64 (i : Int)]) h1) P := by
    intro k
    induction k with
    | zero =>
      intro i h1 hi hf hall
      have e : i = (outs es a).length := by omega
      subst e
      rw [List.take_length] at hall
      obtain ⟨b1, o1, cs1, e1, hv1, hb1, hg1, ht1⟩ := (hr.rl.fr hf).index (i := a) (r := [lv]) (by rw [List.getElem?_map, l1]; rfl)
      refine OkV.eq (OkV.val (v := .bool false) (h := h1) (by
        rw [hPd]
        refine ⟨?_, hf⟩
        congr 1; symm
        unfold splitR
        rw [List.any_eq_false]
        intro x hx; rw [hall x hx]; simp)) ?_
      rw [s_cabotageref22_split_1]
      simp (disch := first | omega | (simp only [new_next, put_next]; done) | (simp only [new_next, put_next]; omega)) [hv1, hg1, ht1, hv.one, hv.len, s_cabotageref22_split_0]
    | succ k ih =>
      intro i h1 hi hf hall
      have hil : i < (outs es a).length := by omega
      have hfn := hf.next
      have htk : (outs es a).take (i + 1) = (outs es a).take i ++ [(outs es a)[i]] := by rw [List.take_add_one, List.getElem?_eq_getElem hil]; rfl
      have hxm := List.getElem_mem hil
      have hxo := mem_outs.1 hxm
      obtain ⟨b1, o1, cs1, e1, hv1, hb1, hg1, ht1⟩ := (hr.rl.fr hf).index (i := a) (r := [lv]) (by rw [List.getElem?_map, l1]; rfl)
      obtain ⟨b2, o2, cs2, e2, hv2, hb2, hg2, ht2⟩ := (l2.fr hf).index (i := i) (r := edL (outs es a)[i]) (by simp [hil])
      generalize (outs es a)[i] = x at *
      obtain ⟨h2, e3, hf2⟩ := answerless_ok es hsz N hin tl tr lvs rvs R x hxo.1 b hb (-1) h1 (hr.fr hf)
      rw [s_cabotageref22_split_1]
      cases hc : ansR R es x b (-1) with
      | true =>
        rw [hc] at e3
        refine OkV.eq (OkV.val (v := .bool true) (h := h2) (by
          rw [hPd]
          refine ⟨?_, hf.trans hf2⟩
          congr 1; symm
          unfold splitR
          rw [List.any_eq_true]
          exact ⟨x, hxm, hc⟩)) ?_
        simp (disch := first | omega | (simp only [new_next, put_next]; done) | (simp only [new_next, put_next]; omega)) [hv1, hg1, ht1, hv.one, hv.len, hil, hv2, hg2, ht2, e3]
      | false =>
        rw [hc] at e3
        have := ih (i + 1) h2 (by omega) (hf.trans hf2) (fun z hz => by
          rw [htk] at hz
          rcases List.mem_append.1 hz with hz | hz
          · exact hall z hz
          · rw [List.mem_singleton] at hz; subst hz; exact hc)
        refine OkV.eq (this.lp (l_cabotageref22_split_1 F _ _ _ _ _ _)) ?_
        simp (disch := first | omega | (simp only [new_next, put_next]; done) | (simp only [new_next, put_next]; omega)) [hv1, hg1, ht1, hv.one, hv.len, hil, hv2, hg2, ht2, e3, i64_add]
  refine Ret.fn F_cabotageref22_split 4 (by decide) ?_
  rw [s_cabotageref22_split]
  have := loop (outs es a).length 0 h (by omega) (.refl _) (by simp)
  refine OkV.eq (this.lp (l_cabotageref22_split_1 F _ _ _ _ _ _)) ?_
  simp (disch := first | omega | (simp only [new_next, put_next]; done) | (simp only [new_next, put_next]; omega)) []
end Go.Ideal.J
set_option linter.unusedSimpArgs false
set_option linter.unusedVariables false
set_option maxRecDepth 10000
set_option maxHeartbeats 2000000
namespace Go.Ideal.J
open Go Go.Ideal
/-- what the reference finds in a round. -/
def condZ (R : Int → Int → Int) (es : List Ed) (a b : Int) : Bool := decide (R a b = 0) && (splitR R es a b || splitR R es b a)
def fzA (R : Int → Int → Int) (es : List Ed) (a b : Nat) : List (Int × Int) := ((List.range b).filter fun (b : Nat) => condZ R es (a : Int) (b : Int)).map fun (b : Nat) => ((a : Int), (b : Int))
def fz (R : Int → Int → Int) (es : List Ed) (N a : Nat) : List (Int × Int) := (List.range a).flatMap fun a => fzA R es a N
theorem fzA_succ (R : Int → Int → Int) (es : List Ed) (a b : Nat) : fzA R es a (b + 1) = fzA R es a b ++ if condZ R es a b then [((a : Int), (b : Int))] else [] := by
  unfold fzA
  rw [List.range_succ, List.filter_append, List.map_append]
  congr 1
  by_cases e : condZ R es (a : Int) (b : Int) = true
  · rw [if_pos e]; simp [e]
  · rw [if_neg e]; simp [e]
theorem fz_succ (R : Int → Int → Int) (es : List Ed) (N a : Nat) : fz R es N (a + 1) = fz R es N a ++ fzA R es a N := by
  unfold fz
  rw [List.range_succ, List.flatMap_append]
  simp
theorem fzA_len (R : Int → Int → Int) (es : List Ed) (a b : Nat) : (fzA R es a b).length ≤ b := by
  unfold fzA
  rw [List.length_map]
  exact Nat.le_trans (List.length_filter_le _ _) (by simp)
theorem fz_len (R : Int → Int → Int) (es : List Ed) (N : Nat) : ∀ a, (fz R es N a).length ≤ a * N
  | 0 => by simp [fz]
  | a + 1 => by
    rw [fz_succ, List.length_append, Nat.succ_mul]
    have := fz_len R es N a
    have := fzA_len R es a N
    omega
theorem rnd7 (es : List Ed) (hsz : es.length ≤ 1000) (N : Nat) (hN : N ≤ 200) (hin : inB (N : Int) es) (tl tr : Value) (lvs rvs : List Value) (R : Int → Int → Int) (n : Int) (pg : Nat) (lb : Int) (sl : Value) (hv : SlV sl es.length) (a : Nat) (ha : a < N) (rows : List (Int × Int)) (hrows : rows.length ≤ 100000) (h0 : H) (hr : RC2 es N h0 tl tr lvs rvs R) (hgg : h0.get pg = some (.cells (gL (N : Int) lb sl) 0)) (hpg : pg < h0.next) {P : Value → H → Prop}
    (hP : ∀ h' fv ob, Fr h0 h' → Grow h' 2 fv ((rows ++ fzA R es a N).map prL) ob → (∀ q, ob = some q → h0.next ≤ q) → OkV (sh (rI F) c_cabotageref22_Rounds_6 (K_cabotageref22_Rounds_6 (rI F)) (setL [p1, p3, p4, p6, p7, p8] [ptr pg, tl, tr, .int .i64 n, fv, .int .i64 (a : Int)]) h') P) :
    ∀ (k b : Nat) (h : H) (fv : Value) (ob : Option Nat), b + k = N → Fr h0 h → Grow h 2 fv ((rows ++ fzA R es a b).map prL) ob → (∀ q, ob = some q → h0.next ≤ q) →
    OkV (sh (rI F) c_cabotageref22_Rounds_7 (K_cabotageref22_Rounds_7 (rI F)) (setL [p1, p3, p4, p6, p7, p8, p9] [ptr pg, tl, tr, .int .i64 n, fv, .int .i64 (a : Int), .int .i64 (b : Int)]) h) P := by
  intro k
  induction k with
  | zero =>
    intro b h fv ob hb hf hg hob
    have e : b = N := by omega
    subst e
    have gpg := (hf.get _ hpg).trans hgg
    rw [s_cabotageref22_Rounds_7]
    simp (disch := first | omega | (simp only [new_next, put_next]; done) | (simp only [new_next, put_next]; omega)) [gpg, hv.one, hv.len]
    exact hP h fv ob hf hg hob
  | succ k ih =>
    intro b h fv ob hb hf hg hob
    have hbN : b < N := by omega
    have hfn := hf.next
    have hsucc := fzA_succ R es a b
    have gpg := (hf.get _ hpg).trans hgg
    have hrh := hr.fr hf
    obtain ⟨q, is, m1, m2, m3, m4, m5⟩ := hrh.mat a ha
    obtain ⟨b3, o3, cs3, e3, hv3, hb3, hg3, ht3⟩ := hrh.rr.index (i := a) (r := [slF q N]) (by rw [List.getElem?_map, m1]; rfl)
    have rq : takeC 1 (dropN b (is.map fun i => Value.int .i64 i)) = some [.int .i64 (R a b)] := takeC_at (by rw [List.getElem?_map, m4 b hbN]; rfl) rfl
    have skip : condZ R es a b = false → ∀ h', Fr h h' → OkV (sh (rI F) c_cabotageref22_Rounds_8 (K_cabotageref22_Rounds_8 (rI F)) (setL [p1, p3, p4, p6, p7, p8, p9] [ptr pg, tl, tr, .int .i64 n, fv, .int .i64 (a : Int), .int .i64 (b : Int)]) h') P := by
      intro hc h' hf'
      rw [s_cabotageref22_Rounds_8]
      have := ih (b + 1) h' fv ob (by omega) (hf.trans hf') (by rw [hsucc, hc]; simpa using hg.fr hf') hob
      refine OkV.eq (this.lp (l_cabotageref22_Rounds_7 F _ _ _ _ _ _ _ _)) ?_
      simp (disch := first | omega | (simp only [new_next, put_next]; done) | (simp only [new_next, put_next]; omega)) [i64_add]
    rw [s_cabotageref22_Rounds_7]
    by_cases c : R a b = 0
    · obtain ⟨h1, e1, hf1⟩ := split_ok es hsz N hin tl tr lvs rvs R a b ha hbN h hrh
      have take : ∀ h', condZ R es a b = true → Fr h h' → ∃ h3 fv', bltV (h'.new (.cells [.int .i64 (a : Int), .int .i64 (b : Int)] 0)) (.append 2 16) [fv, .slice (some ⟨h'.next, 0, none⟩) 1 1] = some (fv', h3) ∧ OkV (sh (rI F) c_cabotageref22_Rounds_8 (K_cabotageref22_Rounds_8 (rI F)) (setL [p1, p3, p4, p6, p7, p8, p9] [ptr pg, tl, tr, .int .i64 n, fv', .int .i64 (a : Int), .int .i64 (b : Int)]) h3) P := by
        intro h' hc hf'
        obtain ⟨h2, eh2⟩ : ∃ h2, h2 = h'.new (.cells [.int .i64 (a : Int), .int .i64 (b : Int)] 0) := ⟨_, rfl⟩
        have hf2 : Fr h h2 := by rw [eh2]; exact hf'.newR _
        have hn2 : h2.next = h'.next + 1 := by rw [eh2]; simp
        have hfn' := hf'.next
        have hfl := fzA_len R es a b
        obtain ⟨h3, fv', ea, hg3, hn3, hf3⟩ := append_one (h := h2) (sz := 2) (bytes := 16) (r := prL ((a : Int), (b : Int))) (b := h'.next) (e := 0) (by omega) (by decide) (hg.fr hf2) (by rw [eh2]; simp) rfl rfl rfl (by rw [List.length_map, List.length_append]; omega)
        refine ⟨h3, fv', by rw [← eh2]; exact ea, ?_⟩
        rw [s_cabotageref22_Rounds_8]
        have := ih (b + 1) h3 fv' (some h2.next) (by omega) ⟨by omega, fun i hi => (hf3.get _ (by omega) (fun e => by have := hob _ e; omega)).trans ((hf2.get _ (by omega)).trans (hf.get _ hi))⟩ (by rw [hsucc, if_pos hc, ← List.append_assoc, List.map_append]; exact hg3) (fun q e => by cases e; omega)
        refine OkV.eq (this.lp (l_cabotageref22_Rounds_7 F _ _ _ _ _ _ _ _)) ?_
        simp (disch := first | omega | (simp only [new_next, put_next]; done) | (simp only [new_next, put_next]; omega)) [i64_add]
      cases h1c : splitR R es a b with
      | true =>
        rw [h1c] at e1
        obtain ⟨h3, fv', ea, ok⟩ := take h1 (by simp [condZ, c, h1c]) hf1
        refine OkV.eq ok ?_
        simp (disch := first | omega | (simp only [new_next, put_next]; done) | (simp only [new_next, put_next]; omega)) [gpg, hv.one, hv.len, hbN, hv3, hg3, ht3, m2, rq, c, e1, fillL, repeatL, ea]
      | false =>
        rw [h1c] at e1
        obtain ⟨h2, e2, hf2⟩ := split_ok es hsz N hin tl tr lvs rvs R b a hbN ha h1 (hrh.fr hf1)
        cases h2c : splitR R es b a with
        | true =>
          rw [h2c] at e2
          obtain ⟨h3, fv', ea, ok⟩ := take h2 (by simp [condZ, c, h1c, h2c]) (hf1.trans hf2)
          refine OkV.eq ok ?_
          simp (disch := first | omega | (simp only [new_next, put_next]; done) | (simp only [new_next, put_next]; omega)) [gpg, hv.one, hv.len, hbN, hv3, hg3, ht3, m2, rq, c, e1, e2, fillL, repeatL, ea]
        | false =>
          rw [h2c] at e2
          refine OkV.eq (skip (by simp [condZ, h1c, h2c]) h2 (hf1.trans hf2)) ?_
          simp (disch := first | omega | (simp only [new_next, put_next]; done) | (simp only [new_next, put_next]; omega)) [gpg, hv.one, hv.len, hbN, hv3, hg3, ht3, m2, rq, c, e1, e2, fillL, repeatL]
    · refine OkV.eq (skip (by simp [condZ, c]) h (.refl _)) ?_
      simp (disch := first | omega | (simp only [new_next, put_next]; done) | (simp only [new_next, put_next]; omega)) [gpg, hv.one, hv.len, hbN, hv3, hg3, ht3, m2, rq, c, fillL, repeatL]
end Go.Ideal.J
set_option linter.unusedSimpArgs false
set_option linter.unusedVariables false
set_option maxRecDepth 10000
set_option maxHeartbeats 2000000
namespace Go.Ideal.J
open Go Go.Ideal
theorem repeat_i0 : ∀ n, repeatL [Value.int .i64 0] n = List.replicate n (.int .i64 0)
  | 0 => rfl
  | n + 1 => by simp [repeatL, repeat_i0 n, List.replicate_succ]
theorem make_ints0 {n : Nat} (hn : n ≤ 1000) (h : H) : makeSliceV 8 [.int .i64 0] h (.int .i64 (n : Int)) (.int .i64 (n : Int)) = some (slF h.next n, h.new (.cells (List.replicate n (.int .i64 0)) 0)) := by
  show (if (Nat.ble n n && Nat.ble (n * 8) 1073741824 && Nat.ble n 1073741824) = true then _ else none) = _
  rw [if_pos (by simp; omega), repeat_i0]
theorem map_i64 : ∀ {l l' : List Int}, l.map (fun i => Value.int .i64 i) = l'.map (fun i => Value.int .i64 i) → l = l'
  | [], [], _ => rfl
  | [], _ :: _, h => by simp at h
  | _ :: _, [], h => by simp at h
  | x :: l, y :: l', h => by have h := List.cons.inj h; rw [(Value.int.inj h.1).2, map_i64 h.2]
/-- what Rounds has made: the edges of each state, and a matrix. -/
structure RC3 (es : List Ed) (N : Nat) (lo : Nat) (h : H) (tl tr : Value) (lvs : List Value) (qs : List Nat) (R : Int → Int → Int) : Prop where
  rl : Row h 1 tl (lvs.map fun v => [v])
  rr : Row h 1 tr (qs.map fun q => [slF q N])
  lst : ∀ a : Nat, a < N → ∃ lv, lvs[a]? = some lv ∧ Row h 3 lv ((outs es a).map edL) ∧ ∀ b o n c, lv = .slice (some ⟨b, o, none⟩) n c → b ∉ qs
  nl : ∀ b o n c, tl = .slice (some ⟨b, o, none⟩) n c → b ∉ qs
  nr : ∀ b o n c, tr = .slice (some ⟨b, o, none⟩) n c → b ∉ qs
  nd : qs.Nodup
  ql : ∀ q ∈ qs, lo ≤ q ∧ q < h.next
  len : qs.length = N
  mat : ∀ (a q : Nat), qs[a]? = some q → ∃ is : List Int, h.get q = some (.cells (is.map fun i => .int .i64 i) 0) ∧ is.length = N ∧ ∀ c : Nat, c < N → is[c]? = some (R a c)
theorem RC3.two {es : List Ed} {N lo : Nat} {h : H} {tl tr : Value} {lvs : List Value} {qs : List Nat} {R : Int → Int → Int} (r : RC3 es N lo h tl tr lvs qs R) : RC2 es N h tl tr lvs (qs.map fun q => slF q N) R where
  rl := r.rl
  rr := by rw [List.map_map]; exact r.rr
  lst := fun a ha => by obtain ⟨lv, h1, h2, _⟩ := r.lst a ha; exact ⟨lv, h1, h2⟩
  mat := fun a ha => by
    have hq : qs[a]? = some (qs[a]'(by rw [r.len]; exact ha)) := List.getElem?_eq_getElem _
    obtain ⟨is, h1, h2, h3⟩ := r.mat a _ hq
    exact ⟨_, is, by rw [List.getElem?_map, hq]; rfl, h1, h2, h3, (r.ql _ (List.mem_of_getElem? hq)).2⟩
theorem RC3.fr {es : List Ed} {N lo : Nat} {h h' : H} {tl tr : Value} {lvs : List Value} {qs : List Nat} {R : Int → Int → Int} (r : RC3 es N lo h tl tr lvs qs R) (hf : Fr h h') : RC3 es N lo h' tl tr lvs qs R where
  rl := r.rl.fr hf
  rr := r.rr.fr hf
  lst := fun a ha => by obtain ⟨lv, h1, h2, h3⟩ := r.lst a ha; exact ⟨lv, h1, h2.fr hf, h3⟩
  nl := r.nl
  nr := r.nr
  nd := r.nd
  ql := fun q hq => ⟨(r.ql q hq).1, Nat.lt_of_lt_of_le (r.ql q hq).2 hf.next⟩
  len := r.len
  mat := fun a q hq => by
    obtain ⟨is, h2, h3, h4⟩ := r.mat a q hq
    exact ⟨is, (hf.get _ (r.ql q (List.mem_of_getElem? hq)).2).trans h2, h3, h4⟩
def updR (R : Int → Int → Int) (a b n : Int) : Int → Int → Int := fun c d => if c = a ∧ d = b then n else R c d
theorem RC3.set {es : List Ed} {N lo : Nat} {h : H} {tl tr : Value} {lvs : List Value} {qs : List Nat} {R : Int → Int → Int} (r : RC3 es N lo h tl tr lvs qs R) {a c q : Nat} (ha : qs[a]? = some q) (hc : c < N) (n : Int) {is : List Int} (hg : h.get q = some (.cells (is.map fun i => .int .i64 i) 0)) :
    RC3 es N lo (h.put q (.cells ((is.set c n).map fun i => .int .i64 i) 0)) tl tr lvs qs (updR R a c n) := by
  have hqm := List.mem_of_getElem? ha
  have hf : FrD (fun j => j ∈ qs) h (h.put q (.cells ((is.set c n).map fun i => .int .i64 i) 0)) := (FrD.refl _ h).put (.inr hqm) _
  exact {
    rl := r.rl.frD hf (fun b o n c e hd => r.nl b o n c e hd)
    rr := r.rr.frD hf (fun b o n c e hd => r.nr b o n c e hd)
    lst := fun a ha => by obtain ⟨lv, h1, h2, h3⟩ := r.lst a ha; exact ⟨lv, h1, h2.frD hf (fun b o n c e hd => h3 b o n c e hd), h3⟩
    nl := r.nl
    nr := r.nr
    nd := r.nd
    ql := fun q' hq => by rw [put_next]; exact r.ql q' hq
    len := r.len
    mat := fun a' q' hq => by
      obtain ⟨is', h2, h3, h4⟩ := r.mat a' q' hq
      by_cases e : a' = a
      · subst e
        rw [ha] at hq; cases hq
        rw [hg] at h2
        have hii : is' = is := map_i64 (IObj.cells.inj (Option.some.inj h2)).1.symm
        subst hii
        refine ⟨is'.set c n, by simp, by simpa using h3, fun d hd => ?_⟩
        rw [List.getElem?_set]
        unfold updR
        by_cases e : c = d
        · subst e; rw [if_pos rfl, if_pos (by omega), if_pos ⟨rfl, rfl⟩]
        · rw [if_neg e, if_neg (by omega)]; exact h4 d hd
      · have hne : q' ≠ q := by
          intro e2; subst e2
          have h5 : qs[a']? = qs[a]? := by rw [hq, ha]
          have hl : a < qs.length := by
            rcases Nat.lt_or_ge a qs.length with h' | h'
            · exact h'
            · rw [List.getElem?_eq_none h'] at ha; cases ha
          exact e ((List.getElem?_inj hl r.nd).1 h5.symm).symm
        refine ⟨is', by rw [get_put_ne' (hne)]; exact h2, h3, fun d hd => ?_⟩
        unfold updR
        rw [if_neg (by omega)]; exact h4 d hd }
end Go.Ideal.J
set_option linter.unusedSimpArgs false
set_option linter.unusedVariables false
set_option maxRecDepth 10000
set_option maxHeartbeats 2000000
namespace Go.Ideal.J
open Go Go.Ideal
theorem takeC_two {o : Nat} {cs : List Value} {x y : Int} (h : takeC 2 (dropN o cs) = some [.int .i64 x, .int .i64 y]) : takeC 1 (dropN o cs) = some [.int .i64 x] ∧ takeC 1 (dropN (o + 1) cs) = some [.int .i64 y] := by
  have h1 := (takeC_some h).1
  rw [takeN_eq, dropN_eq] at h1
  split at h1
  · rename_i hl
    have h2 := Option.some.inj h1
    have e0 : cs[o]? = some (.int .i64 x) := by
      have := congrArg (fun l => l[0]?) h2
      simpa [List.getElem?_take, List.getElem?_drop] using this
    have e1 : cs[o + 1]? = some (.int .i64 y) := by
      have := congrArg (fun l => l[1]?) h2
      simpa [List.getElem?_take, List.getElem?_drop] using this
    exact ⟨takeC_at e0 rfl, takeC_at e1 rfl⟩
  · cases h1
def updL (R : Int → Int → Int) (n : Int) (l : List (Int × Int)) : Int → Int → Int := l.foldl (fun R p => updR R p.1 p.2 n) R
theorem updL_get (n : Int) : ∀ (l : List (Int × Int)) (R : Int → Int → Int) (c d : Int), updL R n l c d = if (c, d) ∈ l then n else R c d
  | [], R, c, d => by simp [updL]
  | p :: l, R, c, d => by
    show updL (updR R p.1 p.2 n) n l c d = _
    rw [updL_get n l]
    by_cases h : (c, d) ∈ l
    · rw [if_pos h, if_pos (List.mem_cons_of_mem _ h)]
    · rw [if_neg h]
      unfold updR
      by_cases h2 : c = p.1 ∧ d = p.2
      · rw [if_pos h2, if_pos (by rw [h2.1, h2.2]; simp)]
      · rw [if_neg h2, if_neg]
        intro h3
        rcases List.mem_cons.1 h3 with h3 | h3
        · exact h2 ⟨by rw [← h3], by rw [← h3]⟩
        · exact h h3
theorem rnd9 (es : List Ed) (N lo : Nat) (hN : N ≤ 200) (n : Int) (pg : Nat) (tl tr : Value) (lvs : List Value) (qs : List Nat) (l : List (Int × Int)) (hl : l.length ≤ 100000) (hlb : ∀ p ∈ l, ∃ a b : Nat, p = ((a : Int), (b : Int)) ∧ a < N ∧ b < N) (fv : Value) (h0 : H) (hrow : Row h0 2 fv (l.map prL)) (hfq : ∀ b o n c, fv = .slice (some ⟨b, o, none⟩) n c → b ∉ qs) (R : Int → Int → Int) {P : Value → H → Prop}
    (hP : ∀ h', FrD (fun j => j ∈ qs) h0 h' → RC3 es N lo h' tl tr lvs qs (updL R n l) → OkV (sh (rI F) c_cabotageref22_Rounds_3 (K_cabotageref22_Rounds_3 (rI F)) (setL [p1, p3, p4, p6] [ptr pg, tl, tr, .int .i64 n]) h') P) :
    ∀ (k i : Nat) (h : H), i + k = l.length → FrD (fun j => j ∈ qs) h0 h → RC3 es N lo h tl tr lvs qs (updL R n (l.take i)) →
    OkV (sh (rI F) c_cabotageref22_Rounds_9 (K_cabotageref22_Rounds_9 (rI F)) (setL [p1, p3, p4, p6, p7, p10] [ptr pg, tl, tr, .int .i64 n, fv, .int .i64 (i : Int)]) h) P := by
  intro k
  have hv := hrow.slvM
  induction k with
  | zero =>
    intro i h hi hf hr
    have e : i = l.length := by omega
    subst e
    rw [List.take_length] at hr
    rw [s_cabotageref22_Rounds_9]
    simp (disch := first | omega | (simp only [new_next, put_next]; done) | (simp only [new_next, put_next]; omega)) [hv.one, hv.len]
    exact hP h hf hr
  | succ k ih =>
    intro i h hi hf hr
    have hil : i < l.length := by omega
    have hx : (l.map prL)[i]? = some (prL l[i]) := by simp [hil]
    have htk : l.take (i + 1) = l.take i ++ [l[i]] := by rw [List.take_add_one, List.getElem?_eq_getElem hil]; rfl
    obtain ⟨b1, o1, cs1, e1, hv1, hb1, hg1, ht1⟩ := (hrow.frD hf hfq).index hx
    obtain ⟨a, b, hpe, ha, hb⟩ := hlb _ (List.getElem_mem hil)
    rw [hpe] at ht1 htk
    obtain ⟨t1, t2⟩ := takeC_two ht1
    have hqa : qs[a]? = some (qs[a]'(by rw [hr.len]; exact ha)) := List.getElem?_eq_getElem _
    generalize qs[a]'(by rw [hr.len]; exact ha) = q at *
    obtain ⟨is, m1, m2, m3⟩ := hr.mat a q hqa
    obtain ⟨b3, o3, cs3, e3, hv3, hb3, hg3, ht3⟩ := hr.rr.index (i := a) (r := [slF q N]) (by rw [List.getElem?_map, hqa]; rfl)
    have hw : writeAt (is.map fun i => Value.int .i64 i) b [.int .i64 n] = some ((is.set b n).map fun i => Value.int .i64 i) := by
      rw [writeAt_at (by rw [List.length_map, m2]; exact hb)]; simp [List.map_set]
    have := ih (i + 1) (h.put q (.cells ((is.set b n).map fun i => .int .i64 i) 0)) (by omega) (hf.put (.inr (List.mem_of_getElem? hqa)) _) (by
      rw [htk]
      have := hr.set hqa hb n m1
      show RC3 _ _ _ _ _ _ _ _ ((l.take i ++ [((a : Int), (b : Int))]).foldl (fun R p => updR R p.1 p.2 n) R)
      rw [List.foldl_append]; exact this)
    rw [s_cabotageref22_Rounds_9]
    refine OkV.eq (this.lp (l_cabotageref22_Rounds_9 F _ _ _ _ _ _ _)) ?_
    have a1 : ∀ h' : H, vIndexA 2 1 (.pointer (some ⟨b1, o1, none⟩)) (.int .i64 1) h' = some (.pointer (some ⟨b1, o1 + 1 * 1, none⟩), h') := fun h' => rfl
    have a0 : ∀ h' : H, vIndexA 2 1 (.pointer (some ⟨b1, o1, none⟩)) (.int .i64 0) h' = some (.pointer (some ⟨b1, o1 + 0 * 1, none⟩), h') := fun h' => rfl
    simp (disch := first | omega | (simp only [new_next, put_next]; done) | (simp only [new_next, put_next]; omega)) [hv.one, hv.len, hil, hv1, hg1, t1, t2, a0, a1, hv3, hg3, ht3, m1, hw, hb, i64_add]
theorem rnd5 (es : List Ed) (hsz : es.length ≤ 1000) (N : Nat) (hN : N ≤ 200) (hin : inB (N : Int) es) (tl tr : Value) (lvs rvs : List Value) (R : Int → Int → Int) (n : Int) (pg : Nat) (lb : Int) (sl : Value) (hv : SlV sl es.length) (h0 : H) (hr : RC2 es N h0 tl tr lvs rvs R) (hgg : h0.get pg = some (.cells (gL (N : Int) lb sl) 0)) (hpg : pg < h0.next) {P : Value → H → Prop}
    (hP : ∀ h' fv ob, Fr h0 h' → Grow h' 2 fv ((fz R es N N).map prL) ob → (∀ q, ob = some q → h0.next ≤ q) → OkV (sh (rI F) c_cabotageref22_Rounds_4 (K_cabotageref22_Rounds_4 (rI F)) (setL [p1, p3, p4, p6, p7] [ptr pg, tl, tr, .int .i64 n, fv]) h') P) :
    ∀ (k a : Nat) (h : H) (fv : Value) (ob : Option Nat), a + k = N → Fr h0 h → Grow h 2 fv ((fz R es N a).map prL) ob → (∀ q, ob = some q → h0.next ≤ q) →
    OkV (sh (rI F) c_cabotageref22_Rounds_5 (K_cabotageref22_Rounds_5 (rI F)) (setL [p1, p3, p4, p6, p7, p8] [ptr pg, tl, tr, .int .i64 n, fv, .int .i64 (a : Int)]) h) P := by
  intro k
  induction k with
  | zero =>
    intro a h fv ob ha hf hg hob
    have e : a = N := by omega
    subst e
    have gpg := (hf.get _ hpg).trans hgg
    rw [s_cabotageref22_Rounds_5]
    simp (disch := first | omega | (simp only [new_next, put_next]; done) | (simp only [new_next, put_next]; omega)) [gpg, hv.one, hv.len]
    exact hP h fv ob hf hg hob
  | succ k ih =>
    intro a h fv ob ha hf hg hob
    have haN : a < N := by omega
    have gpg := (hf.get _ hpg).trans hgg
    have hfn := hf.next
    have hfl := fz_len R es N a
    have hfl2 : a * N ≤ 200 * 200 := Nat.mul_le_mul (by omega) hN
    have := rnd7 es hsz N hN hin tl tr lvs rvs R n pg lb sl hv a haN (fz R es N a) (by omega) h0 hr hgg hpg (P := P) (fun h' fv' ob' q1 q2 q3 => by
      rw [s_cabotageref22_Rounds_6]
      have := ih (a + 1) h' fv' ob' (by omega) q1 (by rw [fz_succ]; exact q2) q3
      refine OkV.eq (this.lp (l_cabotageref22_Rounds_5 F _ _ _ _ _ _ _)) ?_
      simp (disch := first | omega | (simp only [new_next, put_next]; done) | (simp only [new_next, put_next]; omega)) [i64_add]) N 0 h fv ob (by omega) hf (by simpa [fzA] using hg) hob
    rw [s_cabotageref22_Rounds_5]
    refine OkV.eq (this.lp (l_cabotageref22_Rounds_7 F _ _ _ _ _ _ _ _)) ?_
    simp (disch := first | omega | (simp only [new_next, put_next]; done) | (simp only [new_next, put_next]; omega)) [gpg, hv.one, hv.len, haN]
end Go.Ideal.J
set_option linter.unusedSimpArgs false
set_option linter.unusedVariables false
set_option maxRecDepth 10000
set_option maxHeartbeats 2000000
namespace Go.Ideal.J
open Go Go.Ideal
/-- the rounds as the reference writes them. -/
def RZ (es : List Ed) (N k : Nat) (a b : Int) : Int := (rN es N k a b).getD 0
theorem rN_pos {es : List Ed} {N : Nat} : ∀ {k : Nat} {a b : Int} {v : Int}, rN es N k a b = some v → 1 ≤ v
  | 0, a, b, v, h => by cases h
  | k + 1, a, b, v, h => by
    have h : updAll (rN es N k) ((k : Int) + 1) (fnd (rN es N k) es ((k : Int) + 1) N) a b = some v := h
    rw [updAll_get] at h
    split at h
    · cases h; omega
    · exact rN_pos h
theorem RZ_zero {es : List Ed} {N k : Nat} {a b : Int} : RZ es N k a b = 0 ↔ rN es N k a b = none := by
  unfold RZ
  cases h : rN es N k a b with
  | none => simp
  | some v => have := rN_pos h; simp; omega
theorem ans_told (es : List Ed) (N k : Nat) (x : Ed) (b : Int) : ansR (RZ es N k) es x b (-1) = toldR (rN es N k) es x b k := by
  unfold ansR toldR
  congr 1
  funext t
  unfold badR tellsR
  cases h : rN es N k x.2.1 t with
  | none => simp [RZ_zero.2 h]
  | some v =>
    have h0 : ¬ RZ es N k x.2.1 t = 0 := fun e => by rw [RZ_zero.1 e] at h; cases h
    have := (rN_some h).1
    simp [h0, this, (rN_some h).2.1]
theorem find_isSome {α : Type} (p : α → Bool) : ∀ l : List α, (l.find? p).isSome = l.any p
  | [] => rfl
  | a :: l => by
    rw [List.find?_cons, List.any_cons]
    cases h : p a
    · simpa using find_isSome p l
    · rfl
theorem split_eq (es : List Ed) (N k : Nat) (a b : Int) : splitR (RZ es N k) es a b = (firstR (rN es N k) es a b k).isSome := by
  unfold splitR firstR
  rw [find_isSome]
  congr 1
  funext x
  exact ans_told es N k x b
theorem cond_eq (es : List Ed) (N k : Nat) (a b : Int) : condZ (RZ es N k) es a b = condR (rN es N k) es ((k : Int) + 1) a b := by
  unfold condZ condR
  rw [split_eq, split_eq, show ((k : Int) + 1 - 1) = k by omega]
  congr 1
  cases h : rN es N k a b with
  | none => simp [RZ_zero.2 h]
  | some v =>
    have h0 : ¬ RZ es N k a b = 0 := fun e => by rw [RZ_zero.1 e] at h; cases h
    simp [h0]
theorem cond_symm (es : List Ed) (N k : Nat) (n a b : Int) : condR (rN es N k) es n a b = condR (rN es N k) es n b a := by
  unfold condR
  rw [rN_symm k a b, Bool.or_comm]
theorem cond_self (es : List Ed) (N k : Nat) (n a : Int) : condR (rN es N k) es n a a = false := by
  unfold condR
  have : firstR (rN es N k) es a a (n - 1) = none := by
    unfold firstR
    rw [List.find?_eq_none]
    intro x hx hh
    have hxo := mem_outs.1 hx
    have := List.all_eq_true.1 hh x.2.1 (mem_tos.2 ⟨x, hxo.1, hxo.2, rfl, rfl⟩)
    unfold tellsR at this
    cases h : rN es N k x.2.1 x.2.1 with
    | none => rw [h] at this; simp at this
    | some v => exact absurd rfl (rN_some h).2.1
  rw [this]; simp
theorem mem_fz {R : Int → Int → Int} {es : List Ed} {N : Nat} {p : Int × Int} : p ∈ fz R es N N ↔ ∃ a b : Nat, p = ((a : Int), (b : Int)) ∧ a < N ∧ b < N ∧ condZ R es a b = true := by
  unfold fz fzA
  rw [List.mem_flatMap]
  constructor
  · rintro ⟨a, h1, h2⟩
    obtain ⟨b, h3, rfl⟩ := List.mem_map.1 h2
    obtain ⟨h4, h5⟩ := List.mem_filter.1 h3
    exact ⟨a, b, rfl, List.mem_range.1 h1, List.mem_range.1 h4, h5⟩
  · rintro ⟨a, b, rfl, h1, h2, h3⟩
    exact ⟨a, List.mem_range.2 h1, List.mem_map.2 ⟨b, List.mem_filter.2 ⟨List.mem_range.2 h2, h3⟩, rfl⟩⟩
theorem fz_fnd (es : List Ed) (N k : Nat) (a b : Int) : (a, b) ∈ fz (RZ es N k) es N N ↔ (a, b) ∈ fnd (rN es N k) es ((k : Int) + 1) N ∨ (b, a) ∈ fnd (rN es N k) es ((k : Int) + 1) N := by
  constructor
  · intro h
    obtain ⟨c, d, e, h1, h2, h3⟩ := mem_fz.1 h
    cases e
    rw [cond_eq] at h3
    rcases Nat.lt_trichotomy c d with hl | hl | hl
    · exact .inr (mem_fnd.2 ⟨d, c, rfl, h2, hl, by rw [cond_symm]; exact h3⟩)
    · subst hl; rw [cond_self] at h3; cases h3
    · exact .inl (mem_fnd.2 ⟨c, d, rfl, h1, hl, h3⟩)
  · rintro (h | h)
    · obtain ⟨c, d, e, h1, h2, h3⟩ := mem_fnd.1 h
      cases e
      exact mem_fz.2 ⟨c, d, rfl, h1, by omega, by rw [cond_eq]; exact h3⟩
    · obtain ⟨c, d, e, h1, h2, h3⟩ := mem_fnd.1 h
      cases e
      exact mem_fz.2 ⟨d, c, rfl, by omega, h1, by rw [cond_eq, cond_symm]; exact h3⟩
theorem RZ_succ (es : List Ed) (N k : Nat) : updL (RZ es N k) ((k : Int) + 1) (fz (RZ es N k) es N N) = RZ es N (k + 1) := by
  funext a b
  rw [updL_get]
  show _ = (updAll (rN es N k) ((k : Int) + 1) (fnd (rN es N k) es ((k : Int) + 1) N) a b).getD 0
  rw [updAll_get]
  by_cases h : (a, b) ∈ fz (RZ es N k) es N N
  · rw [if_pos h, if_pos ((fz_fnd es N k a b).1 h)]; rfl
  · rw [if_neg h, if_neg (fun h2 => h ((fz_fnd es N k a b).2 h2))]; rfl
theorem fz_nil (es : List Ed) (N k : Nat) : fz (RZ es N k) es N N = [] ↔ fnd (rN es N k) es ((k : Int) + 1) N = [] := by
  constructor
  · intro h
    cases h2 : fnd (rN es N k) es ((k : Int) + 1) N with
    | nil => rfl
    | cons p l =>
      have : p ∈ fz (RZ es N k) es N N := (fz_fnd es N k p.1 p.2).2 (.inl (by rw [h2]; simp))
      rw [h] at this; cases this
  · intro h
    cases h2 : fz (RZ es N k) es N N with
    | nil => rfl
    | cons p l =>
      have : (p.1, p.2) ∈ fz (RZ es N k) es N N := by rw [h2]; simp
      rw [fz_fnd, h] at this
      rcases this with h | h <;> cases h
end Go.Ideal.J
set_option linter.unusedSimpArgs false
set_option linter.unusedVariables false
set_option maxRecDepth 10000
set_option maxHeartbeats 2000000
namespace Go.Ideal.J
open Go Go.Ideal
theorem rnd2 (es : List Ed) (hsz : es.length ≤ 1000) (N : Nat) (hN : N ≤ 200) (hin : inB (N : Int) es) (lo : Nat) (tl tr : Value) (lvs : List Value) (qs : List Nat) (pg : Nat) (lb : Int) (sl : Value) (hv : SlV sl es.length) (hI : H) (hgg : hI.get pg = some (.cells (gL (N : Int) lb sl) 0)) (hpg : pg < hI.next) (hlo : hI.next ≤ lo) {P : Value → H → Prop}
    (hP : ∀ h' k, Fr hI h' → RC3 es N lo h' tl tr lvs qs (RZ es N k) → fnd (rN es N k) es ((k : Int) + 1) N = [] → P tr h') :
    ∀ (μ k : Nat) (h : H), meas N (rN es N k) = μ → k + μ ≤ 100000 → Fr hI h → RC3 es N lo h tl tr lvs qs (RZ es N k) →
    OkV (sh (rI F) c_cabotageref22_Rounds_2 (K_cabotageref22_Rounds_2 (rI F)) (setL [p1, p3, p4, p6] [ptr pg, tl, tr, .int .i64 ((k : Int) + 1)]) h) P := by
  intro μ
  induction μ using Nat.strongRecOn with
  | _ μ ih =>
    intro k h hμ hk hf hr
    have hfn := hf.next
    have gpg := (hf.get _ hpg).trans hgg
    rw [s_cabotageref22_Rounds_2]
    have := rnd5 es hsz N hN hin tl tr lvs (qs.map fun q => slF q N) (RZ es N k) ((k : Int) + 1) pg lb sl hv h hr.two gpg (by omega) (P := P)
      (fun h' fv ob hf' hg' hob' => by
        have hfn' := hf'.next
        have hfv := hg'.slvM
        have htv := hr.rr.slvM
        rw [s_cabotageref22_Rounds_4]
        by_cases hnil : fz (RZ es N k) es N N = []
        · have hl0 : (fz (RZ es N k) es N N).length = 0 := by rw [hnil]; rfl
          refine OkV.eq (OkV.val (hP h' k (hf.trans hf') (hr.fr hf') ((fz_nil es N k).1 hnil))) ?_
          simp (disch := first | omega | (simp only [new_next, put_next]; done) | (simp only [new_next, put_next]; omega)) [hfv.len, hl0, hfv.one]
        · have hl0 : ¬ ((fz (RZ es N k) es N N).length : Int) = 0 := by
            have := List.length_pos_iff.2 hnil; omega
          have hfl := fz_len (RZ es N k) es N N
          have hNN : N * N ≤ 200 * 200 := Nat.mul_le_mul hN hN
          have hlt := meas_lt (fun e => hnil ((fz_nil es N k).2 e))
          have h9 := rnd9 es N lo hN ((k : Int) + 1) pg tl tr lvs qs (fz (RZ es N k) es N N) (by omega) (fun p hp => by obtain ⟨a, b, e, h1, h2, _⟩ := mem_fz.1 hp; exact ⟨a, b, e, h1, h2⟩) fv h' (hg'.row (by omega)) (fun b o n c e hd => by have := hob' _ (hg'.block e); have := (hr.ql b hd).2; omega) (RZ es N k) (P := P)
            (fun h'' hf'' hr'' => by
              rw [s_cabotageref22_Rounds_3]
              rw [RZ_succ] at hr''
              have := ih (meas N (rN es N (k + 1))) (by rw [← hμ]; exact hlt) (k + 1) h'' rfl (by
                have : meas N (rN es N (k + 1)) < μ := by rw [← hμ]; exact hlt
                omega) ((hf.trans hf').transD hf'' (fun i hi hd => by have := (hr.ql i hd).1; omega)) hr''
              refine OkV.eq (this.lp (l_cabotageref22_Rounds_2 F _ _ _ _ _)) ?_
              simp (disch := first | omega | (simp only [new_next, put_next]; done) | (simp only [new_next, put_next]; omega)) [i64_add]) (fz (RZ es N k) es N N).length 0 h' (by omega) (.refl _ _) (by simpa [updL] using hr.fr hf')
          refine OkV.eq (h9.lp (l_cabotageref22_Rounds_9 F _ _ _ _ _ _ _)) ?_
          simp (disch := first | omega | (simp only [new_next, put_next]; done) | (simp only [new_next, put_next]; omega)) [hfv.len, hl0, hfv.one, hnil]) N 0 h (.slice none 0 0) none (by omega) (.refl _) (by simpa [fz] using Grow.nil) (by simp)
    refine OkV.eq (this.lp (l_cabotageref22_Rounds_5 F _ _ _ _ _ _ _)) ?_
    simp (disch := first | omega | (simp only [new_next, put_next]; done) | (simp only [new_next, put_next]; omega)) []
/-- what has been laid so far. -/
structure RC1 (es : List Ed) (N lo i : Nat) (h : H) (ob1 ob2 : Option Nat) (lvs : List Value) (qs : List Nat) : Prop where
  l1 : lvs.length = i
  l2 : qs.length = i
  lst : ∀ a : Nat, a < i → ∃ lv, lvs[a]? = some lv ∧ Row h 3 lv ((outs es a).map edL) ∧ ∀ b o n c, lv = .slice (some ⟨b, o, none⟩) n c → b ∉ qs ∧ ob1 ≠ some b ∧ ob2 ≠ some b
  nd : qs.Nodup
  ql : ∀ q ∈ qs, lo ≤ q ∧ q < h.next ∧ ob1 ≠ some q ∧ ob2 ≠ some q
  mat : ∀ q ∈ qs, h.get q = some (.cells (List.replicate N (.int .i64 0)) 0)
  ne : ∀ q, ob1 = some q → ob2 ≠ some q
  o1 : ∀ q, ob1 = some q → lo ≤ q ∧ q < h.next
  o2 : ∀ q, ob2 = some q → lo ≤ q ∧ q < h.next
theorem rnd1 (es : List Ed) (hsz : es.length ≤ 1000) (N : Nat) (hN : N ≤ 200) (lo : Nat) (pg : Nat) (lb : Int) (sl : Value) (hI : H) (hrow : Row hI 3 sl (es.map edL)) (hgg : hI.get pg = some (.cells (gL (N : Int) lb sl) 0)) (hpg : pg < hI.next) (hlo : lo = hI.next) {P : Value → H → Prop}
    (hP : ∀ h' tl tr lvs qs, Fr hI h' → RC3 es N lo h' tl tr lvs qs (RZ es N 0) → OkV (sh (rI F) c_cabotageref22_Rounds_0 (K_cabotageref22_Rounds_0 (rI F)) (setL [p1, p3, p4] [ptr pg, tl, tr]) h') P) :
    ∀ (k i : Nat) (h : H) (tl tr : Value) (lvs : List Value) (qs : List Nat) (ob1 ob2 : Option Nat), i + k = N → Fr hI h → Grow h 1 tl (lvs.map fun v => [v]) ob1 → Grow h 1 tr (qs.map fun q => [slF q N]) ob2 → RC1 es N lo i h ob1 ob2 lvs qs →
    OkV (sh (rI F) c_cabotageref22_Rounds_1 (K_cabotageref22_Rounds_1 (rI F)) (setL [p1, p3, p4, p5] [ptr pg, tl, tr, .int .i64 (i : Int)]) h) P := by
  intro k
  induction k with
  | zero =>
    intro i h tl tr lvs qs ob1 ob2 hi hf hg1 hg2 hr
    have e : i = N := by omega
    subst e
    have gpg := (hf.get _ hpg).trans hgg
    have hv := hrow.slvM
    rw [s_cabotageref22_Rounds_1]
    simp (disch := first | omega | (simp only [new_next, put_next]; done) | (simp only [new_next, put_next]; omega)) [gpg, hv.one, hv.len]
    refine hP h tl tr lvs qs hf ?_
    exact {
      rl := hg1.row (by omega)
      rr := hg2.row (by omega)
      lst := fun a ha => by obtain ⟨lv, h1, h2, h3⟩ := hr.lst a ha; exact ⟨lv, h1, h2, fun b o n c e => (h3 b o n c e).1⟩
      nl := fun b o n c e hd => (hr.ql b hd).2.2.1 (hg1.block e)
      nr := fun b o n c e hd => (hr.ql b hd).2.2.2 (hg2.block e)
      nd := hr.nd
      ql := fun q hq => ⟨(hr.ql q hq).1, (hr.ql q hq).2.1⟩
      len := hr.l2
      mat := fun a q hq => ⟨List.replicate i 0, by rw [hr.mat q (List.mem_of_getElem? hq)]; simp, by simp, fun c hc => by rw [List.getElem?_replicate, if_pos hc]; rfl⟩ }
  | succ k ih =>
    intro i h tl tr lvs qs ob1 ob2 hi hf hg1 hg2 hr
    have hiN : i < N := by omega
    have gpg := (hf.get _ hpg).trans hgg
    have hv := hrow.slvM
    have hfn := hf.next
    obtain ⟨lv, h1, es1, ov, hf1, hgl, hov⟩ : ∃ lv h1, callI F (fnV n_cabotageref22_steps) [gV (N : Int) lb sl, .int .i64 (i : Int)] h = some (lv, h1) ∧ ∃ ov, Fr h h1 ∧ Grow h1 3 lv ((outs es i).map edL) ov ∧ (∀ b, ov = some b → h.next ≤ b) := by
      obtain ⟨v, h', e, q⟩ := rsteps_ok es hsz i (N : Int) lb sl h (hrow.fr hf) (P := fun v h' => ∃ ov, Fr h h' ∧ Grow h' 3 v ((outs es i).map edL) ov ∧ (∀ b, ov = some b → h.next ≤ b)) (fun h' v ob q1 q2 q3 => ⟨ob, q1, q2, q3⟩)
      exact ⟨v, h', e, q⟩
    have hfn1 := hf1.next
    obtain ⟨bv, cv, elv⟩ := hgl.len
    have hcl : cellsL lv = [lv] := by rw [elv]; rfl
    obtain ⟨h2, eh2⟩ : ∃ h2, h2 = h1.new (.cells [lv] 0) := ⟨_, rfl⟩
    have hf2 : Fr h h2 := by rw [eh2]; exact hf1.newR _
    have hn2 : h2.next = h1.next + 1 := by rw [eh2]; simp
    obtain ⟨h3, tl', ea, hg3, hn3, hf3⟩ := append_one (h := h2) (sz := 1) (bytes := 24) (r := [lv]) (b := h1.next) (e := 0) (by omega) (by decide) (hg1.fr hf2) (by rw [eh2]; simp) rfl (by rw [elv]; rfl) (by rw [elv]; rfl) (by rw [List.length_map, hr.l1]; omega)
    have hmk := make_ints0 (n := N) (by omega) h3
    obtain ⟨h4, eh4⟩ : ∃ h4, h4 = h3.new (.cells (List.replicate N (.int .i64 0)) 0) := ⟨_, rfl⟩
    have hn4 : h4.next = h3.next + 1 := by rw [eh4]; simp
    obtain ⟨h5, eh5⟩ : ∃ h5, h5 = h4.new (.cells [slF h3.next N] 0) := ⟨_, rfl⟩
    have hn5 : h5.next = h4.next + 1 := by rw [eh5]; simp
    have hf35 : Fr h3 h5 := by rw [eh5, eh4]; exact (Fr.new _ _).newR _
    have hd1 : ∀ j, ob1 = some j → lo ≤ j ∧ j < h.next := hr.o1
    have hd2 : ∀ j, ob2 = some j → lo ≤ j ∧ j < h.next := hr.o2
    have hfa : FrD (fun j => ob1 = some j) h h3 := hf2.D.trans hf3
    have hg2' : Grow h5 1 tr (qs.map fun q => [slF q N]) ob2 := (hg2.frD hfa (fun b e e' => hr.ne b e' e)).fr hf35
    obtain ⟨h6, tr', eb, hg6, hn6, hf6⟩ := append_one (h := h5) (sz := 1) (bytes := 24) (r := [slF h3.next N]) (b := h4.next) (e := 0) (by omega) (by decide) hg2' (by rw [eh5]; simp) rfl rfl rfl (by rw [List.length_map, hr.l2]; omega)
    have hfD : FrD (fun j => ob1 = some j ∨ ob2 = some j) h h6 := ((hfa.mono (fun _ _ h => .inl h)).trans hf35.D).trans (hf6.mono (fun _ _ h => .inr h))
    have hf36 : FrD (fun j => ob2 = some j) h3 h6 := hf35.D.trans hf6
    have hf16 : FrD (fun j => ob1 = some j ∨ ob2 = some j) h1 h6 := ((((Fr.new h1 (.cells [lv] 0)).D (D := fun j => ob1 = some j ∨ ob2 = some j)).trans (by rw [← eh2]; exact hf3.mono (fun _ _ h => .inl h))).trans hf35.D).trans (hf6.mono (fun _ _ h => .inr h))
    have hr' : RC1 es N lo (i + 1) h6 (some h2.next) (some h5.next) (lvs ++ [lv]) (qs ++ [h3.next]) := {
      l1 := by simp [hr.l1]
      l2 := by simp [hr.l2]
      lst := fun a ha => by
        by_cases e : a = i
        · subst e
          refine ⟨lv, by rw [List.getElem?_append_right (by rw [hr.l1]; omega), hr.l1]; simp, ?_, ?_⟩
          · exact (hgl.row (by omega)).frD hf16 (fun b o n c e hd => by
              have := hov _ (hgl.block e)
              rcases hd with hd | hd
              · have := hd1 _ hd; omega
              · have := hd2 _ hd; omega)
          · intro b o n c e
            have hb1 := hov _ (hgl.block e)
            have hb2 := (hgl.row (by omega)).lt e
            refine ⟨fun hd => ?_, ?_, ?_⟩
            · rcases List.mem_append.1 hd with hd | hd
              · have := (hr.ql b hd).2.1; omega
              · rw [List.mem_singleton] at hd; omega
            · intro e2; cases e2; omega
            · intro e2; cases e2; omega
        · obtain ⟨lv', q1, q2, q3⟩ := hr.lst a (by omega)
          refine ⟨lv', by rw [List.getElem?_append_left (by rw [hr.l1]; omega)]; exact q1, ?_, ?_⟩
          · exact q2.frD hfD (fun b o n c e hd => by
              rcases hd with hd | hd
              · exact (q3 b o n c e).2.1 hd
              · exact (q3 b o n c e).2.2 hd)
          · intro b o n c e
            have hb2 := q2.lt e
            refine ⟨fun hd => ?_, ?_, ?_⟩
            · rcases List.mem_append.1 hd with hd | hd
              · exact (q3 b o n c e).1 hd
              · rw [List.mem_singleton] at hd; omega
            · intro e2; cases e2; omega
            · intro e2; cases e2; omega
      nd := by
        rw [List.nodup_append]
        refine ⟨hr.nd, by simp, fun a ha b hb => ?_⟩
        rw [List.mem_singleton] at hb
        have := (hr.ql a ha).2.1
        omega
      ql := fun q hq => by
        rcases List.mem_append.1 hq with hq | hq
        · have := hr.ql q hq
          exact ⟨this.1, by omega, by intro e; cases e; omega, by intro e; cases e; omega⟩
        · rw [List.mem_singleton] at hq; subst hq
          exact ⟨by omega, by omega, by intro e; have := Option.some.inj e; omega, by intro e; have := Option.some.inj e; omega⟩
      mat := fun q hq => by
        rcases List.mem_append.1 hq with hq | hq
        · have := hr.ql q hq
          rw [hfD.get q this.2.1 (fun hd => hd.elim this.2.2.1 this.2.2.2)]
          exact hr.mat q hq
        · rw [List.mem_singleton] at hq; subst hq
          rw [hf6.get _ (by omega) (fun hd => by have := hd2 _ hd; omega), eh5, get_new_ne (by omega), eh4]; simp
      ne := fun q e1 e2 => by have := Option.some.inj e1; have := Option.some.inj e2; omega
      o1 := fun q e => by cases e; omega
      o2 := fun q e => by cases e; omega }
    have := ih (i + 1) h6 tl' tr' (lvs ++ [lv]) (qs ++ [h3.next]) (some h2.next) (some h5.next) (by omega) (hf.transD hfD (fun j hj hd => by
        rcases hd with hd | hd
        · have := hd1 _ hd; omega
        · have := hd2 _ hd; omega)) (by
        rw [List.map_append]
        exact hg3.frD hf36 (fun b e hd => by cases e; have := hd2 _ hd; omega)) (by rw [List.map_append]; exact hg6) hr'
    have gpg3 : h3.get pg = some (.cells (gL (N : Int) lb sl) 0) := (hfa.get _ (by omega) (fun hd => by have := hd1 _ hd; omega)).trans gpg
    rw [s_cabotageref22_Rounds_1]
    refine OkV.eq (this.lp (l_cabotageref22_Rounds_1 F _ _ _ _ _)) ?_
    simp (disch := first | omega | (simp only [new_next, put_next]; done) | (simp only [new_next, put_next]; omega)) [gpg, hiN, hv.one, hv.len, hv.clean, hv.take, hv.eqc, es1, fillL, repeatL, hcl, gpg3, ← eh2, ea, hmk, ← eh4, ← eh5, eb, i64_add]
/-- what Rounds answers: a matrix of the rounds. -/
structure RndA (es : List Ed) (N k lo : Nat) (h : H) (tl tr : Value) (lvs : List Value) (qs : List Nat) : Prop where
  r3 : RC3 es N lo h tl tr lvs qs (RZ es N k)
  fin : fnd (rN es N k) es ((k : Int) + 1) N = []
theorem Rounds_ok (es : List Ed) (hsz : es.length ≤ 1000) (N : Nat) (hN : N ≤ 200) (hin : inB (N : Int) es) (lb : Int) (sl : Value) (h : H) (hrow : Row h 3 sl (es.map edL)) :
    Ret F (fnV n_cabotageref22_Rounds) [gV (N : Int) lb sl] h fun v h' => ∃ k tl lvs qs, Fr h h' ∧ RndA es N k h.next h' tl v lvs qs := by
  refine Ret.fn F_cabotageref22_Rounds 1 (by decide) ?_
  obtain ⟨P, hPd⟩ : ∃ P : Value → H → Prop, P = fun v h' => ∃ k tl lvs qs, Fr h h' ∧ RndA es N k h.next h' tl v lvs qs := ⟨_, rfl⟩
  rw [← hPd]
  rw [s_cabotageref22_Rounds]
  have hv := hrow.slvM
  obtain ⟨h2, eh2⟩ : ∃ h2, h2 = h.new (.cells (gL (N : Int) lb sl) 0) := ⟨_, rfl⟩
  have hf2 : Fr h h2 := by rw [eh2]; exact .new _ _
  have hn2 : h2.next = h.next + 1 := by rw [eh2]; simp
  have g2 : h2.get h.next = some (.cells (gL (N : Int) lb sl) 0) := by rw [eh2]; simp
  have hNN : N * N ≤ 200 * 200 := Nat.mul_le_mul hN hN
  have := rnd1 es hsz N hN h2.next h.next lb sl h2 (hrow.fr hf2) g2 (by omega) rfl (P := P) (fun h' tl tr lvs qs hf hr => by
    rw [s_cabotageref22_Rounds_0]
    have := rnd2 es hsz N hN hin h2.next tl tr lvs qs h.next lb sl hv h2 g2 (by omega) (by omega) (P := P) (fun h'' k q1 q2 q3 => by
      rw [hPd]
      exact ⟨k, tl, lvs, qs, hf2.trans q1, { q2 with ql := fun q hq => ⟨by have := (q2.ql q hq).1; omega, (q2.ql q hq).2⟩ }, q3⟩) (meas N (rN es N 0)) 0 h' rfl (by have := meas_le N (rN es N 0); omega) hf hr
    refine OkV.eq (this.lp (l_cabotageref22_Rounds_2 F _ _ _ _ _)) ?_
    simp (disch := first | omega | (simp only [new_next, put_next]; done) | (simp only [new_next, put_next]; omega)) []) N 0 h2 (.slice none 0 0) (.slice none 0 0) [] [] none none (by omega) (.refl _) .nil .nil
    { l1 := rfl, l2 := rfl, lst := fun a ha => by omega, nd := by simp, ql := by simp, mat := by simp, ne := by simp, o1 := by simp, o2 := by simp }
  refine OkV.eq (this.lp (l_cabotageref22_Rounds_1 F _ _ _ _ _)) ?_
  simp (disch := first | omega | (simp only [new_next, put_next]; done) | (simp only [new_next, put_next]; omega)) [hv.clean, hv.take, ← eh2]
end Go.Ideal.J
set_option linter.unusedSimpArgs false
set_option linter.unusedVariables false
set_option maxRecDepth 10000
set_option maxHeartbeats 2000000
namespace Go.Ideal.J
open Go Go.Ideal
/-! ### Formulas -/
inductive Fml where | mk (op lab : Int) (kids : List Fml)
mutual
def sz : Fml → Nat
  | .mk _ _ ks => 1 + szs ks
def szs : List Fml → Nat
  | [] => 0
  | k :: ks => sz k + szs ks
end
theorem szs_append : ∀ l l' : List Fml, szs (l ++ l') = szs l + szs l'
  | [], l' => by simp [szs]
  | a :: l, l' => by simp [szs, szs_append l l', Nat.add_assoc]
theorem sz_pos : ∀ f : Fml, 1 ≤ sz f
  | .mk _ _ ks => by simp [sz]
/-! ### The rounds are stable -/
theorem fnd_none {es : List Ed} {N k : Nat} {n : Int} {a b : Int} (h : (a, b) ∈ fnd (rN es N k) es n N ∨ (b, a) ∈ fnd (rN es N k) es n N) : rN es N k a b = none := by
  rcases h with h | h
  · obtain ⟨c, d, e, _, _, h3⟩ := mem_fnd.1 h
    cases e
    unfold condR at h3
    simp only [Bool.and_eq_true] at h3
    simpa using h3.1
  · obtain ⟨c, d, e, _, _, h3⟩ := mem_fnd.1 h
    cases e
    unfold condR at h3
    simp only [Bool.and_eq_true] at h3
    rw [rN_symm]
    simpa using h3.1
theorem tells_succ (es : List Ed) (N k : Nat) (j : Int) (hj : j ≤ k) (u t : Int) : tellsR (rN es N (k + 1)) j u t = tellsR (rN es N k) j u t := by
  unfold tellsR
  congr 1
  show (match updAll (rN es N k) ((k : Int) + 1) (fnd (rN es N k) es ((k : Int) + 1) N) u t with | some k => decide (k ≤ j) | none => false) = _
  rw [updAll_get]
  by_cases h : (u, t) ∈ fnd (rN es N k) es ((k : Int) + 1) N ∨ (t, u) ∈ fnd (rN es N k) es ((k : Int) + 1) N
  · rw [if_pos h, fnd_none h]
    simp; omega
  · rw [if_neg h]; cases rN es N k u t <;> rfl
theorem tells_stable (es : List Ed) (N : Nat) {j k : Nat} (h : j ≤ k) (u t : Int) : tellsR (rN es N k) j u t = tellsR (rN es N j) j u t := by
  induction k with
  | zero => have : j = 0 := by omega
            subst this; rfl
  | succ k ih =>
    by_cases e : j = k + 1
    · subst e; rfl
    · rw [tells_succ es N k j (by omega), ih (by omega)]
theorem first_stable (es : List Ed) (N : Nat) {j k : Nat} (h : j ≤ k) (a b : Int) : firstR (rN es N k) es a b j = firstR (rN es N j) es a b j := by
  unfold firstR
  congr 1
  funext x
  unfold toldR
  congr 1
  funext t
  exact tells_stable es N h x.2.1 t
theorem rN_found {es : List Ed} {N : Nat} : ∀ {k : Nat} {a b v : Int}, rN es N k a b = some v → (firstR (rN es N k) es a b (v - 1)).isSome = true ∨ (firstR (rN es N k) es b a (v - 1)).isSome = true
  | 0, a, b, v, h => by cases h
  | k + 1, a, b, v, h => by
    have h0 := h
    have h : updAll (rN es N k) ((k : Int) + 1) (fnd (rN es N k) es ((k : Int) + 1) N) a b = some v := h
    rw [updAll_get] at h
    have key : ∀ a b : Int, (a, b) ∈ fnd (rN es N k) es ((k : Int) + 1) N → (firstR (rN es N (k + 1)) es a b k).isSome = true ∨ (firstR (rN es N (k + 1)) es b a k).isSome = true := by
      intro a b hm
      obtain ⟨c, d, e, _, _, h3⟩ := mem_fnd.1 hm
      cases e
      unfold condR at h3
      simp only [Bool.and_eq_true, Bool.or_eq_true] at h3
      rw [show ((k : Int) + 1 - 1) = k by omega] at h3
      rw [first_stable es N (by omega : k ≤ k + 1), first_stable es N (by omega : k ≤ k + 1)]
      exact h3.2
    split at h
    · rename_i hm
      cases h
      rw [show ((k : Int) + 1 - 1) = k by omega]
      rcases hm with hm | hm
      · exact key a b hm
      · exact (key b a hm).symm
    · have := rN_found h
      have h1 := rN_pos h
      have h2 := (rN_some h).1
      obtain ⟨j, hj⟩ := Int.eq_ofNat_of_zero_le (show 0 ≤ v - 1 by omega)
      rw [hj] at this ⊢
      have hjk : j ≤ k := by omega
      rw [first_stable es N (by omega : j ≤ k + 1), first_stable es N (by omega : j ≤ k + 1)]
      rw [first_stable es N hjk, first_stable es N hjk] at this
      exact this
theorem fix_succ {es : List Ed} {N j : Nat} (h : fnd (rN es N j) es ((j : Int) + 1) N = []) : rN es N (j + 1) = rN es N j ∧ fnd (rN es N (j + 1)) es (((j + 1 : Nat) : Int) + 1) N = [] := by
  have e : rN es N (j + 1) = rN es N j := by
    show updAll (rN es N j) ((j : Int) + 1) (fnd (rN es N j) es ((j : Int) + 1) N) = _
    rw [h]; rfl
  refine ⟨e, ?_⟩
  rw [← fz_nil]
  have e2 : RZ es N (j + 1) = RZ es N j := by
    funext a b; unfold RZ; rw [e]
  rw [e2, fz_nil]; exact h
theorem rN_fix {es : List Ed} {N j : Nat} (h : fnd (rN es N j) es ((j : Int) + 1) N = []) : ∀ k, j ≤ k → rN es N k = rN es N j ∧ fnd (rN es N k) es ((k : Int) + 1) N = [] := by
  intro k hk
  induction k with
  | zero => have : j = 0 := by omega
            subst this; exact ⟨rfl, h⟩
  | succ k ih =>
    by_cases e : j = k + 1
    · subst e; exact ⟨rfl, h⟩
    · obtain ⟨h1, h2⟩ := ih (by omega)
      obtain ⟨h3, h4⟩ := fix_succ h2
      exact ⟨h3.trans h1, h4⟩
/-- two ends of the rounds are one. -/
theorem rN_end {es : List Ed} {N j k : Nat} (h : fnd (rN es N j) es ((j : Int) + 1) N = []) (h' : fnd (rN es N k) es ((k : Int) + 1) N = []) : rN es N j = rN es N k := by
  rcases Nat.le_total j k with hl | hl
  · exact ((rN_fix h k hl).1).symm
  · exact (rN_fix h' j hl).1
theorem meas_step {es : List Ed} {N : Nat} : ∀ i, (∀ j, j < i → fnd (rN es N j) es ((j : Int) + 1) N ≠ []) → meas N (rN es N i) + i ≤ N * N
  | 0, _ => by have := meas_le N (rN es N 0); omega
  | i + 1, h => by
    have h1 := meas_step i fun j hj => h j (by omega)
    have h2 : meas N (rN es N (i + 1)) < meas N (rN es N i) := meas_lt (h i (by omega))
    omega
theorem rN_le {es : List Ed} {N k : Nat} {a b v : Int} (h : rN es N k a b = some v) : v ≤ ((N * N : Nat) : Int) := by
  have hp := rN_pos h
  obtain ⟨i, rfl⟩ := Int.eq_ofNat_of_zero_le (show 0 ≤ v by omega)
  have := meas_step (es := es) (N := N) i fun j hj hn => by
    have hik := (rN_some h).1
    rw [(rN_fix hn k (by omega)).1] at h
    have := (rN_some h).1
    omega
  omega
/-! ### What tells two states apart -/
def tf (r : Int → Int → Option Int) (es : List Ed) : Nat → Int → Int → Fml
  | 0, _, _ => .mk 0 0 []
  | n + 1, a, b => match firstR r es a b ((r a b).getD 0 - 1) with
    | some x => .mk 4 x.2.2 [.mk 3 0 ((tos es b x.2.2).map fun t => tf r es n x.2.1 t)]
    | none => .mk 2 0 [tf r es n b a]
def Ok (es : List Ed) (N k : Nat) (n : Nat) (a b : Int) : Prop := ∃ v, rN es N k a b = some v ∧ 2 * v ≤ n ∧ (firstR (rN es N k) es a b (v - 1) = none → 2 * v + 1 ≤ n)
theorem Ok.pos {es : List Ed} {N k n : Nat} {a b : Int} (h : Ok es N k n a b) : ∃ m, n = m + 1 := by
  obtain ⟨v, h1, h2, _⟩ := h
  have := rN_pos h1
  exact ⟨n - 1, by omega⟩
theorem Ok.top {es : List Ed} {N k : Nat} {a b v : Int} (h : rN es N k a b = some v) : Ok es N k (2 * k + 1) a b := ⟨v, h, by have := (rN_some h).1; omega, fun _ => by have := (rN_some h).1; omega⟩
theorem Ok.mono {es : List Ed} {N k n m : Nat} {a b : Int} (h : Ok es N k n a b) (hm : n ≤ m) : Ok es N k m a b := by
  obtain ⟨v, h1, h2, h3⟩ := h
  exact ⟨v, h1, by omega, fun e => by have := h3 e; omega⟩
theorem Ok.can {es : List Ed} {N k n : Nat} {a b v : Int} {x : Ed} (h : Ok es N k (n + 1) a b) (hv : rN es N k a b = some v) (hx : firstR (rN es N k) es a b (v - 1) = some x) {t : Int} (ht : t ∈ tos es b x.2.2) : Ok es N k n x.2.1 t := by
  obtain ⟨v', h1, h2, h3⟩ := h
  rw [hv] at h1; cases h1
  have h4 := List.find?_some hx
  have h5 := List.all_eq_true.1 h4 t ht
  unfold tellsR at h5
  cases hr : rN es N k x.2.1 t with
  | none => rw [hr] at h5; simp at h5
  | some u =>
    rw [hr] at h5
    simp at h5
    exact ⟨u, hr, by omega, fun _ => by omega⟩
theorem Ok.not {es : List Ed} {N k n : Nat} {a b v : Int} (h : Ok es N k (n + 1) a b) (hv : rN es N k a b = some v) (hx : firstR (rN es N k) es a b (v - 1) = none) : Ok es N k n b a := by
  obtain ⟨v', h1, h2, h3⟩ := h
  rw [hv] at h1; cases h1
  refine ⟨v, by rw [rN_symm]; exact hv, by have := h3 hx; omega, fun e => ?_⟩
  rcases rN_found hv with h | h
  · rw [hx] at h; cases h
  · rw [e] at h; cases h
theorem tf_stable {es : List Ed} {N k : Nat} : ∀ (n : Nat) (a b : Int), Ok es N k n a b → ∀ m, n ≤ m → tf (rN es N k) es m a b = tf (rN es N k) es n a b := by
  intro n
  induction n with
  | zero => intro a b h; obtain ⟨m, e⟩ := h.pos; cases e
  | succ n ih =>
    intro a b h m hm
    obtain ⟨m, rfl⟩ : ∃ m', m = m' + 1 := ⟨m - 1, by omega⟩
    obtain ⟨v, hv, _⟩ := id h
    unfold tf
    simp only [hv, Option.getD_some]
    cases hx : firstR (rN es N k) es a b (v - 1) with
    | none =>
      show Fml.mk 2 0 [_] = Fml.mk 2 0 [_]
      rw [ih b a (h.not hv hx) m (by omega)]
    | some x =>
      show Fml.mk 4 x.2.2 [.mk 3 0 _] = Fml.mk 4 x.2.2 [.mk 3 0 _]
      rw [show ((tos es b x.2.2).map fun t => tf (rN es N k) es m x.2.1 t) = ((tos es b x.2.2).map fun t => tf (rN es N k) es n x.2.1 t) from List.map_congr_left fun t ht => ih x.2.1 t (h.can hv hx ht) m (by omega)]
/-- the formula. -/
def TF (es : List Ed) (N k : Nat) (a b : Int) : Fml := tf (rN es N k) es (2 * k + 2) a b
theorem TF_can {es : List Ed} {N k : Nat} {a b v : Int} {x : Ed} (hv : rN es N k a b = some v) (hx : firstR (rN es N k) es a b (v - 1) = some x) : TF es N k a b = .mk 4 x.2.2 [.mk 3 0 ((tos es b x.2.2).map fun t => TF es N k x.2.1 t)] := by
  unfold TF
  rw [show tf (rN es N k) es (2 * k + 2) a b = .mk 4 x.2.2 [.mk 3 0 ((tos es b x.2.2).map fun t => tf (rN es N k) es (2 * k + 1) x.2.1 t)] by
    conv => lhs; unfold tf
    simp only [hv, Option.getD_some, hx]]
  rw [show ((tos es b x.2.2).map fun t => tf (rN es N k) es (2 * k + 2) x.2.1 t) = ((tos es b x.2.2).map fun t => tf (rN es N k) es (2 * k + 1) x.2.1 t) from List.map_congr_left fun t ht => by
    have := ((Ok.top hv).mono (Nat.le_succ _)).can hv hx ht
    exact tf_stable _ _ _ this _ (by omega)]
theorem TF_not {es : List Ed} {N k : Nat} {a b v : Int} (hv : rN es N k a b = some v) (hx : firstR (rN es N k) es a b (v - 1) = none) : TF es N k a b = .mk 2 0 [TF es N k b a] := by
  unfold TF
  rw [show tf (rN es N k) es (2 * k + 2) a b = .mk 2 0 [tf (rN es N k) es (2 * k + 1) b a] by
    conv => lhs; unfold tf
    simp only [hv, Option.getD_some, hx]]
  rw [tf_stable (2 * k + 1) b a (((Ok.top hv).mono (Nat.le_succ _)).not hv hx) (2 * k + 2) (by omega)]
end Go.Ideal.J
set_option linter.unusedSimpArgs false
set_option linter.unusedVariables false
set_option maxRecDepth 10000
set_option maxHeartbeats 2000000
namespace Go.Ideal.J
open Go Go.Ideal
/-! ### A formula in the heap: its cells; the blocks below it satisfy B. -/
abbrev fmL (op lab : Int) (slv : Value) : List Value := [.int .i64 op, .int .i64 lab, slv]
mutual
def FV (B : Nat → Prop) (h : H) : Fml → List Value → Prop
  | .mk op lab ks, r => ∃ slv rows, r = fmL op lab slv ∧ Row h 3 slv rows ∧ (∀ b o n c, slv = .slice (some ⟨b, o, none⟩) n c → B b) ∧ rows.length ≤ 100000 ∧ FVs B h ks rows
def FVs (B : Nat → Prop) (h : H) : List Fml → List (List Value) → Prop
  | [], rows => rows = []
  | k :: ks, rows => ∃ r rs, rows = r :: rs ∧ FV B h k r ∧ FVs B h ks rs
end
mutual
theorem FV.mono {B C : Nat → Prop} {h : H} (hBC : ∀ b, b < h.next → B b → C b) : ∀ {f : Fml} {r : List Value}, FV B h f r → FV C h f r
  | .mk op lab ks, r, hf => by
    unfold FV at hf ⊢
    obtain ⟨slv, rows, h1, h2, h3, h4, h5⟩ := hf
    exact ⟨slv, rows, h1, h2, fun b o n c e => hBC b (h2.lt e) (h3 b o n c e), h4, FVs.mono hBC h5⟩
theorem FVs.mono {B C : Nat → Prop} {h : H} (hBC : ∀ b, b < h.next → B b → C b) : ∀ {fs : List Fml} {rs : List (List Value)}, FVs B h fs rs → FVs C h fs rs
  | [], rs, hf => by unfold FVs at hf ⊢; exact hf
  | f :: fs, rs, hf => by
    unfold FVs at hf ⊢
    obtain ⟨r, rs', h1, h2, h3⟩ := hf
    exact ⟨r, rs', h1, FV.mono hBC h2, FVs.mono hBC h3⟩
end
mutual
theorem FV.frD {B D : Nat → Prop} {h h' : H} (hf' : FrD D h h') (hBC : ∀ b, b < h.next → B b → ¬ D b) : ∀ {f : Fml} {r : List Value}, FV B h f r → FV B h' f r
  | .mk op lab ks, r, hf => by
    unfold FV at hf ⊢
    obtain ⟨slv, rows, h1, h2, h3, h4, h5⟩ := hf
    exact ⟨slv, rows, h1, h2.frD hf' (fun b o n c e => hBC b (h2.lt e) (h3 b o n c e)), h3, h4, FVs.frD hf' hBC h5⟩
theorem FVs.frD {B D : Nat → Prop} {h h' : H} (hf' : FrD D h h') (hBC : ∀ b, b < h.next → B b → ¬ D b) : ∀ {fs : List Fml} {rs : List (List Value)}, FVs B h fs rs → FVs B h' fs rs
  | [], rs, hf => by unfold FVs at hf ⊢; exact hf
  | f :: fs, rs, hf => by
    unfold FVs at hf ⊢
    obtain ⟨r, rs', h1, h2, h3⟩ := hf
    exact ⟨r, rs', h1, FV.frD hf' hBC h2, FVs.frD hf' hBC h3⟩
end
mutual
/-- all its blocks are there. -/
theorem FV.bnd {B : Nat → Prop} {h : H} : ∀ {f : Fml} {r : List Value}, FV B h f r → FV (fun b => B b ∧ b < h.next) h f r
  | .mk op lab ks, r, hf => by
    unfold FV at hf ⊢
    obtain ⟨slv, rows, h1, h2, h3, h4, h5⟩ := hf
    exact ⟨slv, rows, h1, h2, fun b o n c e => ⟨h3 b o n c e, h2.lt e⟩, h4, FVs.bnd h5⟩
theorem FVs.bnd {B : Nat → Prop} {h : H} : ∀ {fs : List Fml} {rs : List (List Value)}, FVs B h fs rs → FVs (fun b => B b ∧ b < h.next) h fs rs
  | [], rs, hf => by unfold FVs at hf ⊢; exact hf
  | f :: fs, rs, hf => by
    unfold FVs at hf ⊢
    obtain ⟨r, rs', h1, h2, h3⟩ := hf
    exact ⟨r, rs', h1, FV.bnd h2, FVs.bnd h3⟩
end
theorem FVs.append {B : Nat → Prop} {h : H} {g : Fml} {q : List Value} (hg : FV B h g q) : ∀ {fs : List Fml} {rs : List (List Value)}, FVs B h fs rs → FVs B h (fs ++ [g]) (rs ++ [q])
  | [], rs, hf => by
    unfold FVs at hf; subst hf
    show FVs B h [g] [q]
    unfold FVs
    exact ⟨q, [], rfl, hg, by unfold FVs; rfl⟩
  | f :: fs, rs, hf => by
    unfold FVs at hf
    obtain ⟨r, rs', rfl, h2, h3⟩ := hf
    show FVs B h (f :: (fs ++ [g])) (r :: (rs' ++ [q]))
    unfold FVs
    exact ⟨r, _, rfl, h2, FVs.append hg h3⟩
theorem FVs.len {B : Nat → Prop} {h : H} : ∀ {fs : List Fml} {rs : List (List Value)}, FVs B h fs rs → rs.length = fs.length
  | [], rs, hf => by unfold FVs at hf; rw [hf]; rfl
  | f :: fs, rs, hf => by
    unfold FVs at hf
    obtain ⟨r, rs', rfl, h2, h3⟩ := hf
    rw [List.length_cons, List.length_cons, FVs.len h3]
theorem FVs.at {B : Nat → Prop} {h : H} : ∀ {fs : List Fml} {rs : List (List Value)}, FVs B h fs rs → ∀ {i : Nat} {f : Fml}, fs[i]? = some f → ∃ r, rs[i]? = some r ∧ FV B h f r
  | [], rs, hf, i, f, hi => by simp at hi
  | g :: fs, rs, hf, i, f, hi => by
    unfold FVs at hf
    obtain ⟨r, rs', rfl, h2, h3⟩ := hf
    cases i with
    | zero => simp at hi; subst hi; exact ⟨r, rfl, h2⟩
    | succ i => exact FVs.at h3 (by simpa using hi)
theorem FV.cells {B : Nat → Prop} {h : H} {f : Fml} {r : List Value} (hf : FV B h f r) : ∃ op lab bs n c, r = fmL op lab (.slice bs n c) ∧ r.length = 3 ∧ r.all clean1 = true ∧ r.all isCell = true := by
  cases f with
  | mk op lab ks =>
    unfold FV at hf
    obtain ⟨slv, rows, rfl, h2, h3, h4, h5⟩ := hf
    obtain ⟨b, c, rfl⟩ := h2.len
    exact ⟨op, lab, b, _, c, rfl, rfl, rfl, rfl⟩
theorem FV.fr {B : Nat → Prop} {h h' : H} (hf' : Fr h h') {f : Fml} {r : List Value} (hf : FV B h f r) : FV B h' f r := FV.frD (D := fun _ => False) hf'.D (fun _ _ _ => id) hf
theorem FVs.fr {B : Nat → Prop} {h h' : H} (hf' : Fr h h') {f : List Fml} {r : List (List Value)} (hf : FVs B h f r) : FVs B h' f r := FVs.frD (D := fun _ => False) hf'.D (fun _ _ _ => id) hf
end Go.Ideal.J
set_option linter.unusedSimpArgs false
set_option linter.unusedVariables false
set_option maxRecDepth 10000
set_option maxHeartbeats 2000000
namespace Go.Ideal.J
open Go Go.Ideal
theorem writeAt_zero : ∀ (z r : List Value), z.length = r.length → writeAt z 0 r = some r
  | [], [], _ => rfl
  | c :: z, a :: r, h => by
    show (writeAt z 0 r).map (a :: ·) = _
    rw [writeAt_zero z r (by simpa using h)]; rfl
  | [], _ :: _, h => by simp at h
  | _ :: _, [], h => by simp at h
theorem writeAt_len : ∀ (l z r : List Value), z.length = r.length → writeAt (l ++ z) l.length r = some (l ++ r)
  | [], z, r, h => writeAt_zero z r h
  | c :: l, [], [], h => rfl
  | c :: l, y :: z, a :: r, h => by
    show (writeAt (l ++ y :: z) l.length (a :: r)).map (c :: ·) = _
    rw [writeAt_len l (y :: z) (a :: r) h]; rfl
  | _ :: _, [], _ :: _, h => by simp at h
  | _ :: _, _ :: _, [], h => by simp at h
theorem app_put {h : H} {v : Value} {rows : List (List Value)} {ob : Option Nat} {p9 : Nat} {o l : Value} {r z : List Value} (hg : Grow h 3 v rows ob) (hp : h.get p9 = some (.cells [o, l, v] 0)) (hpl : p9 < h.next) (hpo : ob ≠ some p9) (hrl : r.length = 3) (hrc : r.all clean1 = true) (hri : r.all isCell = true) (hz : z.length = 3) (hzc : z.all clean1 = true) (hzi : z.all isCell = true) (hlen : rows.length ≤ 100000) :
    ∃ h2 h3 v', bltV (h.new (.cells z 0)) (.append 3 40) [v, .slice (some ⟨h.next, 0, none⟩) 1 1] = some (v', h2) ∧ (∀ h' : H, vIndex 3 v' (.int .i64 (rows.length : Int)) h' = some (.pointer (some ⟨h.next + 1, rows.length * 3, none⟩), h')) ∧
      store2 3 (.pointer (some ⟨h.next + 1, rows.length * 3, none⟩)) (.agg ⟨r⟩) 1 (.pointer (some ⟨p9, 2, none⟩)) v' h2 = some h3 ∧ Grow h3 3 v' (rows ++ [r]) (some (h.next + 1)) ∧ h3.get p9 = some (.cells [o, l, v'] 0) ∧ FrD (fun j => ob = some j ∨ j = p9) h h3 ∧ h3.next = h.next + 2 := by
  obtain ⟨h2, e1, g1, n1, f1, c1⟩ := append_growX (h := h.new (.cells z 0)) (sz := 3) (bytes := 40) (w := .slice (some ⟨h.next, 0, none⟩) 1 1) (news := [z]) (by omega) (by decide) (hg.fr (.new _ _)) (by simp) (appended_one (b := h.next) (e := 0) (by simp) hz hzc) (by simpa using hzi) (by simp; exact ⟨hz, by simpa using hzc⟩) (by simp; omega)
  have hrows : ∀ r ∈ rows, r.length = 3 ∧ r.all clean1 = true := by
    cases hg with
    | nil => intro r hr; cases hr
    | cells _ _ h => exact h
    | full _ _ h _ => exact h
  have hfl : rows.flatten.length = rows.length * 3 := flat_len fun r hx => (hrows r hx).1
  have hne : p9 ≠ h.next + 1 := by omega
  have gp2 : h2.get p9 = some (.cells [o, l, v] 0) := by
    rw [f1.get _ (by simp; omega) hpo, get_new_ne (by omega)]; exact hp
  have hnn : (h.new (.cells z 0)).next = h.next + 1 := by simp
  rw [hnn] at c1 e1 g1 n1
  have hw1 : h2.write (h.next + 1) (rows.length * 3) r = some (h2.put (h.next + 1) (.cells (rows ++ [r]).flatten 3)) := by
    refine write_of c1 (by rw [hri]; rfl) ?_
    rw [List.flatten_append, List.flatten_append, ← hfl]
    simpa using writeAt_len rows.flatten z r (by omega)
  have gp3 : (h2.put (h.next + 1) (.cells (rows ++ [r]).flatten 3)).get p9 = some (.cells [o, l, v] 0) := by rw [get_put_ne' hne]; exact gp2
  refine ⟨h2, (h2.put (h.next + 1) (.cells (rows ++ [r]).flatten 3)).put p9 (.cells [o, l, .slice (some ⟨h.next + 1, 0, none⟩) (rows.length + 1) openCap] 0), .slice (some ⟨h.next + 1, 0, none⟩) (rows.length + 1) openCap, e1, ?_, ?_, ?_, get_put_eq rfl, ?_, ?_⟩
  · intro h'
    show (if Nat.blt rows.length (rows.length + 1) then some (Value.pointer (some ⟨h.next + 1, 0 + rows.length * 3, none⟩)) else none).map (·, h') = _
    rw [if_pos (by simp), Nat.zero_add]; rfl
  · unfold store2
    have hb : Nat.beq (h.next + 1) p9 = false := by rw [Bool.eq_false_iff]; intro e; exact hne (Nat.eq_of_beq_eq_true e).symm
    show (if Nat.beq (h.next + 1) p9 = true then none else if (Nat.beq r.length 3 && Nat.beq 1 1) = true then _ else none) = _
    rw [hb, hrl]
    show (h2.write (h.next + 1) (rows.length * 3) r).bind _ = _
    rw [hw1, Option.bind_some, write_def, gp3]
    rfl
  · have := Grow.cells (h := (h2.put (h.next + 1) (.cells (rows ++ [r]).flatten 3)).put p9 (.cells [o, l, .slice (some ⟨h.next + 1, 0, none⟩) (rows.length + 1) openCap] 0)) (sz := 3) (b := h.next + 1) (rows := rows ++ [r]) (by simp [n1]) (by rw [get_put_ne' (Ne.symm hne), get_put_eq rfl]) (by
      intro x hx
      rcases List.mem_append.1 hx with hx | hx
      · exact hrows x hx
      · rw [List.mem_singleton] at hx; subst hx; exact ⟨hrl, hrc⟩)
    rw [List.length_append] at this
    exact this
  · refine ⟨by simp [n1]; omega, fun i hi hd => ?_⟩
    rw [get_put_ne' (fun e => hd (.inr e)), get_put_ne' (by omega), f1.get _ (by simp; omega) (fun e => hd (.inl e)), get_new_ne (by omega)]
  · simp [n1]
end Go.Ideal.J
set_option linter.unusedSimpArgs false
set_option linter.unusedVariables false
set_option maxRecDepth 10000
set_option maxHeartbeats 2000000
namespace Go.Ideal.J
open Go Go.Ideal
abbrev tlL (m : Nat) (st lb : Int) (sl : Value) (nm : Nat) : List Value := [.map (some m), .int .i64 st, .int .i64 lb, sl, .map (some nm)]
abbrev tlV (m : Nat) (st lb : Int) (sl : Value) (nm : Nat) : Value := .agg ⟨tlL m st lb sl nm⟩
/-- what a call of formula answers. -/
def FOK (es : List Ed) (N k m : Nat) (st lb : Int) (sl : Value) (nm n : Nat) : Prop :=
  ∀ (a b : Int) (h : H), Row h 3 sl (es.map edL) → MapM h m (rV (rN es N k)) → m < h.next → Ok es N k n a b →
    ∃ h' r, callI F (fnV n_judge_teller_formula) [tlV m st lb sl nm, .int .i64 a, .int .i64 b] h = some (.agg ⟨r⟩, h') ∧ Fr h h' ∧ FV (fun q => h.next ≤ q) h' (TF es N k a b) r
theorem _root_.Go.Ideal.SlV.map2 {v : Value} {n : Nat} (hv : SlV v n) (m : Nat) : takeC 2 [v, .map (some m)] = some [v, .map (some m)] := by
  rw [takeC_s hv.clean]; rfl
theorem fml_round (es : List Ed) (N k m : Nat) (st lb : Int) (sl : Value) (nm n : Nat) (hok : FOK es N k m st lb sl nm n) (x : Ed) (t : Int) (hot : Ok es N k n x.2.1 t) (L q3 q7 q9 : Nat) (h1 : H) (hrow : Row h1 3 sl (es.map edL)) (hsl : ∀ b o n c, sl = .slice (some ⟨b, o, none⟩) n c → b ≠ L) (hm : MapM h1 m (rV (rN es N k))) (hml : m < h1.next) (hmL : m ≠ L)
    (hL : h1.get L = some (.loop .ready none (setL [p3, p7, p9] [ptr q3, ptr q7, ptr q9]) r_judge_teller_formula_1)) (g3 : h1.get q3 = some (.cells (tlL m st lb sl nm) 0)) (g7 : h1.get q7 = some (.cells (edL x) 0)) (l0 : L < h1.next) (l3 : q3 < h1.next) (l7 : q7 < h1.next) (l9 : q9 < h1.next) (n3 : q3 ≠ L) (n7 : q7 ≠ L) (n9 : q9 ≠ L)
    (v : Value) (rows : List (List Value)) (ob : Option Nat) (g9 : h1.get q9 = some (.cells [.int .i64 3, .int .i64 0, v] 0)) (hg : Grow h1 3 v rows ob) (lo : Nat) (hlo : lo ≤ h1.next) (hob : ∀ q, ob = some q → lo ≤ q) (hlo9 : q9 < lo) (hloL : L < lo) (fs : List Fml) (hfs : FVs (fun q => lo ≤ q ∧ ob ≠ some q) h1 fs rows) (hlen : rows.length ≤ 100000) {P : Value → H → Prop}
    (hP : ∀ h' v' rows' ob', FrD (fun j => j = L ∨ j = q9 ∨ lo ≤ j) h1 h' → h'.get L = some (.loop .ready none (setL [p3, p7, p9] [ptr q3, ptr q7, ptr q9]) r_judge_teller_formula_1) → h'.get q9 = some (.cells [.int .i64 3, .int .i64 0, v'] 0) → Grow h' 3 v' rows' ob' → (∀ q, ob' = some q → lo ≤ q) → FVs (fun q => lo ≤ q ∧ ob' ≠ some q) h' (fs ++ [TF es N k x.2.1 t]) rows' → P (.bool true) h') :
    Ret F (.func (.yield L) #[] #[]) [.int .i64 t] h1 P := by
  refine Ret.round hL ?_
  rw [s_judge_teller_formula_1]
  simp (disch := first | omega | (simp only [new_next, put_next]; done) | (simp only [new_next, put_next]; omega)) []
  rw [busyK_eq hL, s_judge_teller_formula_2]
  have hv := hrow.slvM
  obtain ⟨h2, eh2⟩ : ∃ h2, h2 = h1.put L (.loop .busy none (setL [p3, p7, p9] [ptr q3, ptr q7, ptr q9]) r_judge_teller_formula_1) := ⟨_, rfl⟩
  have hn2 : h2.next = h1.next := by rw [eh2]; simp
  have hf2 : FrD (fun j => j = L) h1 h2 := by rw [eh2]; exact (FrD.refl (fun j => j = L) _).put (.inr rfl) _
  have gL2 : h2.get L = some (.loop .busy none (setL [p3, p7, p9] [ptr q3, ptr q7, ptr q9]) r_judge_teller_formula_1) := by rw [eh2, get_put_eq rfl]
  have g32 := (hf2.get _ l3 n3).trans g3
  have g72 := (hf2.get _ l7 n7).trans g7
  have g92 := (hf2.get _ l9 n9).trans g9
  obtain ⟨h5, r, ec, hf5, hfv⟩ := hok x.2.1 t h2 (hrow.frD hf2 (fun b o n c e => hsl b o n c e)) (hm.fr hf2 hml hmL) (by omega) hot
  have hfn5 := hf5.next
  have g95 := (hf5.get _ (by omega)).trans g92
  obtain ⟨op, lab, bs, nn, cc, er, hr1, hr2, hr3⟩ := hfv.cells
  have hgv := hg.slv
  have hobL : ∀ q, ob = some q → q ≠ L := fun q e => by have := hob q e; omega
  obtain ⟨h6, h7, v', a1, a2, a3, a4, a5, a6, a7⟩ := app_put (h := h5) (z := [.int .i64 0, .int .i64 0, .slice none 0 0]) ((hg.frD hf2 (fun b e => hobL b e)).fr hf5) g95 (by omega) (fun e => by have := hob _ e; omega) hr1 hr2 hr3 rfl rfl rfl hlen
  have hob5 : ∀ q, ob = some q → q < h1.next := fun q e => by subst e; exact hg.lt
  have gL7 : h7.get L = some (.loop .busy none (setL [p3, p7, p9] [ptr q3, ptr q7, ptr q9]) r_judge_teller_formula_1) := by
    rw [a6.get _ (by omega) (fun e => e.elim (fun e => hobL _ e rfl) (fun e => n9 e.symm)), hf5.get _ (by omega)]; exact gL2
  have hfD : FrD (fun j => j = L ∨ j = q9 ∨ lo ≤ j) h1 (h7.put L (.loop .ready none (setL [p3, p7, p9] [ptr q3, ptr q7, ptr q9]) r_judge_teller_formula_1)) :=
    (((hf2.mono (fun _ _ h => .inl h)).trans hf5.D).trans (a6.mono (fun j _ h => h.elim (fun e => .inr (.inr (hob j e))) (fun e => .inr (.inl e))))).put (.inr (.inl rfl)) _
  have ok : OkV (fin L none h7) P := by
    rw [fin_none gL7]
    refine OkV.val (hP _ v' (rows ++ [r]) (some (h5.next + 1)) hfD (get_put_eq rfl) (by rw [get_put_ne' n9]; exact a5) (a4.frD ((FrD.refl (fun j => j = L) _).put (.inr rfl) _) (fun b e hd => by cases e; omega)) (fun q e => by cases e; omega) ?_)
    have b1 : FVs (fun q => lo ≤ q ∧ some (h5.next + 1) ≠ some q) (h7.put L (.loop .ready none (setL [p3, p7, p9] [ptr q3, ptr q7, ptr q9]) r_judge_teller_formula_1)) fs rows :=
      FVs.mono (fun b hb h => ⟨h.1.1, fun e => by have := Option.some.inj e; omega⟩) (FVs.frD (D := fun j => j = L ∨ ob = some j ∨ j = q9) (((((hf2.mono (fun _ _ h => .inl h)).trans hf5.D).trans (a6.mono (fun j _ h => .inr h))).put (.inr (.inl rfl)) _)) (fun b hb h hd => by
        rcases hd with hd | hd | hd
        · omega
        · exact h.1.2 hd
        · omega) (FVs.bnd hfs))
    have b2 : FV (fun q => lo ≤ q ∧ some (h5.next + 1) ≠ some q) (h7.put L (.loop .ready none (setL [p3, p7, p9] [ptr q3, ptr q7, ptr q9]) r_judge_teller_formula_1)) (TF es N k x.2.1 t) r :=
      FV.mono (fun b hb h => ⟨by omega, fun e => by have := Option.some.inj e; omega⟩) (FV.frD (D := fun j => (ob = some j ∨ j = q9) ∨ j = L) ((a6.mono (fun _ _ h => .inl h)).put (.inr (.inr rfl)) _) (fun b hb h hd => by
        rcases hd with (hd | hd) | hd
        · have := hob5 _ hd; omega
        · omega
        · omega) (FV.bnd hfv))
    exact FVs.append b2 b1
  refine OkV.eq ok ?_
  have hrow2 := hrow
  simp (disch := first | omega | (simp only [new_next, put_next]; done) | (simp only [new_next, put_next]; omega)) [hv.map2, ← eh2, g32, g72, hv.clean, hv.take, hv.eqc, ec, g95, g92, hgv.one, hgv.take, hgv.len, hgv.eqc, hgv.eq, fillL, repeatL, a1, a2, a3, st2]
end Go.Ideal.J
set_option linter.unusedSimpArgs false
set_option linter.unusedVariables false
set_option maxRecDepth 10000
set_option maxHeartbeats 2000000
namespace Go.Ideal.J
open Go Go.Ideal
theorem _root_.Go.Ideal.SlV.take1 {v : Value} {n : Nat} (hv : SlV v n) (l : List Value) : takeC 1 (v :: l) = some [v] := by
  rw [takeC_s hv.clean]; rfl
theorem tos_len (es : List Ed) (b lab : Int) : (tos es b lab).length ≤ es.length := by
  unfold tos outs
  rw [List.length_map]
  exact Nat.le_trans (List.length_filter_le _ _) (List.length_filter_le _ _)
theorem FV.one {B : Nat → Prop} {h : H} {op lab : Int} {f : Fml} {r : List Value} {b e : Nat} (hf : FV B h f r) (hg : h.get b = some (.cells r e)) (hlt : b < h.next) (hB : B b) : FV B h (.mk op lab [f]) (fmL op lab (.slice (some ⟨b, 0, none⟩) 1 1)) := by
  obtain ⟨_, _, _, _, _, _, h1, h2, _⟩ := hf.cells
  unfold FV
  refine ⟨_, [r], rfl, ?_, fun b' o n c e => by cases e; exact hB, by simp, ?_⟩
  · have := Grow.full (h := h) (sz := 3) (b := b) (e := e) (rows := [r]) hlt (by simpa using hg) (by intro x hx; rw [List.mem_singleton] at hx; subst hx; exact ⟨h1, h2⟩) (by show 1 < openCap; decide)
    exact this.row (by omega)
  · unfold FVs
    exact ⟨r, [], rfl, hf, by unfold FVs; rfl⟩
theorem fml_ok (es : List Ed) (hs : SortedF es) (hsz : es.length ≤ 1000) (N k m : Nat) (hN : N ≤ 200) (st lb : Int) (sl : Value) (nm : Nat) : ∀ n, FOK es N k m st lb sl nm n := by
  intro n
  induction n with
  | zero => intro a b h _ _ _ ho; obtain ⟨_, e⟩ := ho.pos; cases e
  | succ n ih =>
    intro a b h hrow hm hml hok
    obtain ⟨v, hv, hv2, hv3⟩ := id hok
    have hvp := rN_pos hv
    suffices hr : Ret F (fnV n_judge_teller_formula) [tlV m st lb sl nm, .int .i64 a, .int .i64 b] h fun u h' => ∃ r, u = .agg ⟨r⟩ ∧ Fr h h' ∧ FV (fun q => h.next ≤ q) h' (TF es N k a b) r by
      obtain ⟨u, h', e, r, rfl, h1, h2⟩ := hr; exact ⟨h', r, e, h1, h2⟩
    obtain ⟨P, hPd⟩ : ∃ P : Value → H → Prop, P = fun u h' => ∃ r, u = .agg ⟨r⟩ ∧ Fr h h' ∧ FV (fun q => h.next ≤ q) h' (TF es N k a b) r := ⟨_, rfl⟩
    rw [← hPd]
    refine Ret.fn F_judge_teller_formula 3 (by decide) ?_
    rw [s_judge_teller_formula]
    have hsv := hrow.slvM
    obtain ⟨q, eq⟩ : ∃ q, q = h.next := ⟨_, rfl⟩
    obtain ⟨h2, eh2⟩ : ∃ h2, h2 = (h.new (.cells (tlL m st lb sl nm) 0)).new (.cells (fmL 0 0 (.slice none 0 0)) 0) := ⟨_, rfl⟩
    have hf2 : Fr h h2 := by rw [eh2]; exact (Fr.new _ _).newR _
    have hn2 : h2.next = q + 2 := by rw [eh2, eq]; simp
    have g0 : h2.get q = some (.cells (tlL m st lb sl nm) 0) := by rw [eh2, eq]; simp (disch := omega)
    have g1 : h2.get (q + 1) = some (.cells (fmL 0 0 (.slice none 0 0)) 0) := by rw [eh2, eq]; simp (disch := omega)
    have hlk := look1_ok (hm.fr (D := fun _ => False) hf2.D hml (by simp)) (.int .i64 0) a b
    simp only [rV, hv, Option.map_some, Option.getD_some] at hlk
    obtain ⟨h3, e3, hf3⟩ := first_ok es hs hsz st lb (rN es N k) m a b (v - 1) sl h2 (hrow.fr hf2) (hm.fr (D := fun _ => False) hf2.D hml (by simp)) (by omega)
    have hfn3 := hf3.next
    have g03 := (hf3.get _ (by omega)).trans g0
    have g13 := (hf3.get _ (by omega)).trans g1
    have hm3 := (hm.fr (D := fun _ => False) hf2.D hml (by simp)).fr (D := fun _ => False) hf3.D (by omega) (by simp)
    have hrow3 := (hrow.fr hf2).fr hf3
    have hvle := rN_le hv
    have hNN : N * N ≤ 200 * 200 := Nat.mul_le_mul hN hN
    simp (disch := first | omega | (simp only [new_next, put_next]; done) | (simp only [new_next, put_next]; omega)) [hsv.map2, hsv.take1, hsv.clean, hsv.take, ← eq, ← eh2]
    cases hx : firstR (rN es N k) es a b (v - 1) with
    | none =>
      rw [hx] at e3
      simp only [firstV, firstV.pairV'] at e3
      obtain ⟨h4, eh4⟩ : ∃ h4, h4 = h3.new (.cells (edL (0, 0, 0)) 0) := ⟨_, rfl⟩
      have hf4 : Fr h3 h4 := by rw [eh4]; exact .new _ _
      have hn4 : h4.next = h3.next + 1 := by rw [eh4]; simp
      have g04 := (hf4.get _ (by omega)).trans g03
      have g14 := (hf4.get _ (by omega)).trans g13
      obtain ⟨h5, r, e5, hf5, hfv⟩ := ih b a h4 (hrow3.fr hf4) (hm3.fr (D := fun _ => False) hf4.D (by omega) (by simp)) (by omega) (hok.not hv hx)
      have hfn5 := hf5.next
      have g15 := (hf5.get _ (by omega)).trans g14
      obtain ⟨op, lab, bs, nn, cc, er, hr1, hr2, hr3⟩ := hfv.cells
      obtain ⟨h6, eh6⟩ : ∃ h6, h6 = (h5.new (.cells r 0)).put (q + 1) (.cells (fmL 2 0 (.slice (some ⟨h5.next, 0, none⟩) 1 1)) 0) := ⟨_, rfl⟩
      have hf56 : FrD (fun j => j = q + 1) h5 h6 := by rw [eh6]; exact ((FrD.refl (fun j => j = q + 1) _).new _).put (.inr rfl) _
      have hn6 : h6.next = h5.next + 1 := by rw [eh6]; simp
      have hfr6 : Fr h h6 := (((hf2.trans hf3).trans hf4).trans hf5).transD hf56 (fun i hi hd => by omega)
      have g16 : h6.get (q + 1) = some (.cells (fmL 2 0 (.slice (some ⟨h5.next, 0, none⟩) 1 1)) 0) := by rw [eh6, get_put_eq rfl]
      have g6 : h6.get h5.next = some (.cells r 0) := by rw [eh6, get_put_ne' (by omega)]; simp
      refine OkV.eq (OkV.val (v := .agg ⟨fmL 2 0 (.slice (some ⟨h5.next, 0, none⟩) 1 1)⟩) (h := h6) (by
        rw [hPd]
        refine ⟨_, rfl, hfr6, ?_⟩
        rw [TF_not hv hx]
        exact FV.one ((hfv.frD hf56 (fun b hb h => by omega)).mono (fun b hb h => by omega)) g6 (by omega) (by omega))) ?_
      subst er
      simp (disch := first | omega | (simp only [new_next, put_next]; done) | (simp only [new_next, put_next]; omega)) [g0, hsv.map2, hsv.take1, hsv.clean, hsv.take, hlk, i64_sub, e3, ← eh4, g04, e5, fillL, repeatL, g15, ← eh6, g16]
    | some x =>
      rw [hx] at e3
      simp only [firstV, firstV.pairV'] at e3
      obtain ⟨p, ep⟩ : ∃ p, p = h3.next := ⟨_, rfl⟩
      obtain ⟨h6, eh6⟩ : ∃ h6, h6 = (((((h3.new (.cells (edL x) 0)).new (.cells (fmL 3 0 (.slice none 0 0)) 0)).new (.cells (gL st lb sl) 0)).new (.cells [.int .i64 b] 0)).new (.cells [.int .i64 x.2.2] 0)).new (.loop .ready none (setL [p3, p7, p9] [ptr q, ptr h3.next, ptr (h3.next + 1)]) r_judge_teller_formula_1) := ⟨_, rfl⟩
      have hf6 : Fr h3 h6 := by rw [eh6]; exact (((((Fr.new _ _).newR _).newR _).newR _).newR _).newR _
      have hn6 : h6.next = p + 6 := by rw [eh6, ep]; simp
      have gx6 : h6.get p = some (.cells (edL x) 0) := by rw [eh6, ep]; simp (disch := first | omega | (simp only [new_next, put_next]; done) | (simp only [new_next, put_next]; omega)) []
      have ga6 : h6.get (p + 1) = some (.cells (fmL 3 0 (.slice none 0 0)) 0) := by rw [eh6, ep]; simp (disch := first | omega | (simp only [new_next, put_next]; done) | (simp only [new_next, put_next]; omega)) []
      have gg6 : h6.get (p + 1 + 1) = some (.cells (gL st lb sl) 0) := by rw [eh6, ep]; simp (disch := first | omega | (simp only [new_next, put_next]; done) | (simp only [new_next, put_next]; omega)) []
      have gb6 : h6.get (p + 1 + 1 + 1) = some (.cells [.int .i64 b] 0) := by rw [eh6, ep]; simp (disch := first | omega | (simp only [new_next, put_next]; done) | (simp only [new_next, put_next]; omega)) []
      have gl6 : h6.get (p + 1 + 1 + 1 + 1) = some (.cells [.int .i64 x.2.2] 0) := by rw [eh6, ep]; simp (disch := first | omega | (simp only [new_next, put_next]; done) | (simp only [new_next, put_next]; omega)) []
      have gL6 : h6.get (p + 1 + 1 + 1 + 1 + 1) = some (.loop .ready none (setL [p3, p7, p9] [ptr q, ptr p, ptr (p + 1)]) r_judge_teller_formula_1) := by rw [eh6, ep]; simp (disch := first | omega | (simp only [new_next, put_next]; done) | (simp only [new_next, put_next]; omega)) []
      obtain ⟨L, eL⟩ : ∃ L, L = p + 1 + 1 + 1 + 1 + 1 := ⟨_, rfl⟩
      rw [← eL] at gL6
      have g06 := (hf6.get _ (by omega)).trans g03
      have g16 := (hf6.get _ (by omega)).trans g13
      have hrow6 := hrow3.fr hf6
      have hsl6 : ∀ b o n c, sl = .slice (some ⟨b, o, none⟩) n c → b < h.next := fun b o n c e => hrow.lt e
      have hm6 := hm3.fr (D := fun _ => False) hf6.D (by omega) (by simp)
      obtain ⟨lo, elo⟩ : ∃ lo, lo = h6.next + 4 := ⟨_, rfl⟩
      have hot := tos_len es b x.2.2
      simp (disch := first | omega | (simp only [new_next, put_next]; done) | (simp only [new_next, put_next]; omega)) [g0, hsv.map2, hsv.take1, hsv.clean, hsv.take, hlk, i64_sub, e3, g03, leads_ok, ← ep, fillL, repeatL]
      rw [← ep] at eh6
      simp only [← eh6, ← eL]
      refine OkV.call (leads_run es hs hsz b x.2.2 st lb (.func (.yield L) #[] #[]) rfl rfl rfl sl (p + 1 + 1) (p + 1 + 1 + 1) (p + 1 + 1 + 1 + 1) h6 (M := fun j => j = L ∨ j = p + 1 ∨ lo ≤ j) (fun i hi => by omega) hrow6 (by omega) (by omega) (by omega) (fun b o n c e => by have := hsl6 b o n c e; omega) (by omega) gg6 (by omega) gb6 (by omega) gl6
        (fun i h1 => h1.get L = some (.loop .ready none (setL [p3, p7, p9] [ptr q, ptr p, ptr (p + 1)]) r_judge_teller_formula_1) ∧ FrD (fun j => j = L ∨ j = p + 1 ∨ lo ≤ j) h6 h1 ∧ ∃ v rows ob, h1.get (p + 1) = some (.cells (fmL 3 0 v) 0) ∧ Grow h1 3 v rows ob ∧ (∀ q, ob = some q → lo ≤ q) ∧ FVs (fun q => lo ≤ q ∧ ob ≠ some q) h1 (((tos es b x.2.2).take i).map fun t => TF es N k x.2.1 t) rows)
        (fun _ => False) ?_ ?_ ?_ ?_
        (P := fun _ h' => FrD (fun j => j = L ∨ j = p + 1 ∨ lo ≤ j) h6 h' ∧ h'.get L = some (.loop .ready none (setL [p3, p7, p9] [ptr q, ptr p, ptr (p + 1)]) r_judge_teller_formula_1) ∧ ∃ v rows ob, h'.get (p + 1) = some (.cells (fmL 3 0 v) 0) ∧ Grow h' 3 v rows ob ∧ (∀ q, ob = some q → lo ≤ q) ∧ FVs (fun q => lo ≤ q ∧ ob ≠ some q) h' ((tos es b x.2.2).map fun t => TF es N k x.2.1 t) rows) ?_) ?_
      · rintro i h1 h7 ⟨q1, q2, v', rows, ob, q3, q4, q5, q6⟩ hf
        have := q2.next
        refine ⟨(hf.get _ (by omega) (by omega)).trans q1, ⟨Nat.le_trans q2.next hf.next, fun j hj hd => (hf.get _ (by omega) (by omega)).trans (q2.get _ hj hd)⟩, v', rows, ob, (hf.get _ (by omega) (by omega)).trans q3, q4.frD hf (fun b e => by have := q5 b e; omega), q5, FVs.frD hf (fun b hb h => by omega) q6⟩
      · intro h1 h2 h; exact h.elim
      · rintro i w h1 hw ⟨q1, q2, v', rows, ob, q3, q4, q5, q6⟩ hn
        rw [List.getElem?_map] at hw
        obtain ⟨t, ht, rfl⟩ := Option.map_eq_some_iff.1 hw
        have hil : i < (tos es b x.2.2).length := by
          rcases Nat.lt_or_ge i (tos es b x.2.2).length with h' | h'
          · exact h'
          · rw [List.getElem?_eq_none h'] at ht; cases ht
        have hrl := FVs.len q6
        refine fml_round es N k m st lb sl nm n ih x t (hok.can hv hx (List.mem_of_getElem? ht)) L q p (p + 1) h1 (hrow6.frD q2 (fun b o n c e => by have := hsl6 b o n c e; omega)) (fun b o n c e => by have := hsl6 b o n c e; omega) (hm6.fr q2 (by omega) (by omega)) (by omega) (by omega) q1 ((q2.get _ (by omega) (by omega)).trans g06) ((q2.get _ (by omega) (by omega)).trans gx6) (by omega) (by omega) (by omega) (by omega) (by omega) (by omega) (by omega) v' rows ob q3 q4 lo (by omega) q5 (by omega) (by omega) _ q6 (by rw [hrl, List.length_map, List.length_take]; omega) ?_
        intro h' v'' rows' ob' r1 r2 r3 r4 r5 r6
        refine ⟨r1, .inl ⟨rfl, r2, q2.trans r1, v'', rows', ob', r3, r4, r5, ?_⟩⟩
        rw [List.take_add_one, ht, List.map_append]
        exact r6
      · exact ⟨gL6, .refl _ _, _, [], none, ga6, .nil, by simp, by simp [FVs]⟩
      · rintro h' hf (⟨q1, q2, q3⟩ | h)
        · rw [List.take_length] at q3
          exact ⟨hf, q1, q3⟩
        · exact h.elim
      · rintro u h7 ⟨hf, gL7, w, rows, ob, ga7, hg7, hob7, hfs7⟩
        have hfn := hf.next
        have g17 := (hf.get _ (by omega) (by omega)).trans g16
        have gx7 := (hf.get _ (by omega) (by omega)).trans gx6
        rw [rgP_ready gL7, s_judge_teller_formula_0]
        obtain ⟨h8, eh8⟩ : ∃ h8, h8 = h7.put L (.loop .exhausted none (setL [p3, p7, p9] [ptr q, ptr p, ptr (p + 1)]) r_judge_teller_formula_1) := ⟨_, rfl⟩
        have hf8 : FrD (fun j => j = L) h7 h8 := by rw [eh8]; exact (FrD.refl (fun j => j = L) _).put (.inr rfl) _
        have hn8 : h8.next = h7.next := by rw [eh8]; simp
        have g18 := (hf8.get _ (by omega) (by omega)).trans g17
        have gx8 := (hf8.get _ (by omega) (by omega)).trans gx7
        have ga8 := (hf8.get _ (by omega) (by omega)).trans ga7
        obtain ⟨h9, eh9⟩ : ∃ h9, h9 = (h8.new (.cells (fmL 3 0 w) 0)).put (q + 1) (.cells (fmL 4 x.2.2 (.slice (some ⟨h8.next, 0, none⟩) 1 1)) 0) := ⟨_, rfl⟩
        have hf89 : FrD (fun j => j = q + 1) h8 h9 := by rw [eh9]; exact ((FrD.refl (fun j => j = q + 1) _).new _).put (.inr rfl) _
        have hn9 : h9.next = h8.next + 1 := by rw [eh9]; simp
        have g19 : h9.get (q + 1) = some (.cells (fmL 4 x.2.2 (.slice (some ⟨h8.next, 0, none⟩) 1 1)) 0) := by rw [eh9, get_put_eq rfl]
        have gn9 : h9.get h8.next = some (.cells (fmL 3 0 w) 0) := by rw [eh9, get_put_ne' (by omega)]; simp
        have hfr9 : Fr h h9 := ⟨by omega, fun i hi => by
          rw [hf89.get _ (by omega) (by omega), hf8.get _ (by omega) (by omega), hf.get _ (by omega) (by omega), hf6.get _ (by omega), hf3.get _ (by omega)]; exact hf2.get _ hi⟩
        have hwv := hg7.slv
        have hfD79 : FrD (fun j => j = L ∨ j = q + 1) h7 h9 := (hf8.mono (fun _ _ h => .inl h)).trans (hf89.mono (fun _ _ h => .inr h))
        have hand : FV (fun q => h.next ≤ q) h9 (.mk 3 0 ((tos es b x.2.2).map fun t => TF es N k x.2.1 t)) (fmL 3 0 w) := by
          unfold FV
          have hrl := FVs.len hfs7
          refine ⟨w, rows, rfl, (hg7.row (by omega)).frD hfD79 (fun b o n c e hd => by have := hob7 _ (hg7.block e); omega), fun b o n c e => by have := hob7 _ (hg7.block e); omega, by rw [hrl, List.length_map]; omega, ?_⟩
          exact FVs.mono (fun b hb h => by omega) (FVs.frD hfD79 (fun b hb h hd => by omega) hfs7)
        refine OkV.eq (OkV.val (v := .agg ⟨fmL 4 x.2.2 (.slice (some ⟨h8.next, 0, none⟩) 1 1)⟩) (h := h9) (by
          rw [hPd]
          refine ⟨_, rfl, hfr9, ?_⟩
          rw [TF_can hv hx]
          exact FV.one hand gn9 (by omega) (by omega))) ?_
        simp (disch := first | omega | (simp only [new_next, put_next]; done) | (simp only [new_next, put_next]; omega)) [← eh8, g18, gx8, ga8, hwv.one, hwv.take, hwv.clean, fillL, repeatL, ← eh9, g19]
end Go.Ideal.J
set_option linter.unusedSimpArgs false
set_option linter.unusedVariables false
set_option maxRecDepth 10000
set_option maxHeartbeats 2000000
namespace Go.Ideal.J
open Go Go.Ideal
theorem min2 (a b : Int) (h : H) : bltV h .min [.int .i64 a, .int .i64 b] = some (.int .i64 (min a b), h) := by
  show (minmax false (.int .i64 a) [.int .i64 b]).map (·, h) = _
  by_cases h1 : b < a
  · simp [minmax, ltI_eq, h1]; omega
  · simp [minmax, ltI_eq, h1]; omega
def updF (f : Int → Int → Option Int) (a b n : Int) : Int → Int → Option Int := fun c d => if c = a ∧ d = b then some n else f c d
theorem rV_updF (f : Int → Int → Option Int) (a b n : Int) : upd2 (rV f) a b (.int .i64 n) = rV (updF f a b n) := by
  funext c d
  unfold upd2 updF rV; dsimp only
  by_cases h1 : c = a ∧ d = b
  · rw [if_pos h1, if_pos h1]; rfl
  · rw [if_neg h1, if_neg h1]
/-- how many nodes, as teller counts them. -/
def SZ (es : List Ed) (N k : Nat) (a b : Int) : Int := min (sz (TF es N k a b) : Int) 3001
def Memo (es : List Ed) (N k : Nat) (f : Int → Int → Option Int) : Prop := ∀ a b u, f a b = some u → u = SZ es N k a b
theorem Memo.upd {es : List Ed} {N k : Nat} {f : Int → Int → Option Int} (hf : Memo es N k f) (a b : Int) : Memo es N k (updF f a b (SZ es N k a b)) := by
  intro c d u h
  unfold updF at h
  split at h
  · rename_i e; cases h; rw [e.1, e.2]
  · exact hf c d u h
def SOK (es : List Ed) (N k m : Nat) (st lb : Int) (sl : Value) (nm n : Nat) : Prop :=
  ∀ (a b : Int) (h : H) (f : Int → Int → Option Int), Row h 3 sl (es.map edL) → MapM h m (rV (rN es N k)) → m < h.next → MapM h nm (rV f) → nm < h.next → Memo es N k f → Ok es N k n a b →
    ∃ h' f', callI F (fnV n_judge_teller_size) [tlV m st lb sl nm, .int .i64 a, .int .i64 b] h = some (.int .i64 (SZ es N k a b), h') ∧ FrD (fun j => j = nm) h h' ∧ MapM h' nm (rV f') ∧ Memo es N k f'
theorem size_round (es : List Ed) (N k m : Nat) (st lb : Int) (sl : Value) (nm n : Nat) (hok : SOK es N k m st lb sl nm n) (x : Ed) (t : Int) (hot : Ok es N k n x.2.1 t) (L q3 q10 q11 : Nat) (h1 : H) (hrow : Row h1 3 sl (es.map edL)) (hsl : ∀ b o n c, sl = .slice (some ⟨b, o, none⟩) n c → b ≠ L) (hm : MapM h1 m (rV (rN es N k))) (hml : m < h1.next) (hmL : m ≠ L)
    (hL : h1.get L = some (.loop .ready none (setL [p3, p10, p11] [ptr q3, ptr q10, ptr q11]) r_judge_teller_size_1)) (g3 : h1.get q3 = some (.cells (tlL m st lb sl nm) 0)) (g11 : h1.get q11 = some (.cells (edL x) 0)) (s : Int) (hs0 : 0 ≤ s) (hs1 : s ≤ 3001) (g10 : h1.get q10 = some (.cells [.int .i64 s] 0)) (l0 : L < h1.next) (l3 : q3 < h1.next) (l10 : q10 < h1.next) (l11 : q11 < h1.next) (n3 : q3 ≠ L) (n10 : q10 ≠ L) (n11 : q11 ≠ L)
    (f : Int → Int → Option Int) (hnm : MapM h1 nm (rV f)) (hnl : nm < h1.next) (hnL : nm ≠ L) (hmf : Memo es N k f) (nn10 : q10 ≠ nm) {P : Value → H → Prop}
    (hP : ∀ h' f', FrD (fun j => j = L ∨ j = q10 ∨ j = nm) h1 h' → h'.get L = some (.loop .ready none (setL [p3, p10, p11] [ptr q3, ptr q10, ptr q11]) r_judge_teller_size_1) → h'.get q10 = some (.cells [.int .i64 (min (s + SZ es N k x.2.1 t) 3001)] 0) → MapM h' nm (rV f') → Memo es N k f' → P (.bool true) h') :
    Ret F (.func (.yield L) #[] #[]) [.int .i64 t] h1 P := by
  refine Ret.round hL ?_
  rw [s_judge_teller_size_1]
  simp (disch := first | omega | (simp only [new_next, put_next]; done) | (simp only [new_next, put_next]; omega)) [↓k2_val, ↓br_true, ↓br_false]
  rw [busyK_eq hL, s_judge_teller_size_2]
  have hv := hrow.slvM
  obtain ⟨h2, eh2⟩ : ∃ h2, h2 = h1.put L (.loop .busy none (setL [p3, p10, p11] [ptr q3, ptr q10, ptr q11]) r_judge_teller_size_1) := ⟨_, rfl⟩
  have hn2 : h2.next = h1.next := by rw [eh2]; simp
  have hf2 : FrD (fun j => j = L) h1 h2 := by rw [eh2]; exact (FrD.refl (fun j => j = L) _).put (.inr rfl) _
  have gL2 : h2.get L = some (.loop .busy none (setL [p3, p10, p11] [ptr q3, ptr q10, ptr q11]) r_judge_teller_size_1) := by rw [eh2, get_put_eq rfl]
  have g32 := (hf2.get _ l3 n3).trans g3
  have g112 := (hf2.get _ l11 n11).trans g11
  have g102 := (hf2.get _ l10 n10).trans g10
  obtain ⟨h5, f', ec, hf5, hm5, hmf5⟩ := hok x.2.1 t h2 f (hrow.frD hf2 (fun b o n c e => hsl b o n c e)) (hm.fr hf2 hml hmL) (by omega) (hnm.fr hf2 hnl hnL) (by omega) hmf hot
  have hfn5 := hf5.next
  have g105 := (hf5.get _ (by omega) nn10).trans g102
  have hSZ0 : 0 ≤ SZ es N k x.2.1 t := by unfold SZ; omega
  have hSZ1 : SZ es N k x.2.1 t ≤ 3001 := by unfold SZ; omega
  generalize SZ es N k x.2.1 t = w at *
  obtain ⟨h7, eh7⟩ : ∃ h7, h7 = h5.put q10 (.cells [.int .i64 (min (s + w) 3001)] 0) := ⟨_, rfl⟩
  have hf7 : FrD (fun j => j = q10) h5 h7 := by rw [eh7]; exact (FrD.refl (fun j => j = q10) _).put (.inr rfl) _
  have hn7 : h7.next = h5.next := by rw [eh7]; simp
  have gL7 : h7.get L = some (.loop .busy none (setL [p3, p10, p11] [ptr q3, ptr q10, ptr q11]) r_judge_teller_size_1) := by
    rw [hf7.get _ (by omega) (fun e => n10 e.symm), hf5.get _ (by omega) (fun e => hnL e.symm)]; exact gL2
  have g107 : h7.get q10 = some (.cells [.int .i64 (min (s + w) 3001)] 0) := by rw [eh7, get_put_eq rfl]
  have hfD : FrD (fun j => j = L ∨ j = q10 ∨ j = nm) h1 (h7.put L (.loop .ready none (setL [p3, p10, p11] [ptr q3, ptr q10, ptr q11]) r_judge_teller_size_1)) :=
    (((hf2.mono (fun _ _ h => .inl h)).trans (hf5.mono (fun _ _ h => .inr (.inr h)))).trans (hf7.mono (fun _ _ h => .inr (.inl h)))).put (.inr (.inl rfl)) _
  have ok : OkV (fin L none h7) P := by
    rw [fin_none gL7]
    exact OkV.val (hP _ f' hfD (get_put_eq rfl) (by rw [get_put_ne' n10]; exact g107) ((hm5.fr hf7 (by omega) (fun e => nn10 e.symm)).fr (D := fun j => j = L) ((FrD.refl (fun j => j = L) _).put (.inr rfl) _) (by omega) hnL) hmf5)
  refine OkV.eq ok ?_
  simp (disch := first | omega | (simp only [new_next, put_next]; done) | (simp only [new_next, put_next]; omega)) [↓k2_val, ↓br_true, ↓br_false, ← eh2, g32, g112, hv.map2, hv.take1, hv.clean, hv.take, hv.eqc, ec, g102, g105, i64_add, min2, ← eh7]
theorem szs_take (es : List Ed) (N k : Nat) (x : Ed) (ts : List Int) (i : Nat) {t : Int} (ht : ts[i]? = some t) : (szs ((ts.take (i + 1)).map fun t => TF es N k x.2.1 t) : Int) = szs ((ts.take i).map fun t => TF es N k x.2.1 t) + sz (TF es N k x.2.1 t) := by
  rw [List.take_add_one, ht, List.map_append, szs_append]
  simp [szs]
theorem size_ok (es : List Ed) (hs : SortedF es) (hsz : es.length ≤ 1000) (N k m : Nat) (hN : N ≤ 200) (st lb : Int) (sl : Value) (nm : Nat) (hslnm : ∀ b o n c, sl = .slice (some ⟨b, o, none⟩) n c → b ≠ nm) (hmnm : m ≠ nm) : ∀ n, SOK es N k m st lb sl nm n := by
  intro n
  induction n with
  | zero => intro a b h _ _ _ _ _ _ _ ho; obtain ⟨_, e⟩ := ho.pos; cases e
  | succ n ih =>
    intro a b h f hrow hm hml hnm hnl hmf hok
    obtain ⟨v, hv, hv2, hv3⟩ := id hok
    have hvp := rN_pos hv
    suffices hr : Ret F (fnV n_judge_teller_size) [tlV m st lb sl nm, .int .i64 a, .int .i64 b] h fun u h' => u = .int .i64 (SZ es N k a b) ∧ FrD (fun j => j = nm) h h' ∧ ∃ f', MapM h' nm (rV f') ∧ Memo es N k f' by
      obtain ⟨u, h', e, rfl, h1, f', h2, h3⟩ := hr; exact ⟨h', f', e, h1, h2, h3⟩
    obtain ⟨P, hPd⟩ : ∃ P : Value → H → Prop, P = fun u h' => u = .int .i64 (SZ es N k a b) ∧ FrD (fun j => j = nm) h h' ∧ ∃ f', MapM h' nm (rV f') ∧ Memo es N k f' := ⟨_, rfl⟩
    rw [← hPd]
    refine Ret.fn F_judge_teller_size 3 (by decide) ?_
    rw [s_judge_teller_size]
    have hsv := hrow.slvM
    obtain ⟨q, eq⟩ : ∃ q, q = h.next := ⟨_, rfl⟩
    obtain ⟨h2, eh2⟩ : ∃ h2, h2 = (h.new (.cells (tlL m st lb sl nm) 0)).new (.cells [.int .i64 a, .int .i64 b] 0) := ⟨_, rfl⟩
    have hf2 : Fr h h2 := by rw [eh2]; exact (Fr.new _ _).newR _
    have hn2 : h2.next = q + 2 := by rw [eh2, eq]; simp
    have g0 : h2.get q = some (.cells (tlL m st lb sl nm) 0) := by rw [eh2, eq]; simp (disch := omega)
    have g1 : h2.get (q + 1) = some (.cells [.int .i64 a, .int .i64 b] 0) := by rw [eh2, eq]; simp (disch := omega)
    have hm2 := hm.fr (D := fun _ => False) hf2.D hml (by simp)
    have hnm2 := hnm.fr (D := fun _ => False) hf2.D hnl (by simp)
    have hlk0 := look_ok hnm2 (.int .i64 0) a b
    cases hfab : f a b with
    | some u =>
      simp only [rV, hfab, Option.map_some, Option.getD_some, Option.isSome_some] at hlk0
      refine OkV.eq (OkV.val (v := .int .i64 u) (h := h2) (by
        rw [hPd]
        exact ⟨by rw [hmf a b u hfab], hf2.D, f, hnm2, hmf⟩)) ?_
      simp (disch := first | omega | (simp only [new_next, put_next]; done) | (simp only [new_next, put_next]; omega)) [↓k2_val, ↓br_true, ↓br_false, hsv.map2, hsv.take1, hsv.clean, hsv.take, fillL, ← eq, ← eh2, g0, g1, hlk0]
    | none =>
      simp only [rV, hfab, Option.map_none, Option.getD_none, Option.isSome_none] at hlk0
      obtain ⟨h2', eh2'⟩ : ∃ h2', h2' = h2.new (.cells [.int .i64 1] 0) := ⟨_, rfl⟩
      have hf2' : Fr h2 h2' := by rw [eh2']; exact .new _ _
      have hn2' : h2'.next = q + 3 := by rw [eh2', new_next, hn2]
      have g02 := (hf2'.get _ (by omega)).trans g0
      have g12 := (hf2'.get _ (by omega)).trans g1
      have g22 : h2'.get (q + 2) = some (.cells [.int .i64 1] 0) := by rw [eh2', ← hn2]; simp
      have hm2' := hm2.fr (D := fun _ => False) hf2'.D (by omega) (by simp)
      have hnm2' := hnm2.fr (D := fun _ => False) hf2'.D (by omega) (by simp)
      have hlk := look1_ok hm2' (.int .i64 0) a b
      simp only [rV, hv, Option.map_some, Option.getD_some] at hlk
      obtain ⟨h3, e3, hf3⟩ := first_ok es hs hsz st lb (rN es N k) m a b (v - 1) sl h2' ((hrow.fr hf2).fr hf2') hm2' (by omega)
      have hfn3 := hf3.next
      have g03 := (hf3.get _ (by omega)).trans g02
      have g13 := (hf3.get _ (by omega)).trans g12
      have g23 := (hf3.get _ (by omega)).trans g22
      have hm3 := hm2'.fr (D := fun _ => False) hf3.D (by omega) (by simp)
      have hnm3 := hnm2'.fr (D := fun _ => False) hf3.D (by omega) (by simp)
      have hrow3 := ((hrow.fr hf2).fr hf2').fr hf3
      have hvle := rN_le hv
      have hNN : N * N ≤ 200 * 200 := Nat.mul_le_mul hN hN
      -- the end
      have fin0 : ∀ (h7 : H) (f' : Int → Int → Option Int), FrD (fun j => j = nm ∨ q + 2 ≤ j) h2 h7 → MapM h7 nm (rV f') → Memo es N k f' → h7.get (q + 2) = some (.cells [.int .i64 (SZ es N k a b)] 0) → OkV (sh (rI F) c_judge_teller_size_0 (K_judge_teller_size_0 (rI F)) (setL [p3, p7, p10] [ptr q, ptr (q + 1), ptr (q + 2)]) h7) P := by
        intro h7 f' hf7 hm7 hmf7 g27
        have hfn7 := hf7.next
        have g07 := (hf7.get _ (by omega) (by omega)).trans g0
        have g17 := (hf7.get _ (by omega) (by omega)).trans g1
        obtain ⟨o, eu, hmu⟩ := upd_ok hm7 a b (.int .i64 (SZ es N k a b))
        rw [rV_updF] at hmu
        have g28 : (h7.put nm o).get (q + 2) = some (.cells [.int .i64 (SZ es N k a b)] 0) := by rw [get_put_ne' (by omega)]; exact g27
        rw [s_judge_teller_size_0]
        refine OkV.eq (OkV.val (v := .int .i64 (SZ es N k a b)) (h := h7.put nm o) (by
          rw [hPd]
          exact ⟨rfl, ⟨by simp; have := hf2.next; omega, fun i hi hd => by
            rw [get_put_ne' hd, hf7.get _ (by omega) (by omega)]; exact hf2.get _ hi⟩, _, hmu, hmf7.upd a b⟩)) ?_
        simp (disch := first | omega | (simp only [new_next, put_next]; done) | (simp only [new_next, put_next]; omega)) [↓k2_val, ↓br_true, ↓br_false, g07, g17, g27, eu, g28]
      cases hx : firstR (rN es N k) es a b (v - 1) with
      | none =>
        rw [hx] at e3
        simp only [firstV, firstV.pairV'] at e3
        obtain ⟨h4, eh4⟩ : ∃ h4, h4 = h3.new (.cells (edL (0, 0, 0)) 0) := ⟨_, rfl⟩
        have hf4 : Fr h3 h4 := by rw [eh4]; exact .new _ _
        have hn4 : h4.next = h3.next + 1 := by rw [eh4]; simp
        have ge4 : h4.get h3.next = some (.cells (edL (0, 0, 0)) 0) := by rw [eh4]; simp
        have hp4 : h4.put h3.next (.cells (edL (0, 0, 0)) 0) = h4 := by rw [eh4, new_put_eq rfl]
        have g04 := (hf4.get _ (by omega)).trans g03
        have g24 := (hf4.get _ (by omega)).trans g23
        obtain ⟨h5, f', e5, hf5, hm5, hmf5⟩ := ih b a h4 f (hrow3.fr hf4) (hm3.fr (D := fun _ => False) hf4.D (by omega) (by simp)) (by omega) (hnm3.fr (D := fun _ => False) hf4.D (by omega) (by simp)) (by omega) hmf (hok.not hv hx)
        have hfn5 := hf5.next
        have g25 := (hf5.get _ (by omega) (by omega)).trans g24
        have hSZ0 : 0 ≤ SZ es N k b a := by unfold SZ; omega
        have hSZ1 : SZ es N k b a ≤ 3001 := by unfold SZ; omega
        have hSS : min (1 + SZ es N k b a) 3001 = SZ es N k a b := by
          unfold SZ
          rw [TF_not hv hx]
          simp only [sz, szs]; omega
        have := fin0 (h5.put (q + 2) (.cells [.int .i64 (SZ es N k a b)] 0)) f' ⟨by simp; omega, fun i hi hd => by
          rw [get_put_ne' (by omega), hf5.get _ (by omega) (by omega), hf4.get _ (by omega), hf3.get _ (by omega)]; exact hf2'.get _ hi⟩ (hm5.fr (D := fun j => j = q + 2) ((FrD.refl (fun j => j = q + 2) _).put (.inr rfl) _) (by omega) (by omega)) hmf5 (get_put_eq rfl)
        refine OkV.eq this ?_
        simp (disch := first | omega | (simp only [new_next, put_next]; done) | (simp only [new_next, put_next]; omega)) [↓k2_val, ↓br_true, ↓br_false, fillL, ← eq, ← eh2, g0, g1, hlk0, hn2, ← eh2', g02, g12, g22, hlk, hsv.take1, hsv.take, i64_sub, e3, ← eh4, ge4, hp4, g04, hsv.map2, hsv.clean, e5, i64_add, min2, hSS, g25]
      | some x =>
        rw [hx] at e3
        simp only [firstV, firstV.pairV'] at e3
        obtain ⟨p, ep⟩ : ∃ p, p = h3.next := ⟨_, rfl⟩
        obtain ⟨h6, eh6⟩ : ∃ h6, h6 = (((((h3.new (.cells (edL x) 0)).put (q + 2) (.cells [.int .i64 2] 0)).new (.cells (gL st lb sl) 0)).new (.cells [.int .i64 b] 0)).new (.cells [.int .i64 x.2.2] 0)).new (.loop .ready none (setL [p3, p10, p11] [ptr q, ptr (q + 2), ptr p]) r_judge_teller_size_1) := ⟨_, rfl⟩
        have hf6 : FrD (fun j => j = q + 2) h3 h6 := by rw [eh6]; exact ((((((FrD.refl (fun j => j = q + 2) _).new _).put (.inr rfl) _).new _).new _).new _).new _
        have hn6 : h6.next = p + 5 := by rw [eh6, ep]; simp
        have gx6 : h6.get p = some (.cells (edL x) 0) := by rw [eh6, ep]; simp (disch := first | omega | (simp only [new_next, put_next]; done) | (simp only [new_next, put_next]; omega)) [↓k2_val, ↓br_true, ↓br_false]
        have g26 : h6.get (q + 2) = some (.cells [.int .i64 2] 0) := by rw [eh6]; simp (disch := first | omega | (simp only [new_next, put_next]; done) | (simp only [new_next, put_next]; omega)) [↓k2_val, ↓br_true, ↓br_false]
        have gg6 : h6.get (p + 1) = some (.cells (gL st lb sl) 0) := by rw [eh6, ep]; simp (disch := first | omega | (simp only [new_next, put_next]; done) | (simp only [new_next, put_next]; omega)) [↓k2_val, ↓br_true, ↓br_false]
        have gb6 : h6.get (p + 1 + 1) = some (.cells [.int .i64 b] 0) := by rw [eh6, ep]; simp (disch := first | omega | (simp only [new_next, put_next]; done) | (simp only [new_next, put_next]; omega)) [↓k2_val, ↓br_true, ↓br_false]
        have gl6 : h6.get (p + 1 + 1 + 1) = some (.cells [.int .i64 x.2.2] 0) := by rw [eh6, ep]; simp (disch := first | omega | (simp only [new_next, put_next]; done) | (simp only [new_next, put_next]; omega)) [↓k2_val, ↓br_true, ↓br_false]
        have gL6 : h6.get (p + 1 + 1 + 1 + 1) = some (.loop .ready none (setL [p3, p10, p11] [ptr q, ptr (q + 2), ptr p]) r_judge_teller_size_1) := by rw [eh6, ep]; simp (disch := first | omega | (simp only [new_next, put_next]; done) | (simp only [new_next, put_next]; omega)) [↓k2_val, ↓br_true, ↓br_false]
        obtain ⟨L, eL⟩ : ∃ L, L = p + 1 + 1 + 1 + 1 := ⟨_, rfl⟩
        rw [← eL] at gL6
        simp (disch := first | omega | (simp only [new_next, put_next]; done) | (simp only [new_next, put_next]; omega)) [↓k2_val, ↓br_true, ↓br_false, fillL, ← eq, ← eh2, g0, g1, hlk0, hn2, ← eh2', g02, g12, g22, hlk, hsv.take1, hsv.take, i64_sub, e3, g03, g23, hsv.map2, hsv.clean, leads_ok, ← ep]
        simp only [← eh6, ← eL]
        have hot := tos_len es b x.2.2
        have g06 := (hf6.get _ (by omega) (by omega)).trans g03
        have g16 := (hf6.get _ (by omega) (by omega)).trans g13
        have hsl6 : ∀ b o n c, sl = .slice (some ⟨b, o, none⟩) n c → b < h.next := fun b o n c e => hrow.lt e
        have hrow6 := hrow3.frD hf6 (fun b o n c e => by have := hsl6 b o n c e; omega)
        have hm6 := hm3.fr hf6 (by omega) (by omega)
        have hnm6 := hnm3.fr hf6 (by omega) (by omega)
        obtain ⟨T, hT⟩ : ∃ T : Nat → Int, T = fun i => min (2 + (szs (((tos es b x.2.2).take i).map fun t => TF es N k x.2.1 t) : Int)) 3001 := ⟨_, rfl⟩
        have hT0 : ∀ i, 0 ≤ T i ∧ T i ≤ 3001 := fun i => by rw [hT]; constructor <;> (dsimp only; omega)
        have hT1 : ∀ i t, (tos es b x.2.2)[i]? = some t → min (T i + SZ es N k x.2.1 t) 3001 = T (i + 1) := by
          intro i t ht
          have := szs_take es N k x _ i ht
          rw [hT]; dsimp only; rw [this]; unfold SZ; omega
        refine OkV.call (leads_run es hs hsz b x.2.2 st lb (.func (.yield L) #[] #[]) rfl rfl rfl sl (p + 1) (p + 1 + 1) (p + 1 + 1 + 1) h6 (M := fun j => j = L ∨ j = q + 2 ∨ j = nm) (fun i hi => by omega) hrow6 (by omega) (by omega) (by omega) (fun b o n c e => by have := hsl6 b o n c e; have := hslnm b o n c e; omega) (by omega) gg6 (by omega) gb6 (by omega) gl6
          (fun i h1 => h1.get L = some (.loop .ready none (setL [p3, p10, p11] [ptr q, ptr (q + 2), ptr p]) r_judge_teller_size_1) ∧ FrD (fun j => j = L ∨ j = q + 2 ∨ j = nm) h6 h1 ∧ h1.get (q + 2) = some (.cells [.int .i64 (T i)] 0) ∧ ∃ f', MapM h1 nm (rV f') ∧ Memo es N k f')
          (fun _ => False) ?_ ?_ ?_ ?_
          (P := fun _ h' => FrD (fun j => j = L ∨ j = q + 2 ∨ j = nm) h6 h' ∧ h'.get L = some (.loop .ready none (setL [p3, p10, p11] [ptr q, ptr (q + 2), ptr p]) r_judge_teller_size_1) ∧ h'.get (q + 2) = some (.cells [.int .i64 (SZ es N k a b)] 0) ∧ ∃ f', MapM h' nm (rV f') ∧ Memo es N k f') ?_) ?_
        · rintro i h1 h7 ⟨q1, q2, q3, f', q4, q5⟩ hf
          have := q2.next
          exact ⟨(hf.get _ (by omega) (by omega)).trans q1, ⟨Nat.le_trans q2.next hf.next, fun j hj hd => (hf.get _ (by omega) (by omega)).trans (q2.get _ hj hd)⟩, (hf.get _ (by omega) (by omega)).trans q3, f', q4.fr hf (by omega) (by omega), q5⟩
        · intro h1 h2 h; exact h.elim
        · rintro i w h1 hw ⟨q1, q2, q3, f', q4, q5⟩ hn
          rw [List.getElem?_map] at hw
          obtain ⟨t, ht, rfl⟩ := Option.map_eq_some_iff.1 hw
          refine size_round es N k m st lb sl nm n ih x t (hok.can hv hx (List.mem_of_getElem? ht)) L q (q + 2) p h1 (hrow6.frD q2 (fun b o n c e => by have := hsl6 b o n c e; have := hslnm b o n c e; omega)) (fun b o n c e => by have := hsl6 b o n c e; omega) (hm6.fr q2 (by omega) (by omega)) (by omega) (by omega) q1 ((q2.get _ (by omega) (by omega)).trans g06) ((q2.get _ (by omega) (by omega)).trans gx6) (T i) (hT0 i).1 (hT0 i).2 q3 (by omega) (by omega) (by omega) (by omega) (by omega) (by omega) (by omega) f' q4 (by omega) (by omega) q5 (by omega) ?_
          intro h' f'' r1 r2 r3 r4 r5
          rw [hT1 i t ht] at r3
          exact ⟨r1, .inl ⟨rfl, r2, q2.trans r1, r3, f'', r4, r5⟩⟩
        · exact ⟨gL6, .refl _ _, by rw [g26, hT]; rfl, f, hnm6, hmf⟩
        · rintro h' hf (⟨q1, q2, q3, q4⟩ | h)
          · refine ⟨hf, q1, ?_, q4⟩
            rw [q3, hT]; dsimp only
            rw [List.take_length]
            unfold SZ
            rw [TF_can hv hx]
            simp only [sz, szs]
            rw [show ((2 : Int) + (szs ((tos es b x.2.2).map fun t => TF es N k x.2.1 t) : Nat) : Int) = ((1 + (1 + szs ((tos es b x.2.2).map fun t => TF es N k x.2.1 t) + 0) : Nat) : Int) by omega]
          · exact h.elim
        · rintro u h7 ⟨hf, gL7, g27, f', hm7, hmf7⟩
          have hfn := hf.next
          rw [rgP_ready gL7]
          refine fin0 _ f' ⟨by simp; omega, fun i hi hd => ?_⟩ (hm7.fr (D := fun j => j = L) ((FrD.refl (fun j => j = L) _).put (.inr rfl) _) (by omega) (by omega)) hmf7 (by rw [get_put_ne' (by omega)]; exact g27)
          rw [get_put_ne' (by omega), hf.get _ (by omega) (by omega), hf6.get _ (by omega) (by omega), hf3.get _ (by omega)]; exact hf2'.get _ hi
end Go.Ideal.J
set_option linter.unusedSimpArgs false
set_option linter.unusedVariables false
set_option maxRecDepth 10000
set_option maxHeartbeats 2000000
namespace Go.Ideal.J
open Go Go.Ideal
def isSt (st lb : Int) (es : List Ed) (a : Int) : Bool := chk st lb es && decide (0 ≤ a) && decide (a < st)
theorem isState_ok (st lb : Int) (es : List Ed) (sl : Value) (a : Int) (h : H) (hrow : Row h 3 sl (es.map edL)) : ∃ h', callI F (fnV n_judge_isState) [gV st lb sl, .int .i64 a] h = some (.bool (isSt st lb es a), h') ∧ Fr h h' := by
  have hv := hrow.slvM
  obtain ⟨h2, eh2⟩ : ∃ h2, h2 = h.new (.cells (gL st lb sl) 0) := ⟨_, rfl⟩
  have hf2 : Fr h h2 := by rw [eh2]; exact .new _ _
  have g0 : h2.get h.next = some (.cells (gL st lb sl) 0) := by rw [eh2]; simp
  have hn2 : h2.next = h.next + 1 := by rw [eh2]; simp
  obtain ⟨h3, e3, hf3⟩ := judgeCheck_ok st lb sl es h2 (hrow.fr hf2)
  have g03 := (hf3.get _ (by omega)).trans g0
  refine ⟨h3, call_fn F_judge_isState 2 (by decide) ?_, hf2.trans hf3⟩
  rw [s_judge_isState]
  unfold isSt
  cases hc : chk st lb es with
  | false =>
    rw [hc] at e3
    simp (disch := first | omega | (simp only [new_next, put_next]; done) | (simp only [new_next, put_next]; omega)) [↓k2_val, ↓br_true, ↓br_false, hv.clean, hv.take, ← eh2, g0, e3, erk]
  | true =>
    rw [hc] at e3
    by_cases c1 : 0 ≤ a
    · by_cases c2 : a < st
      · simp (disch := first | omega | (simp only [new_next, put_next]; done) | (simp only [new_next, put_next]; omega)) [↓k2_val, ↓br_true, ↓br_false, hv.clean, hv.take, ← eh2, g0, e3, erk, g03, c1, c2]
      · simp (disch := first | omega | (simp only [new_next, put_next]; done) | (simp only [new_next, put_next]; omega)) [↓k2_val, ↓br_true, ↓br_false, hv.clean, hv.take, ← eh2, g0, e3, erk, g03, c1, c2]
    · simp (disch := first | omega | (simp only [new_next, put_next]; done) | (simp only [new_next, put_next]; omega)) [↓k2_val, ↓br_true, ↓br_false, hv.clean, hv.take, ← eh2, g0, e3, erk, g03, c1]
def zF : Fml := .mk 0 0 []
theorem FV.zero (B : Nat → Prop) (h : H) : FV B h zF (fmL 0 0 (.slice none 0 0)) := by
  unfold zF FV
  exact ⟨_, [], rfl, .nil, (fun b o n c e => by cases e), by simp, by unfold FVs; rfl⟩
/-- what Tells answers. -/
def TA (st lb : Int) (es : List Ed) (a b : Int) (f : Fml) (e : Int) : Prop :=
  ((isSt st lb es a && isSt st lb es b) = false ∧ f = zF ∧ e = 2) ∨
  ((isSt st lb es a && isSt st lb es b) = true ∧ ∃ k, fnd (rN es st.toNat k) es ((k : Int) + 1) st.toNat = [] ∧
    ((rN es st.toNat k a b = none ∧ f = zF ∧ e = 5) ∨ ∃ v, rN es st.toNat k a b = some v ∧
      ((3000 < sz (TF es st.toNat k a b) ∧ f = zF ∧ e = 3) ∨ (sz (TF es st.toNat k a b) ≤ 3000 ∧ f = TF es st.toNat k a b ∧ e = 0))))
theorem TF_end {es : List Ed} {N j k : Nat} {a b v : Int} (h : fnd (rN es N j) es ((j : Int) + 1) N = []) (h' : fnd (rN es N k) es ((k : Int) + 1) N = []) (hv : rN es N j a b = some v) : TF es N j a b = TF es N k a b := by
  have e := rN_end h h'
  unfold TF
  rw [e]
  rw [e] at hv
  have hvj : v ≤ j := by rw [← e] at hv; exact (rN_some hv).1
  have hok : Ok es N k (2 * j + 1) a b := ⟨v, hv, by omega, fun _ => by omega⟩
  rcases Nat.le_total j k with hl | hl
  · rw [tf_stable _ a b hok (2 * k + 2) (by omega), tf_stable _ a b hok (2 * j + 2) (by omega)]
  · rw [tf_stable _ a b (Ok.top hv) (2 * k + 2) (by omega), tf_stable _ a b (Ok.top hv) (2 * j + 2) (by omega)]
theorem TA_fun {st lb : Int} {es : List Ed} {a b : Int} {f f' : Fml} {e e' : Int} (h : TA st lb es a b f e) (h' : TA st lb es a b f' e') : f = f' ∧ e = e' := by
  rcases h with ⟨c, rfl, rfl⟩ | ⟨c, k, hk, h⟩
  · rcases h' with ⟨_, rfl, rfl⟩ | ⟨c', _⟩
    · exact ⟨rfl, rfl⟩
    · rw [c] at c'; cases c'
  · rcases h' with ⟨c', _⟩ | ⟨_, k', hk', h'⟩
    · rw [c] at c'; cases c'
    · have er := rN_end hk hk'
      rcases h with ⟨hn, rfl, rfl⟩ | ⟨v, hv, h⟩
      · rcases h' with ⟨_, rfl, rfl⟩ | ⟨v', hv', _⟩
        · exact ⟨rfl, rfl⟩
        · rw [← er, hn] at hv'; cases hv'
      · have et := TF_end hk hk' hv
        rcases h' with ⟨hn, _⟩ | ⟨v', hv', h'⟩
        · rw [← er, hv] at hn; cases hn
        · rcases h with ⟨c1, rfl, rfl⟩ | ⟨c1, rfl, rfl⟩
          · rcases h' with ⟨_, rfl, rfl⟩ | ⟨c2, _⟩
            · exact ⟨rfl, rfl⟩
            · rw [← et] at c2; omega
          · rcases h' with ⟨c2, _⟩ | ⟨_, rfl, rfl⟩
            · rw [← et] at c2; omega
            · exact ⟨et, rfl⟩
theorem jTells_ok (st lb : Int) (es : List Ed) (sl : Value) (a b : Int) (h : H) (hrow : Row h 3 sl (es.map edL)) : Ret F (fnV n_judge_Tells) [gV st lb sl, .int .i64 a, .int .i64 b] h fun v h' => Fr h h' ∧ ∃ r f e, v = pairV (.agg ⟨r⟩) (.int .i64 e) ∧ FV (fun _ => True) h' f r ∧ TA st lb es a b f e := by
  refine Ret.fn F_judge_Tells 3 (by decide) ?_
  obtain ⟨P, hPd⟩ : ∃ P : Value → H → Prop, P = fun v h' => Fr h h' ∧ ∃ r f e, v = pairV (.agg ⟨r⟩) (.int .i64 e) ∧ FV (fun _ => True) h' f r ∧ TA st lb es a b f e := ⟨_, rfl⟩
  rw [← hPd]
  rw [s_judge_Tells]
  have hsv := hrow.slvM
  obtain ⟨q, eq⟩ : ∃ q, q = h.next := ⟨_, rfl⟩
  obtain ⟨h2, eh2⟩ : ∃ h2, h2 = (h.new (.cells (gL st lb sl) 0)).new (.cells (fmL 0 0 (.slice none 0 0)) 0) := ⟨_, rfl⟩
  have hf2 : Fr h h2 := by rw [eh2]; exact (Fr.new _ _).newR _
  have hn2 : h2.next = q + 2 := by rw [eh2, eq]; simp
  have g0 : h2.get q = some (.cells (gL st lb sl) 0) := by rw [eh2, eq]; simp (disch := omega)
  have g1 : h2.get (q + 1) = some (.cells (fmL 0 0 (.slice none 0 0)) 0) := by rw [eh2, eq]; simp (disch := omega)
  obtain ⟨h3, e3, hf3⟩ := isState_ok st lb es sl a h2 (hrow.fr hf2)
  have hfn3 := hf3.next
  have g03 := (hf3.get _ (by omega)).trans g0
  have g13 := (hf3.get _ (by omega)).trans g1
  -- an answer without a formula
  have zero : ∀ (h' : H) (e : Int), Fr h2 h' → TA st lb es a b zF e → h'.get (q + 1) = some (.cells (fmL 0 0 (.slice none 0 0)) 0) → OkV (some (Out.val (pairV (.agg ⟨fmL 0 0 (.slice none 0 0)⟩) (.int .i64 e)) (h'.put (q + 1) (.cells (fmL 0 0 (.slice none 0 0)) 0)))) P := by
    intro h' e hf' hT hg
    refine OkV.val ?_
    rw [hPd]
    refine ⟨⟨by simp; have := hf2.next; have := hf'.next; omega, fun i hi => ?_⟩, _, zF, e, rfl, FV.zero _ _, hT⟩
    rw [get_put_ne' (by omega), hf'.get _ (by omega)]; exact hf2.get _ hi
  cases hca : isSt st lb es a with
  | false =>
    rw [hca] at e3
    refine OkV.eq (zero h3 2 hf3 (.inl ⟨by rw [hca]; rfl, rfl, rfl⟩) g13) ?_
    simp (disch := first | omega | (simp only [new_next, put_next]; done) | (simp only [new_next, put_next]; omega)) [↓k2_val, ↓br_true, ↓br_false, hsv.clean, hsv.take, ← eq, ← eh2, g0, g1, e3, g03, g13, fillL]
  | true =>
    rw [hca] at e3
    obtain ⟨h4, e4, hf4⟩ := isState_ok st lb es sl b h3 ((hrow.fr hf2).fr hf3)
    have hfn4 := hf4.next
    have g04 := (hf4.get _ (by omega)).trans g03
    have g14 := (hf4.get _ (by omega)).trans g13
    cases hcb : isSt st lb es b with
    | false =>
      rw [hcb] at e4
      refine OkV.eq (zero h4 2 (hf3.trans hf4) (.inl ⟨by rw [hca, hcb]; rfl, rfl, rfl⟩) g14) ?_
      simp (disch := first | omega | (simp only [new_next, put_next]; done) | (simp only [new_next, put_next]; omega)) [↓k2_val, ↓br_true, ↓br_false, hsv.clean, hsv.take, ← eq, ← eh2, g0, g1, e3, g03, g13, e4, g04, g14, fillL]
    | true =>
      rw [hcb] at e4
      have hab : (isSt st lb es a && isSt st lb es b) = true := by rw [hca, hcb]; rfl
      have hca' := hca
      have hcb' := hcb
      unfold isSt at hca' hcb'
      simp only [Bool.and_eq_true, decide_eq_true_eq] at hca' hcb'
      have fm := (chk_iff st lb es).1 hca'.1.1
      obtain ⟨N, rfl⟩ := Int.eq_ofNat_of_zero_le (show 0 ≤ st by have := fm.st1; omega)
      have hN := fm.st2
      have hlen := fm.len
      have hrow4 := ((hrow.fr hf2).fr hf3).fr hf4
      obtain ⟨v5, h5, e5, k, m, rfl, hf5, hm1, hm2, hm5, hend⟩ : ∃ v h', callI F (fnV n_judge_apart) [gV (N : Int) lb sl] h4 = some (v, h') ∧ ∃ k m, v = .map (some m) ∧ Fr h4 h' ∧ h4.next ≤ m ∧ m < h'.next ∧ MapM h' m (rV (rN es N k)) ∧ fnd (rN es N k) es ((k : Int) + 1) N = [] :=
        apart_ok es fm.sortedF (by omega) N (by omega) lb sl h4 hrow4 (P := fun v h' => ∃ k m, v = .map (some m) ∧ Fr h4 h' ∧ h4.next ≤ m ∧ m < h'.next ∧ MapM h' m (rV (rN es N k)) ∧ fnd (rN es N k) es ((k : Int) + 1) N = []) (fun h' m k q1 q2 q3 q4 q5 => ⟨k, m, rfl, q1, q2, q3, q4, q5⟩)
      have hfn5 := hf5.next
      have g05 := (hf5.get _ (by omega)).trans g04
      have g15 := (hf5.get _ (by omega)).trans g14
      obtain ⟨h6, eh6⟩ : ∃ h6, h6 = (h5.new (.map [] 0)).new (.cells (tlL m (N : Int) lb sl h5.next) 0) := ⟨_, rfl⟩
      have hf6 : Fr h5 h6 := by rw [eh6]; exact (Fr.new _ _).newR _
      have hn6 : h6.next = h5.next + 2 := by rw [eh6]; simp
      have g06 := (hf6.get _ (by omega)).trans g05
      have g16 := (hf6.get _ (by omega)).trans g15
      have gt6 : h6.get (h5.next + 1) = some (.cells (tlL m (N : Int) lb sl h5.next) 0) := by rw [eh6]; simp
      have hm6 := hm5.fr (D := fun _ => False) hf6.D hm2 (by simp)
      have hnm6 : MapM h6 h5.next (rV fun _ _ => none) := ⟨[], 0, by rw [eh6]; simp (disch := omega), .nil⟩
      have hlk := look_ok hm6 (.int .i64 0) a b
      have hrow6 := (hrow4.fr hf5).fr hf6
      have hsl6 : ∀ b o n c, sl = .slice (some ⟨b, o, none⟩) n c → b < h.next := fun b o n c e => hrow.lt e
      have hfr26 : Fr h2 h6 := ((hf3.trans hf4).trans hf5).trans hf6
      have hst : ((N : Int)).toNat = N := by simp
      cases hr : rN es N k a b with
      | none =>
        simp only [rV, hr, Option.map_none, Option.getD_none, Option.isSome_none] at hlk
        refine OkV.eq (zero h6 5 hfr26 (.inr ⟨hab, k, by rw [hst]; exact hend, .inl ⟨by rw [hst]; exact hr, rfl, rfl⟩⟩) g16) ?_
        simp (disch := first | omega | (simp only [new_next, put_next]; done) | (simp only [new_next, put_next]; omega)) [↓k2_val, ↓br_true, ↓br_false, hsv.map2, hsv.cell, hsv.take1, hsv.clean, hsv.take, hsv.eqc, ← eq, ← eh2, g0, g1, e3, g03, g13, e4, g04, g14, fillL, e5, g05, g15, ← eh6, gt6, hlk, g16]
      | some v =>
        simp only [rV, hr, Option.map_some, Option.getD_some, Option.isSome_some] at hlk
        obtain ⟨h7, f', e7, hf7, hm7, hmf7⟩ := size_ok es fm.sortedF (by omega) N k m (by omega) (N : Int) lb sl h5.next (fun b o n c e => by have := hsl6 b o n c e; have := hf2.next; omega) (by omega) (2 * k + 1) a b h6 _ hrow6 hm6 (by omega) hnm6 (by omega) (fun a b u h => by cases h) (Ok.top hr)
        have hfn7 := hf7.next
        have g17 := (hf7.get _ (by omega) (by omega)).trans g16
        have gt7 := (hf7.get _ (by omega) (by omega)).trans gt6
        have hfr27 : Fr h2 h7 := hfr26.transD hf7 (fun i hi hd => by omega)
        by_cases c : 3000 < sz (TF es N k a b)
        · have hSZ : SZ es N k a b = 3001 := by unfold SZ; omega
          rw [hSZ] at e7
          refine OkV.eq (zero h7 3 hfr27 (.inr ⟨hab, k, by rw [hst]; exact hend, .inr ⟨v, by rw [hst]; exact hr, .inl ⟨by rw [hst]; exact c, rfl, rfl⟩⟩⟩) g17) ?_
          simp (disch := first | omega | (simp only [new_next, put_next]; done) | (simp only [new_next, put_next]; omega)) [↓k2_val, ↓br_true, ↓br_false, hsv.map2, hsv.cell, hsv.take1, hsv.clean, hsv.take, hsv.eqc, ← eq, ← eh2, g0, g1, e3, g03, g13, e4, g04, g14, fillL, e5, g05, g15, ← eh6, gt6, hlk, g16, e7, g17]
        · have hSZ : SZ es N k a b ≤ 3000 := by unfold SZ; omega
          obtain ⟨h8, r, e8, hf8, hfv8⟩ := fml_ok es fm.sortedF (by omega) N k m (by omega) (N : Int) lb sl h5.next (2 * k + 1) a b h7 (hrow6.frD hf7 (fun b o n c e => by have := hsl6 b o n c e; have := hf2.next; omega)) (hm6.fr hf7 (by omega) (by omega)) (by omega) (Ok.top hr)
          have hfn8 := hf8.next
          have g18 := (hf8.get _ (by omega)).trans g17
          obtain ⟨op, lab, bs, nn, cc, er, hr1, hr2, hr3⟩ := hfv8.cells
          refine OkV.eq (OkV.val (v := pairV (.agg ⟨r⟩) (.int .i64 0)) (h := h8.put (q + 1) (.cells r 0)) (by
            rw [hPd]
            refine ⟨⟨by simp; have := hf2.next; have := hfr27.next; omega, fun i hi => ?_⟩, r, TF es N k a b, 0, rfl, ?_, .inr ⟨hab, k, by rw [hst]; exact hend, .inr ⟨v, by rw [hst]; exact hr, .inr ⟨by rw [hst]; omega, by rw [hst], rfl⟩⟩⟩⟩
            · have := hf2.next; have := hfr27.next
              rw [get_put_ne' (by omega), hf8.get _ (by omega), hfr27.get _ (by omega)]; exact hf2.get _ hi
            · have := hfr27.next
              exact FV.mono (fun _ _ _ => trivial) (FV.frD (D := fun j => j = q + 1) ((FrD.refl (fun j => j = q + 1) _).put (.inr rfl) _) (fun b hb h => by omega) hfv8))) ?_
          subst er
          simp (disch := first | omega | (simp only [new_next, put_next]; done) | (simp only [new_next, put_next]; omega)) [↓k2_val, ↓br_true, ↓br_false, hsv.map2, hsv.cell, hsv.take1, hsv.clean, hsv.take, hsv.eqc, ← eq, ← eh2, g0, g1, e3, g03, g13, e4, g04, g14, fillL, e5, g05, g15, ← eh6, gt6, hlk, g16, e7, gt7, hSZ, e8, g18]
end Go.Ideal.J
set_option linter.unusedSimpArgs false
set_option linter.unusedVariables false
set_option maxRecDepth 10000
set_option maxHeartbeats 2000000
namespace Go.Ideal.J
open Go Go.Ideal
theorem szs_at : ∀ {fs : List Fml} {i : Nat} {f : Fml}, fs[i]? = some f → sz f ≤ szs fs
  | [], i, f, h => by simp at h
  | g :: fs, 0, f, h => by simp at h; subst h; simp [szs]
  | g :: fs, i + 1, f, h => by have := szs_at (by simpa using h : fs[i]? = some f); simp only [szs]; omega
theorem sameF_ok : ∀ (n : Nat) (f : Fml), sz f ≤ n → ∀ (h : H) (r r' : List Value) (B B' : Nat → Prop), FV B h f r → FV B' h f r' → ∃ h', callI F (fnV n_cabotageref22_SameFormula) [.agg ⟨r⟩, .agg ⟨r'⟩] h = some (.bool true, h') ∧ Fr h h' := by
  intro n
  induction n with
  | zero => intro f hf; have := sz_pos f; omega
  | succ n ih =>
    intro f hf h r r' B B' hr hr'
    cases f with
    | mk op lab ks =>
    have hks : szs ks ≤ n := by simp only [sz] at hf; omega
    unfold FV at hr hr'
    obtain ⟨slv, rows, rfl, a1, a2, a3, a4⟩ := hr
    obtain ⟨slv', rows', rfl, b1, b2, b3, b4⟩ := hr'
    have la := FVs.len a4
    have lb := FVs.len b4
    have ha := a1.slv
    have hb := b1.slv
    suffices hr : Ret F (fnV n_cabotageref22_SameFormula) [.agg ⟨fmL op lab slv⟩, .agg ⟨fmL op lab slv'⟩] h fun v h' => v = .bool true ∧ Fr h h' by
      obtain ⟨v, h', e, rfl, hf⟩ := hr; exact ⟨h', e, hf⟩
    obtain ⟨P, hPd⟩ : ∃ P : Value → H → Prop, P = fun v h' => v = .bool true ∧ Fr h h' := ⟨_, rfl⟩
    rw [← hPd]
    refine Ret.fn F_cabotageref22_SameFormula 2 (by decide) ?_
    rw [s_cabotageref22_SameFormula]
    obtain ⟨q, eq⟩ : ∃ q, q = h.next := ⟨_, rfl⟩
    obtain ⟨h2, eh2⟩ : ∃ h2, h2 = (h.new (.cells (fmL op lab slv) 0)).new (.cells (fmL op lab slv') 0) := ⟨_, rfl⟩
    have hf2 : Fr h h2 := by rw [eh2]; exact (Fr.new _ _).newR _
    have hn2 : h2.next = q + 2 := by rw [eh2, eq]; simp
    have g0 : h2.get q = some (.cells (fmL op lab slv) 0) := by rw [eh2, eq]; simp (disch := omega)
    have g1 : h2.get (q + 1) = some (.cells (fmL op lab slv') 0) := by rw [eh2, eq]; simp (disch := omega)
    rw [la] at ha
    rw [lb] at hb
    have loop : ∀ (k i : Nat) (h1 : H), i + k = ks.length → Fr h2 h1 →
        OkV (sh (rI F) c_cabotageref22_SameFormula_1 (K_cabotageref22_SameFormula_1 (rI F)) (setL [p2, p3, p5] [ptr q, ptr (q + 1), .int .i64 (i : Int)]) h1) P := by
      intro k
      induction k with
      | zero =>
        intro i h1 hi hf
        have e : i = ks.length := by omega
        subst e
        have g01 := (hf.get _ (by omega)).trans g0
        have g11 := (hf.get _ (by omega)).trans g1
        refine OkV.eq (OkV.val (v := .bool true) (h := h1) (by rw [hPd]; exact ⟨rfl, hf2.trans hf⟩)) ?_
        rw [s_cabotageref22_SameFormula_1]
        simp (disch := first | omega | (simp only [new_next, put_next]; done) | (simp only [new_next, put_next]; omega)) [↓k2_val, ↓br_true, ↓br_false, g01, g11, ha.one, ha.take, ha.len, s_cabotageref22_SameFormula_0]
      | succ k ihk =>
        intro i h1 hi hf
        have hil : i < ks.length := by omega
        have g01 := (hf.get _ (by omega)).trans g0
        have g11 := (hf.get _ (by omega)).trans g1
        have hki : ks[i]? = some ks[i] := List.getElem?_eq_getElem hil
        obtain ⟨ra, ea, fa⟩ := FVs.at a4 hki
        obtain ⟨rb, eb, fb⟩ := FVs.at b4 hki
        have hsz := szs_at hki
        have hff := hf2.trans hf
        obtain ⟨x1, o1, cs1, u1, hv1, _, hg1, ht1⟩ := (a1.fr hff).index ea
        obtain ⟨x2, o2, cs2, u2, hv2, _, hg2, ht2⟩ := (b1.fr hff).index eb
        obtain ⟨h3, e3, hf3⟩ := ih ks[i] (by omega) h1 ra rb B B' (fa.fr hff) (fb.fr hff)
        obtain ⟨_, _, _, _, _, era, _⟩ := fa.cells
        obtain ⟨_, _, _, _, _, erb, _⟩ := fb.cells
        have := ihk (i + 1) h3 (by omega) (hf.trans hf3)
        rw [s_cabotageref22_SameFormula_1]
        refine OkV.eq (this.lp (l_cabotageref22_SameFormula_1 F _ _ _ _)) ?_
        subst era erb
        simp (disch := first | omega | (simp only [new_next, put_next]; done) | (simp only [new_next, put_next]; omega)) [↓k2_val, ↓br_true, ↓br_false, g01, g11, ha.one, ha.take, ha.len, hb.one, hb.take, hil, hv1, hg1, ht1, hv2, hg2, ht2, e3, i64_add]
    have := loop ks.length 0 h2 (by omega) (.refl _)
    refine OkV.eq (this.lp (l_cabotageref22_SameFormula_1 F _ _ _ _)) ?_
    simp (disch := first | omega | (simp only [new_next, put_next]; done) | (simp only [new_next, put_next]; omega)) [↓k2_val, ↓br_true, ↓br_false, ha.clean, ha.take, hb.clean, hb.take, ha.len, hb.len, ha.one, hb.one, ← eq, ← eh2, g0, g1]
end Go.Ideal.J
set_option linter.unusedSimpArgs false
set_option linter.unusedVariables false
set_option maxRecDepth 10000
set_option maxHeartbeats 2000000
namespace Go.Ideal.J
open Go Go.Ideal
theorem vNil_eq (b o : Nat) (s : Option Nat) (h : H) : vNil (.pointer (some ⟨b, o, s⟩)) h = some (.pointer (some ⟨b, o, s⟩), h) := id rfl
theorem takeC_three {o : Nat} {cs : List Value} {x y z : Int} (h : takeC 3 (dropN o cs) = some [.int .i64 x, .int .i64 y, .int .i64 z]) : takeC 1 (dropN o cs) = some [.int .i64 x] ∧ takeC 1 (dropN (o + 1) cs) = some [.int .i64 y] ∧ takeC 1 (dropN (o + 2) cs) = some [.int .i64 z] := by
  have h1 := (takeC_some h).1
  rw [takeN_eq, dropN_eq] at h1
  split at h1
  · rename_i hl
    have h2 := Option.some.inj h1
    have e0 : cs[o]? = some (.int .i64 x) := by
      have := congrArg (fun l => l[0]?) h2
      simpa [List.getElem?_take, List.getElem?_drop] using this
    have e1 : cs[o + 1]? = some (.int .i64 y) := by
      have := congrArg (fun l => l[1]?) h2
      simpa [List.getElem?_take, List.getElem?_drop] using this
    have e2 : cs[o + 2]? = some (.int .i64 z) := by
      have := congrArg (fun l => l[2]?) h2
      simpa [List.getElem?_take, List.getElem?_drop] using this
    exact ⟨takeC_at e0 rfl, takeC_at e1 rfl, takeC_at e2 rfl⟩
  · cases h1
abbrev rtL (tl tr : Value) (L : Int) : List Value := [tl, tr, .int .i64 L]
/-- what a call of tells answers. -/
def TOK (es : List Ed) (N k : Nat) (tl tr : Value) (pt : Nat) (h0 : H) (n : Nat) : Prop :=
  ∀ (a b : Nat) (h : H) (L : Int), a < N → b < N → FrD (fun j => j = pt) h0 h → h.get pt = some (.cells (rtL tl tr L) 0) → -2 ≤ L → L ≤ 3000 → Ok es N k n a b →
    ∃ h' r f L', callI F (fnV n_Pcabotageref22_teller_tells) [ptr pt, .int .i64 (a : Int), .int .i64 (b : Int)] h = some (.agg ⟨r⟩, h') ∧ FrD (fun j => j = pt) h h' ∧ h'.get pt = some (.cells (rtL tl tr L') 0) ∧ FV (fun q => h.next ≤ q) h' f r ∧
      ((sz (TF es N k a b) ≤ L ∧ L' = L - sz (TF es N k a b) ∧ f = TF es N k a b) ∨ (L < sz (TF es N k a b) ∧ -2 ≤ L' ∧ L' < 0))
def TS (es : List Ed) (b lab : Int) (j : Nat) : List Int := (((outs es b).take j).filter fun x => decide (x.2.2 = lab)).map fun x => x.2.1
theorem TS_succ {es : List Ed} {b lab : Int} {j : Nat} {y : Ed} (h : (outs es b)[j]? = some y) : TS es b lab (j + 1) = TS es b lab j ++ if y.2.2 = lab then [y.2.1] else [] := by
  unfold TS
  rw [List.take_add_one, h, List.filter_append, List.map_append]
  congr 1
  by_cases e : y.2.2 = lab <;> simp [e]
theorem tells4 (es : List Ed) (hsz : es.length ≤ 1000) (N k : Nat) (hin : inB (N : Int) es) (tl tr : Value) (lvs rvs : List Value) (pt : Nat) (h0 : H) (hR : ∀ h', FrD (fun j => j = pt) h0 h' → RC2 es N h' tl tr lvs rvs (RZ es N k)) (hpt : pt < h0.next) (n : Nat) (hok : TOK es N k tl tr pt h0 n) (x : Ed) (hx : x ∈ es) (b : Nat) (hb : b < N) (hot : ∀ t ∈ tos es b x.2.2, Ok es N k n x.2.1 t)
    (q6 q9 q10 : Nat) (hX : H) (hX0 : FrD (fun j => j = pt) h0 hX) (g9 : hX.get q9 = some (.cells (edL x) 0)) (l9 : q9 < hX.next) (l10 : q10 < hX.next) (b9 : h0.next ≤ q9) (b10 : h0.next ≤ q10) (n910 : q9 ≠ q10) (M : Int) (hM : -2 ≤ M ∧ M ≤ 3000) {P : Value → H → Prop}
    (hP : ∀ h' v rows ob fs L, FrD (fun j => j = pt ∨ j = q10) hX h' → h'.get q10 = some (.cells (fmL 3 0 v) 0) → Grow h' 3 v rows ob → (∀ q, ob = some q → hX.next ≤ q) → rows.length ≤ 1000 → FVs (fun q => hX.next ≤ q ∧ ob ≠ some q) h' fs rows → h'.get pt = some (.cells (rtL tl tr L) 0) →
      ((szs ((tos es b x.2.2).map fun t => TF es N k x.2.1 t) ≤ M ∧ L = M - szs ((tos es b x.2.2).map fun t => TF es N k x.2.1 t) ∧ fs = (tos es b x.2.2).map fun t => TF es N k x.2.1 t) ∨ (M < szs ((tos es b x.2.2).map fun t => TF es N k x.2.1 t) ∧ -2 ≤ L ∧ L < 0)) →
      OkV (sh (rI F) c_Pcabotageref22_teller_tells_3 (K_Pcabotageref22_teller_tells_3 (rI F)) (setL [p6, p9, p10] [ptr q6, ptr q9, ptr q10]) h') P) :
    ∀ (m j : Nat) (h1 : H) (v : Value) (rows : List (List Value)) (ob : Option Nat) (fs : List Fml) (L : Int), j + m = (outs es b).length → FrD (fun j => j = pt ∨ j = q10) hX h1 → h1.get q10 = some (.cells (fmL 3 0 v) 0) → Grow h1 3 v rows ob → (∀ q, ob = some q → hX.next ≤ q) → rows.length ≤ j → FVs (fun q => hX.next ≤ q ∧ ob ≠ some q) h1 fs rows → h1.get pt = some (.cells (rtL tl tr L) 0) →
      ((szs ((TS es b x.2.2 j).map fun t => TF es N k x.2.1 t) ≤ M ∧ L = M - szs ((TS es b x.2.2 j).map fun t => TF es N k x.2.1 t) ∧ fs = (TS es b x.2.2 j).map fun t => TF es N k x.2.1 t) ∨ (M < szs ((TS es b x.2.2 j).map fun t => TF es N k x.2.1 t) ∧ -2 ≤ L ∧ L < 0)) →
      OkV (sh (rI F) c_Pcabotageref22_teller_tells_4 (K_Pcabotageref22_teller_tells_4 (rI F)) (setL [p0, p2, p6, p9, p10, p11] [ptr pt, .int .i64 (b : Int), ptr q6, ptr q9, ptr q10, .int .i64 (j : Int)]) h1) P := by
  intro m
  have hxin := hin x hx
  obtain ⟨u, hu⟩ := Int.eq_ofNat_of_zero_le hxin.2.2.1
  have hol : (outs es b).length ≤ es.length := by unfold outs; exact List.length_filter_le _ _
  have hXn := hX0.next
  have htlv := (hR h0 (.refl _ _)).rl.slv
  have htrv := (hR h0 (.refl _ _)).rr.slv
  have hfrom : ∀ h1, FrD (fun j => j = pt ∨ j = q10) hX h1 → FrD (fun j => j = pt) h0 h1 := fun h1 hf => ⟨by have := hf.next; omega, fun i hi hd => (hf.get _ (by omega) (by omega)).trans (hX0.get _ hi hd)⟩
  induction m with
  | zero =>
    intro j h1 v rows ob fs L hj hf g10 hg hob hrl hfs gpt hL
    have e : j = (outs es b).length := by omega
    subst e
    have hts : TS es b x.2.2 (outs es b).length = tos es b x.2.2 := by unfold TS tos; rw [List.take_length]
    rw [hts] at hL
    have hr1 := hR h1 (hfrom h1 hf)
    obtain ⟨lv, l1, l2⟩ := hr1.lst b hb
    obtain ⟨b1, o1, cs1, e1, hv1, hb1, hg1, ht1⟩ := hr1.rl.index (i := b) (r := [lv]) (by rw [List.getElem?_map, l1]; rfl)
    have hlv := l2.slvM
    rw [s_Pcabotageref22_teller_tells_4]
    refine OkV.eq (hP h1 v rows ob fs L hf g10 hg hob (by omega) hfs gpt hL) ?_
    simp (disch := first | omega | (simp only [new_next, put_next]; done) | (simp only [new_next, put_next]; omega)) [↓k2_val, ↓br_true, ↓br_false, vNil_eq, gpt, htlv.one, htlv.take1, hv1, hg1, ht1, hlv.one, hlv.len]
  | succ m ih =>
    intro j h1 v rows ob fs L hj hf g10 hg hob hrl hfs gpt hL
    have hjl : j < (outs es b).length := by omega
    have hr1 := hR h1 (hfrom h1 hf)
    obtain ⟨lv, l1, l2⟩ := hr1.lst b hb
    obtain ⟨b1, o1, cs1, e1, hv1, hb1, hg1, ht1⟩ := hr1.rl.index (i := b) (r := [lv]) (by rw [List.getElem?_map, l1]; rfl)
    have hlv := l2.slvM
    have hyg : (outs es b)[j]? = some (outs es b)[j] := List.getElem?_eq_getElem hjl
    have hyo := mem_outs.1 (List.getElem_mem hjl)
    have hts := TS_succ (lab := x.2.2) hyg
    obtain ⟨b2, o2, cs2, e2, hv2, hb2, hg2, ht2⟩ := l2.index (i := j) (r := edL (outs es b)[j]) (by simp [hjl])
    generalize (outs es b)[j] = y at *
    obtain ⟨w0, w1, w2⟩ := takeC_three ht2
    have hyin := hin y hyo.1
    obtain ⟨w, hw⟩ := Int.eq_ofNat_of_zero_le hyin.2.2.1
    have hfn := hf.next
    have g91 := (hf.get _ l9 (by omega)).trans g9
    rw [s_Pcabotageref22_teller_tells_4]
    by_cases c : y.2.2 = x.2.2
    · rw [if_pos c] at hts
      have hmem : y.2.1 ∈ tos es b x.2.2 := mem_tos.2 ⟨y, hyo.1, hyo.2, c, rfl⟩
      have hLb : -2 ≤ L ∧ L ≤ 3000 := by rcases hL with h | h <;> omega
      obtain ⟨h5, r, f, L5, ec, hf5, gpt5, hfv5, hL5⟩ := hok u w h1 L (by omega) (by omega) (hfrom h1 hf) gpt hLb.1 hLb.2 (by rw [← hu, ← hw]; exact hot _ hmem)
      rw [← hu, ← hw] at hL5
      have hfn5 := hf5.next
      have hgv := hg.slv
      have hob1 : ∀ q, ob = some q → q < h1.next := fun q e => by subst e; exact hg.lt
      have g105 := (hf5.get _ (by omega) (by omega)).trans g10
      obtain ⟨op, lab, bs, nn, cc, er, hr1', hr2', hr3'⟩ := hfv5.cells
      obtain ⟨h6, eh6⟩ : ∃ h6, h6 = h5.new (.cells r 0) := ⟨_, rfl⟩
      have hf6 : Fr h5 h6 := by rw [eh6]; exact .new _ _
      have hn6 : h6.next = h5.next + 1 := by rw [eh6]; simp
      obtain ⟨h7, v', ea, hg7, hn7, hf7⟩ := append_one (h := h6) (sz := 3) (bytes := 40) (r := r) (b := h5.next) (e := 0) (by omega) (by decide) ((hg.frD hf5 (fun b e => by have := hob b e; omega)).fr hf6) (by rw [eh6]; simp) hr1' hr2' hr3' (by omega)
      have g107 : h7.get q10 = some (.cells (fmL 3 0 v) 0) := by
        rw [hf7.get _ (by omega) (fun e => by have := hob _ e; omega), hf6.get _ (by omega)]; exact g105
      obtain ⟨h8, eh8⟩ : ∃ h8, h8 = h7.put q10 (.cells (fmL 3 0 v') 0) := ⟨_, rfl⟩
      have hf8 : FrD (fun j => j = q10) h7 h8 := by rw [eh8]; exact (FrD.refl (fun j => j = q10) _).put (.inr rfl) _
      have hn8 : h8.next = h7.next := by rw [eh8]; simp
      have g108 : h8.get q10 = some (.cells (fmL 3 0 v') 0) := by rw [eh8, get_put_eq rfl]
      have hfD : FrD (fun j => j = pt ∨ j = q10 ∨ ob = some j) h1 h8 := (((hf5.mono (fun _ _ h => .inl h)).trans hf6.D).trans (hf7.mono (fun _ _ h => .inr (.inr h)))).trans (hf8.mono (fun _ _ h => .inr (.inl h)))
      have hfX : FrD (fun j => j = pt ∨ j = q10) hX h8 := ⟨by omega, fun i hi hd => by
        rw [hfD.get _ (by omega) (fun e => by rcases e with e | e | e; exact hd (.inl e); exact hd (.inr e); have := hob _ e; omega)]; exact hf.get _ hi hd⟩
      have gpt8 : h8.get pt = some (.cells (rtL tl tr L5) 0) := by
        rw [hf8.get _ (by omega) (by omega), hf7.get _ (by omega) (fun e => by have := hob _ e; omega), hf6.get _ (by omega)]; exact gpt5
      have b1' : FVs (fun q => hX.next ≤ q ∧ some h6.next ≠ some q) h8 fs rows :=
        FVs.mono (fun b hb h => ⟨h.1.1, fun e => by have := Option.some.inj e; omega⟩) (FVs.frD hfD (fun b hb h hd => by
          rcases hd with hd | hd | hd
          · omega
          · omega
          · exact h.1.2 hd) (FVs.bnd hfs))
      have b2' : FV (fun q => hX.next ≤ q ∧ some h6.next ≠ some q) h8 f r :=
        FV.mono (fun b hb h => ⟨by omega, fun e => by have := Option.some.inj e; omega⟩) (FV.frD (D := fun j => j = q10 ∨ ob = some j) ((hf6.D.trans (hf7.mono (fun _ _ h => .inr h))).trans (hf8.mono (fun _ _ h => .inl h))) (fun b hb h hd => by
          rcases hd with hd | hd
          · omega
          · have := hob1 _ hd; omega) (FV.bnd hfv5))
      have hsum : szs ((TS es b x.2.2 (j + 1)).map fun t => TF es N k x.2.1 t) = szs ((TS es b x.2.2 j).map fun t => TF es N k x.2.1 t) + sz (TF es N k x.2.1 y.2.1) := by
        rw [hts, List.map_append, szs_append]; simp [szs]
      have hsp := sz_pos (TF es N k x.2.1 y.2.1)
      have := ih (j + 1) h8 v' (rows ++ [r]) (some h6.next) (fs ++ [f]) L5 (by omega) hfX g108 (hg7.frD hf8 (fun b e => by cases e; omega)) (fun q e => by cases e; omega) (by simp; omega) (FVs.append b2' b1') gpt8 (by
        rw [hsum]
        rcases hL with ⟨c1, c2, c3⟩ | ⟨c1, c2, c3⟩
        · rcases hL5 with ⟨d1, d2, d3⟩ | ⟨d1, d2, d3⟩
          · refine .inl ⟨by omega, by omega, ?_⟩
            rw [hts, List.map_append, c3, d3]; rfl
          · exact .inr ⟨by omega, d2, d3⟩
        · rcases hL5 with ⟨d1, d2, d3⟩ | ⟨d1, d2, d3⟩
          · omega
          · exact .inr ⟨by omega, d2, d3⟩)
      refine OkV.eq (this.lp (l_Pcabotageref22_teller_tells_4 F _ _ _ _ _ _ _)) ?_
      subst er
      obtain ⟨y1, y2, y3⟩ := y
      obtain ⟨x1, x2, x3⟩ := x
      obtain rfl : x2 = (u : Int) := hu
      obtain rfl : y2 = (w : Int) := hw
      obtain rfl : y3 = x3 := c
      simp (disch := first | omega | (simp only [new_next, put_next]; done) | (simp only [new_next, put_next]; omega)) [↓k2_val, ↓br_true, ↓br_false, vNil_eq, gpt, htlv.one, htlv.take1, hv1, hg1, ht1, hlv.one, hlv.len, hjl, hv2, hg2, w1, w2, g91, ec, g10, g105, hgv.one, hgv.take, hgv.eq, fillL, repeatL, ← eh6, ea, g107, hg7.slv.cells, hg7.slv.cell, ← eh8, s_Pcabotageref22_teller_tells_5, i64_add]
    · rw [if_neg c, List.append_nil] at hts
      have := ih (j + 1) h1 v rows ob fs L (by omega) hf g10 hg hob (by omega) hfs gpt (by rw [hts]; exact hL)
      refine OkV.eq (this.lp (l_Pcabotageref22_teller_tells_4 F _ _ _ _ _ _ _)) ?_
      simp (disch := first | omega | (simp only [new_next, put_next]; done) | (simp only [new_next, put_next]; omega)) [↓k2_val, ↓br_true, ↓br_false, vNil_eq, gpt, htlv.one, htlv.take1, hv1, hg1, ht1, hlv.one, hlv.len, hjl, hv2, hg2, w1, w2, g91, c, s_Pcabotageref22_teller_tells_5, i64_add]
end Go.Ideal.J
set_option linter.unusedSimpArgs false
set_option linter.unusedVariables false
set_option maxRecDepth 10000
set_option maxHeartbeats 2000000
namespace Go.Ideal.J
open Go Go.Ideal
theorem ans_told' (es : List Ed) (N k : Nat) (x : Ed) (b j : Int) (hj : 0 ≤ j) : ansR (RZ es N k) es x b j = toldR (rN es N k) es x b j := by
  unfold ansR toldR
  congr 1
  funext t
  unfold badR tellsR
  cases h : rN es N k x.2.1 t with
  | none => simp [RZ_zero.2 h]
  | some v =>
    have h0 : ¬ RZ es N k x.2.1 t = 0 := fun e => by rw [RZ_zero.1 e] at h; cases h
    have hv : RZ es N k x.2.1 t = v := by unfold RZ; rw [h]; rfl
    have hne := (rN_some h).2.1
    rw [hv] at h0 ⊢
    by_cases c : v ≤ j
    · simp [h0, hne, c]
    · simp [h0, hne, c, hj]; try omega
theorem tells_ok (es : List Ed) (hsz : es.length ≤ 1000) (N k : Nat) (hN : N ≤ 200) (hin : inB (N : Int) es) (tl tr : Value) (lvs rvs : List Value) (pt : Nat) (h0 : H) (hR : ∀ h', FrD (fun j => j = pt) h0 h' → RC2 es N h' tl tr lvs rvs (RZ es N k)) (hpt : pt < h0.next) : ∀ n, TOK es N k tl tr pt h0 n := by
  intro n
  have htlv := (hR h0 (.refl _ _)).rl.slv
  have htrv := (hR h0 (.refl _ _)).rr.slv
  induction n with
  | zero => intro a b h L _ _ _ _ _ _ ho; obtain ⟨_, e⟩ := ho.pos; cases e
  | succ n ih =>
    intro a b h L ha hb hf0 gpt hL1 hL2 hok
    obtain ⟨v, hv, hv2, hv3⟩ := id hok
    have hvp := rN_pos hv
    have hvle := rN_le hv
    have hNN : N * N ≤ 200 * 200 := Nat.mul_le_mul hN hN
    have hRv : RZ es N k a b = v := by unfold RZ; rw [hv]; rfl
    obtain ⟨Q, hQd⟩ : ∃ Q : List Value → H → Prop, Q = fun r h' => ∃ f L', FrD (fun j => j = pt) h h' ∧ h'.get pt = some (.cells (rtL tl tr L') 0) ∧ FV (fun q => h.next ≤ q) h' f r ∧
      ((sz (TF es N k a b) ≤ L ∧ L' = L - sz (TF es N k a b) ∧ f = TF es N k a b) ∨ (L < sz (TF es N k a b) ∧ -2 ≤ L' ∧ L' < 0)) := ⟨_, rfl⟩
    suffices hr : Ret F (fnV n_Pcabotageref22_teller_tells) [ptr pt, .int .i64 (a : Int), .int .i64 (b : Int)] h fun u h' => ∃ r, u = .agg ⟨r⟩ ∧ Q r h' by
      obtain ⟨u, h', e, r, rfl, h1⟩ := hr
      rw [hQd] at h1
      obtain ⟨f, L', h1, h2, h3, h4⟩ := h1
      exact ⟨h', r, f, L', e, h1, h2, h3, h4⟩
    obtain ⟨P, hPd⟩ : ∃ P : Value → H → Prop, P = fun u h' => ∃ r, u = .agg ⟨r⟩ ∧ Q r h' := ⟨_, rfl⟩
    rw [← hPd]
    refine Ret.fn F_Pcabotageref22_teller_tells 3 (by decide) ?_
    rw [s_Pcabotageref22_teller_tells]
    have hfn0 := hf0.next
    obtain ⟨q, eq⟩ : ∃ q, q = h.next := ⟨_, rfl⟩
    obtain ⟨h2, eh2⟩ : ∃ h2, h2 = h.new (.cells (fmL 0 0 (.slice none 0 0)) 0) := ⟨_, rfl⟩
    have hf2 : Fr h h2 := by rw [eh2]; exact .new _ _
    have hn2 : h2.next = q + 1 := by rw [eh2, eq]; simp
    have g0 : h2.get q = some (.cells (fmL 0 0 (.slice none 0 0)) 0) := by rw [eh2, eq]; simp
    have gp0 : h2.put q (.cells (fmL 0 0 (.slice none 0 0)) 0) = h2 := by rw [eh2, eq, new_put_eq rfl]
    have gpt2 := (hf2.get _ (by omega)).trans gpt
    have hsp := sz_pos (TF es N k a b)
    by_cases hL : L < 0
    · refine OkV.eq (OkV.val (v := .agg ⟨fmL 0 0 (.slice none 0 0)⟩) (h := h2) (by
        rw [hPd]; refine ⟨_, rfl, ?_⟩
        rw [hQd]
        exact ⟨zF, L, hf2.D, gpt2, FV.zero _ _, .inr ⟨by omega, by omega, by omega⟩⟩)) ?_
      simp (disch := first | omega | (simp only [new_next, put_next]; done) | (simp only [new_next, put_next]; omega)) [↓k2_val, ↓br_true, ↓br_false, ← eq, ← eh2, vNil_eq, gpt2, hL, fillL, g0, gp0]
    · have hr2 := hR h2 (hf0.trans hf2.D)
      obtain ⟨qa, is, m1, m2, m3, m4, m5⟩ := hr2.mat a ha
      obtain ⟨b3, o3, cs3, e3, hv3', hb3, hg3, ht3⟩ := hr2.rr.index (i := a) (r := [slF qa N]) (by rw [List.getElem?_map, m1]; rfl)
      have rq : takeC 1 (dropN b (is.map fun i => Value.int .i64 i)) = some [.int .i64 v] := takeC_at (by rw [List.getElem?_map, m4 b hb, hRv]; rfl) rfl
      have hol : (outs es a).length ≤ es.length := by unfold outs; exact List.length_filter_le _ _
      have loop : ∀ (m i : Nat) (h1 : H), i + m = (outs es a).length → Fr h2 h1 → (∀ y ∈ (outs es a).take i, toldR (rN es N k) es y b (v - 1) = false) →
          OkV (sh (rI F) c_Pcabotageref22_teller_tells_1 (K_Pcabotageref22_teller_tells_1 (rI F)) (setL [p0, p1, p2, p6, p7, p8] [ptr pt, .int .i64 (a : Int), .int .i64 (b : Int), ptr q, .int .i64 v, .int .i64 (i : Int)]) h1) P := by
        intro m
        induction m with
        | zero =>
          intro i h1 hi hf hall
          have e : i = (outs es a).length := by omega
          subst e
          rw [List.take_length] at hall
          have hx : firstR (rN es N k) es a b (v - 1) = none := find_none hall
          have hfn := hf.next
          have gpt1 := (hf.get _ (by omega)).trans gpt2
          have g01 := (hf.get _ (by omega)).trans g0
          have hr1 := hR h1 ((hf0.trans hf2.D).trans hf.D)
          obtain ⟨lv, l1, l2⟩ := hr1.lst a ha
          have hlv := l2.slvM
          obtain ⟨b1, o1, cs1, e1, hv1, hb1, hg1, ht1⟩ := hr1.rl.index (i := a) (r := [lv]) (by rw [List.getElem?_map, l1]; rfl)
          obtain ⟨h3, eh3⟩ : ∃ h3, h3 = h1.put pt (.cells (rtL tl tr (L - 1)) 0) := ⟨_, rfl⟩
          have hf3 : FrD (fun j => j = pt) h1 h3 := by rw [eh3]; exact (FrD.refl (fun j => j = pt) _).put (.inr rfl) _
          have hn3 : h3.next = h1.next := by rw [eh3]; simp
          have gpt3 : h3.get pt = some (.cells (rtL tl tr (L - 1)) 0) := by rw [eh3, get_put_eq rfl]
          obtain ⟨h5, r, f, L5, e5, hf5, gpt5, hfv5, hL5⟩ := ih b a h3 (L - 1) hb ha (((hf0.trans hf2.D).trans hf.D).trans hf3) gpt3 (by omega) (by omega) (hok.not hv hx)
          have hfn5 := hf5.next
          have g05 : h5.get q = some (.cells (fmL 0 0 (.slice none 0 0)) 0) := by
            rw [hf5.get _ (by omega) (by omega), hf3.get _ (by omega) (by omega)]; exact g01
          obtain ⟨op, lab, bs, nn, cc, er, hr1', hr2', hr3'⟩ := hfv5.cells
          obtain ⟨h6, eh6⟩ : ∃ h6, h6 = (h5.new (.cells r 0)).put q (.cells (fmL 2 0 (.slice (some ⟨h5.next, 0, none⟩) 1 1)) 0) := ⟨_, rfl⟩
          have hf56 : FrD (fun j => j = q) h5 h6 := by rw [eh6]; exact ((FrD.refl (fun j => j = q) _).new _).put (.inr rfl) _
          have hn6 : h6.next = h5.next + 1 := by rw [eh6]; simp
          have g06 : h6.get q = some (.cells (fmL 2 0 (.slice (some ⟨h5.next, 0, none⟩) 1 1)) 0) := by rw [eh6, get_put_eq rfl]
          have g6 : h6.get h5.next = some (.cells r 0) := by rw [eh6, get_put_ne' (by omega)]; simp
          have hfr6 : FrD (fun j => j = pt) h h6 := ⟨by omega, fun i hi hd => by
            rw [hf56.get _ (by omega) (by omega), hf5.get _ (by omega) hd, hf3.get _ (by omega) hd, hf.get _ (by omega)]; exact hf2.get _ hi⟩
          refine OkV.eq (OkV.val (v := .agg ⟨fmL 2 0 (.slice (some ⟨h5.next, 0, none⟩) 1 1)⟩) (h := h6) (by
            rw [hPd]; refine ⟨_, rfl, ?_⟩
            rw [hQd]
            refine ⟨.mk 2 0 [f], L5, hfr6, (hf56.get _ (by omega) (by omega)).trans gpt5, FV.one ((hfv5.frD hf56 (fun b hb h => by omega)).mono (fun b hb h => by omega)) g6 (by omega) (by omega), ?_⟩
            rw [TF_not hv hx]
            simp only [sz, szs]
            rcases hL5 with ⟨d1, d2, d3⟩ | ⟨d1, d2, d3⟩
            · exact .inl ⟨by omega, by omega, by rw [d3]⟩
            · exact .inr ⟨by omega, d2, d3⟩)) ?_
          rw [s_Pcabotageref22_teller_tells_1]
          subst er
          simp (disch := first | omega | (simp only [new_next, put_next]; done) | (simp only [new_next, put_next]; omega)) [↓k2_val, ↓br_true, ↓br_false, vNil_eq, gpt1, htlv.one, htlv.take1, hv1, hg1, ht1, hlv.one, hlv.len, s_Pcabotageref22_teller_tells_0, i64_sub, ← eh3, e5, fillL, repeatL, g05, ← eh6, g06]
        | succ m ihm =>
          intro i h1 hi hf hall
          have hil : i < (outs es a).length := by omega
          have hfn := hf.next
          have htk : (outs es a).take (i + 1) = (outs es a).take i ++ [(outs es a)[i]] := by rw [List.take_add_one, List.getElem?_eq_getElem hil]; rfl
          have hxg : (outs es a)[i]? = some (outs es a)[i] := List.getElem?_eq_getElem hil
          have hxo := mem_outs.1 (List.getElem_mem hil)
          have gpt1 := (hf.get _ (by omega)).trans gpt2
          have g01 := (hf.get _ (by omega)).trans g0
          have hr1 := hR h1 ((hf0.trans hf2.D).trans hf.D)
          obtain ⟨lv, l1, l2⟩ := hr1.lst a ha
          have hlv := l2.slvM
          obtain ⟨b1, o1, cs1, e1, hv1, hb1, hg1, ht1⟩ := hr1.rl.index (i := a) (r := [lv]) (by rw [List.getElem?_map, l1]; rfl)
          obtain ⟨b2, o2, cs2, e2, hv2, hb2, hg2, ht2⟩ := l2.index (i := i) (r := edL (outs es a)[i]) (by simp [hil])
          have hfind : toldR (rN es N k) es (outs es a)[i] b (v - 1) = true → firstR (rN es N k) es a b (v - 1) = some (outs es a)[i] := fun ht => find_at hxg hall ht
          generalize (outs es a)[i] = x at *
          obtain ⟨h3, eh3⟩ : ∃ h3, h3 = h1.new (.cells (edL x) 0) := ⟨_, rfl⟩
          have hf3 : Fr h1 h3 := by rw [eh3]; exact .new _ _
          have hn3 : h3.next = h1.next + 1 := by rw [eh3]; simp
          have g93 : h3.get h1.next = some (.cells (edL x) 0) := by rw [eh3]; simp
          have gpt3 := (hf3.get _ (by omega)).trans gpt1
          obtain ⟨h4, e4, hf4⟩ := answerless_ok es hsz N hin tl tr lvs rvs (RZ es N k) x hxo.1 b hb (v - 1) h3 (hr1.fr hf3)
          rw [ans_told' es N k x b (v - 1) (by omega)] at e4
          have hfn4 := hf4.next
          have gpt4 := (hf4.get _ (by omega)).trans gpt3
          rw [s_Pcabotageref22_teller_tells_1]
          cases ht : toldR (rN es N k) es x b (v - 1) with
          | false =>
            rw [ht] at e4
            have := ihm (i + 1) h4 (by omega) ((hf.trans hf3).trans hf4) (fun y hy => by
              rw [htk] at hy
              rcases List.mem_append.1 hy with hy | hy
              · exact hall y hy
              · rw [List.mem_singleton] at hy; subst hy; exact ht)
            refine OkV.eq (this.lp (l_Pcabotageref22_teller_tells_1 F _ _ _ _ _ _ _)) ?_
            simp (disch := first | omega | (simp only [new_next, put_next]; done) | (simp only [new_next, put_next]; omega)) [↓k2_val, ↓br_true, ↓br_false, vNil_eq, gpt1, htlv.one, htlv.take1, hv1, hg1, ht1, hlv.one, hlv.len, hil, hv2, hg2, ht2, ← eh3, gpt3, htrv.one, htrv.take1, g93, i64_sub, e4, s_Pcabotageref22_teller_tells_2, i64_add]
          | true =>
            rw [ht] at e4
            have hx := hfind ht
            obtain ⟨h5, eh5⟩ : ∃ h5, h5 = (h4.put pt (.cells (rtL tl tr (L - 2)) 0)).new (.cells (fmL 3 0 (.slice none 0 0)) 0) := ⟨_, rfl⟩
            have hf5 : FrD (fun j => j = pt) h4 h5 := by rw [eh5]; exact ((FrD.refl (fun j => j = pt) _).put (.inr rfl) _).new _
            have hn5 : h5.next = h4.next + 1 := by rw [eh5]; simp
            have gpt5 : h5.get pt = some (.cells (rtL tl tr (L - 2)) 0) := by rw [eh5, get_new_ne (by simp; omega), get_put_eq rfl]
            have g105 : h5.get h4.next = some (.cells (fmL 3 0 (.slice none 0 0)) 0) := by rw [eh5]; simp
            have g95 : h5.get h1.next = some (.cells (edL x) 0) := by rw [hf5.get _ (by omega) (by omega), hf4.get _ (by omega)]; exact g93
            have g05 : h5.get q = some (.cells (fmL 0 0 (.slice none 0 0)) 0) := by rw [hf5.get _ (by omega) (by omega), hf4.get _ (by omega), hf3.get _ (by omega)]; exact g01
            have hX0 : FrD (fun j => j = pt) h0 h5 := ((((hf0.trans hf2.D).trans hf.D).trans hf3.D).trans hf4.D).trans hf5
            have h45 := tells4 es hsz N k hin tl tr lvs rvs pt h0 hR hpt n ih x hxo.1 b hb (fun t hh => hok.can hv hx hh) q h1.next h4.next h5 hX0 g95 (by omega) (by omega) (by omega) (by omega) (by omega) (L - 2) (by omega) (P := P) (fun h' w rows ob fs L' r1 r2 r3 r4 r5 r6 r7 r8 => by
              have hfn' := r1.next
              have g0' := (r1.get _ (by omega) (by omega)).trans g05
              have g9' := (r1.get _ (by omega) (by omega)).trans g95
              have hwv := r3.slv
              obtain ⟨h9, eh9⟩ : ∃ h9, h9 = (h'.new (.cells (fmL 3 0 w) 0)).put q (.cells (fmL 4 x.2.2 (.slice (some ⟨h'.next, 0, none⟩) 1 1)) 0) := ⟨_, rfl⟩
              have hf9 : FrD (fun j => j = q) h' h9 := by rw [eh9]; exact ((FrD.refl (fun j => j = q) _).new _).put (.inr rfl) _
              have hn9 : h9.next = h'.next + 1 := by rw [eh9]; simp
              have g09 : h9.get q = some (.cells (fmL 4 x.2.2 (.slice (some ⟨h'.next, 0, none⟩) 1 1)) 0) := by rw [eh9, get_put_eq rfl]
              have gn9 : h9.get h'.next = some (.cells (fmL 3 0 w) 0) := by rw [eh9, get_put_ne' (by omega)]; simp
              have hfr9 : FrD (fun j => j = pt) h h9 := ⟨by omega, fun i hi hd => by
                rw [hf9.get _ (by omega) (by omega), r1.get _ (by omega) (by omega), hf5.get _ (by omega) hd, hf4.get _ (by omega), hf3.get _ (by omega), hf.get _ (by omega)]; exact hf2.get _ hi⟩
              have hand : FV (fun q => h.next ≤ q) h9 (.mk 3 0 fs) (fmL 3 0 w) := by
                unfold FV
                refine ⟨w, rows, rfl, (r3.row (by omega)).frD hf9 (fun b o n c e hd => by have := r4 _ (r3.block e); omega), fun b o n c e => by have := r4 _ (r3.block e); omega, by omega, ?_⟩
                exact FVs.mono (fun b hb h => by omega) (FVs.frD hf9 (fun b hb h hd => by omega) r6)
              refine OkV.eq (OkV.val (v := .agg ⟨fmL 4 x.2.2 (.slice (some ⟨h'.next, 0, none⟩) 1 1)⟩) (h := h9) (by
                rw [hPd]; refine ⟨_, rfl, ?_⟩
                rw [hQd]
                refine ⟨.mk 4 x.2.2 [.mk 3 0 fs], L', hfr9, (hf9.get _ (by omega) (by omega)).trans r7, FV.one hand gn9 (by omega) (by omega), ?_⟩
                rw [TF_can hv hx]
                simp only [sz, szs]
                rcases r8 with ⟨d1, d2, d3⟩ | ⟨d1, d2, d3⟩
                · exact .inl ⟨by omega, by omega, by rw [d3]⟩
                · exact .inr ⟨by omega, d2, d3⟩)) ?_
              rw [s_Pcabotageref22_teller_tells_3]
              simp (disch := first | omega | (simp only [new_next, put_next]; done) | (simp only [new_next, put_next]; omega)) [↓k2_val, ↓br_true, ↓br_false, g9', r2, hwv.one, hwv.take, hwv.clean, fillL, repeatL, g0', ← eh9, g09]) (outs es b).length 0 h5 (.slice none 0 0) [] none [] (L - 2) (by omega) (.refl _ _) g105 .nil (by simp) (by simp) (by unfold FVs; rfl) gpt5 (by
                have : TS es b x.2.2 0 = [] := rfl
                rw [this]
                simp only [List.map_nil, szs]
                by_cases c : 0 ≤ L - 2
                · exact .inl ⟨by omega, by omega, trivial⟩
                · exact .inr ⟨by omega, by omega, by omega⟩)
            refine OkV.eq (h45.lp (l_Pcabotageref22_teller_tells_4 F _ _ _ _ _ _ _)) ?_
            simp (disch := first | omega | (simp only [new_next, put_next]; done) | (simp only [new_next, put_next]; omega)) [↓k2_val, ↓br_true, ↓br_false, vNil_eq, gpt1, htlv.one, htlv.take1, hv1, hg1, ht1, hlv.one, hlv.len, hil, hv2, hg2, ht2, ← eh3, gpt3, htrv.one, htrv.take1, g93, i64_sub, e4, gpt4, fillL, ← eh5]
      have := loop (outs es a).length 0 h2 (by omega) (.refl _) (by simp)
      refine OkV.eq (this.lp (l_Pcabotageref22_teller_tells_1 F _ _ _ _ _ _ _)) ?_
      simp (disch := first | omega | (simp only [new_next, put_next]; done) | (simp only [new_next, put_next]; omega)) [↓k2_val, ↓br_true, ↓br_false, ← eq, ← eh2, vNil_eq, gpt2, hL, htrv.one, htrv.take1, hv3', hg3, ht3, m2, rq, hb]
end Go.Ideal.J
set_option linter.unusedSimpArgs false
set_option linter.unusedVariables false
set_option maxRecDepth 10000
set_option maxHeartbeats 2000000
namespace Go.Ideal.J
open Go Go.Ideal
theorem rtl1 (es : List Ed) (hsz : es.length ≤ 1000) (N : Nat) (hN : N ≤ 200) (pg pt : Nat) (lb : Int) (sl tr : Value) (htr : SlV tr N) (t1 t2 t6 : Value) (hA : H) (hrow : Row hA 3 sl (es.map edL)) (hslp : ∀ b o n c, sl = .slice (some ⟨b, o, none⟩) n c → b ≠ pt) (hgg : hA.get pg = some (.cells (gL (N : Int) lb sl) 0)) (hpg : pg < hA.next) (hpt : pt < hA.next) (hpp : pg ≠ pt) {P : Value → H → Prop}
    (hP : ∀ (h' : H) (tl : Value) (lvs : List Value) (ob : Option Nat), FrD (fun j => j = pt) hA h' → h'.get pt = some (.cells (rtL tl tr 3000) 0) → Grow h' 1 tl (lvs.map fun v => [v]) ob → (∀ q, ob = some q → hA.next ≤ q) → (∀ a : Nat, a < N → ∃ lv, lvs[a]? = some lv ∧ Row h' 3 lv ((outs es a).map edL) ∧ ∀ b o n c, lv = .slice (some ⟨b, o, none⟩) n c → hA.next ≤ b) → OkV (sh (rI F) c_cabotageref22_Tells_0 (K_cabotageref22_Tells_0 (rI F)) (setL [p1, p2, p6, p8] [t1, t2, t6, ptr pt]) h') P) :
    ∀ (k i : Nat) (h : H) (tl : Value) (lvs : List Value) (ob : Option Nat), i + k = N → FrD (fun j => j = pt) hA h → h.get pt = some (.cells (rtL tl tr 3000) 0) → Grow h 1 tl (lvs.map fun v => [v]) ob → (∀ q, ob = some q → hA.next ≤ q) → lvs.length = i → (∀ a : Nat, a < i → ∃ lv, lvs[a]? = some lv ∧ Row h 3 lv ((outs es a).map edL) ∧ ∀ b o n c, lv = .slice (some ⟨b, o, none⟩) n c → hA.next ≤ b ∧ ob ≠ some b) →
    OkV (sh (rI F) c_cabotageref22_Tells_1 (K_cabotageref22_Tells_1 (rI F)) (setL [p1, p2, p3, p6, p8, p9] [t1, t2, ptr pg, t6, ptr pt, .int .i64 (i : Int)]) h) P := by
  intro k
  induction k with
  | zero =>
    intro i h tl lvs ob hi hf gpt hg hob hll hls
    have e : i = N := by omega
    subst e
    have gpg := (hf.get _ hpg hpp).trans hgg
    have hv := hrow.slvM
    rw [s_cabotageref22_Tells_1]
    refine OkV.eq (hP h tl lvs ob hf gpt hg hob (fun a ha => by obtain ⟨lv, h1, h2, h3⟩ := hls a ha; exact ⟨lv, h1, h2, fun b o n c e => (h3 b o n c e).1⟩)) ?_
    simp (disch := first | omega | (simp only [new_next, put_next]; done) | (simp only [new_next, put_next]; omega)) [↓k2_val, ↓br_true, ↓br_false, gpg, hv.take, hv.one, hv.len]
  | succ k ih =>
    intro i h tl lvs ob hi hf gpt hg hob hll hls
    have hiN : i < N := by omega
    have gpg := (hf.get _ hpg hpp).trans hgg
    have hv := hrow.slvM
    have hfn := hf.next
    have htl := hg.slv
    obtain ⟨lv, h1, es1, ov, hf1, hgl, hov⟩ : ∃ lv h1, callI F (fnV n_cabotageref22_steps) [gV (N : Int) lb sl, .int .i64 (i : Int)] h = some (lv, h1) ∧ ∃ ov, Fr h h1 ∧ Grow h1 3 lv ((outs es i).map edL) ov ∧ (∀ b, ov = some b → h.next ≤ b) := by
      obtain ⟨v, h', e, q⟩ := rsteps_ok es hsz i (N : Int) lb sl h (hrow.frD hf (fun b o n c e => hslp b o n c e)) (P := fun v h' => ∃ ov, Fr h h' ∧ Grow h' 3 v ((outs es i).map edL) ov ∧ (∀ b, ov = some b → h.next ≤ b)) (fun h' v ob q1 q2 q3 => ⟨ob, q1, q2, q3⟩)
      exact ⟨v, h', e, q⟩
    have hfn1 := hf1.next
    have gpt1 := (hf1.get _ (by omega)).trans gpt
    obtain ⟨h2, eh2⟩ : ∃ h2, h2 = h1.new (.cells [lv] 0) := ⟨_, rfl⟩
    have hf2 : Fr h h2 := by rw [eh2]; exact hf1.newR _
    have hn2 : h2.next = h1.next + 1 := by rw [eh2]; simp
    have gpt2 := (hf2.get _ (by omega)).trans gpt
    obtain ⟨bv, cv, elv⟩ := hgl.len
    have hcl : cellsL lv = [lv] := by rw [elv]; rfl
    obtain ⟨h3, tl', ea, hg3, hn3, hf3⟩ := append_one (h := h2) (sz := 1) (bytes := 24) (r := [lv]) (b := h1.next) (e := 0) (by omega) (by decide) (hg.fr hf2) (by rw [eh2]; simp) rfl (by rw [elv]; rfl) (by rw [elv]; rfl) (by rw [List.length_map, hll]; omega)
    have gpt3 := (hf3.get _ (by omega) (fun e => by have := hob _ e; omega)).trans gpt2
    have htl' := hg3.slv
    obtain ⟨h4, eh4⟩ : ∃ h4, h4 = h3.put pt (.cells (rtL tl' tr 3000) 0) := ⟨_, rfl⟩
    have hf4 : FrD (fun j => j = pt) h3 h4 := by rw [eh4]; exact (FrD.refl (fun j => j = pt) _).put (.inr rfl) _
    have hn4 : h4.next = h3.next := by rw [eh4]; simp
    have gpt4 : h4.get pt = some (.cells (rtL tl' tr 3000) 0) := by rw [eh4, get_put_eq rfl]
    have hobl : ∀ b, ob = some b → b < h.next := fun b e => by subst e; exact hg.lt
    have hfD : FrD (fun j => j = pt ∨ ob = some j) h h4 := (hf2.D.trans (hf3.mono (fun _ _ h => .inr h))).trans (hf4.mono (fun _ _ h => .inl h))
    have hfD1 : FrD (fun j => j = pt ∨ ob = some j) h1 h4 := (((Fr.new h1 (.cells [lv] 0)).D (D := fun j => j = pt ∨ ob = some j)).trans (by rw [← eh2]; exact hf3.mono (fun _ _ h => .inr h))).trans (hf4.mono (fun _ _ h => .inl h))
    have hfA : FrD (fun j => j = pt) hA h4 := ⟨by omega, fun j hj hd => by
      rw [hfD.get _ (by omega) (fun e => e.elim hd (fun e => by have := hob _ e; omega))]; exact hf.get _ hj hd⟩
    have := ih (i + 1) h4 tl' (lvs ++ [lv]) (some h2.next) (by omega) hfA gpt4 (by rw [List.map_append]; exact hg3.frD hf4 (fun b e => by cases e; omega)) (fun q e => by cases e; omega) (by simp [hll]) (fun a ha => by
      by_cases e : a = i
      · subst e
        refine ⟨lv, by rw [List.getElem?_append_right (by omega), hll]; simp, (hgl.row (by omega)).frD hfD1 (fun b o n c e hd => ?_), fun b o n c e => ?_⟩
        · have := hov _ (hgl.block e)
          rcases hd with hd | hd
          · omega
          · have := hobl _ hd; omega
        · have := hov _ (hgl.block e)
          have hlt := (hgl.row (by omega)).lt e
          exact ⟨by omega, fun e2 => by cases e2; omega⟩
      · obtain ⟨lv', q1, q2, q3⟩ := hls a (by omega)
        refine ⟨lv', by rw [List.getElem?_append_left (by omega)]; exact q1, q2.frD hfD (fun b o n c e hd => ?_), fun b o n c e => ?_⟩
        · have := q3 b o n c e
          rcases hd with hd | hd
          · omega
          · exact this.2 hd
        · have := q3 b o n c e
          have hlt := q2.lt e
          exact ⟨this.1, fun e2 => by cases e2; omega⟩)
    rw [s_cabotageref22_Tells_1]
    refine OkV.eq (this.lp (l_cabotageref22_Tells_1 F _ _ _ _ _ _ _)) ?_
    simp (disch := first | omega | (simp only [new_next, put_next]; done) | (simp only [new_next, put_next]; omega)) [↓k2_val, ↓br_true, ↓br_false, gpg, hiN, hv.take, hv.one, hv.len, hv.clean, hv.eqc, es1, vNil_eq, gpt, gpt1, htl.one, htl.take1, htl.eq, hcl, fillL, repeatL, ← eh2, ea, gpt3, htl'.cells, htl'.cell, ← eh4, i64_add]
theorem rTells_ok (st lb : Int) (es : List Ed) (sl : Value) (a b : Int) (h : H) (hrow : Row h 3 sl (es.map edL)) : Ret F (fnV n_cabotageref22_Tells) [gV st lb sl, .int .i64 a, .int .i64 b] h fun v h' => Fr h h' ∧ ∃ r f e, v = pairV (.agg ⟨r⟩) (.int .i64 e) ∧ FV (fun _ => True) h' f r ∧ TA st lb es a b f e := by
  refine Ret.fn F_cabotageref22_Tells 3 (by decide) ?_
  obtain ⟨P, hPd⟩ : ∃ P : Value → H → Prop, P = fun v h' => Fr h h' ∧ ∃ r f e, v = pairV (.agg ⟨r⟩) (.int .i64 e) ∧ FV (fun _ => True) h' f r ∧ TA st lb es a b f e := ⟨_, rfl⟩
  rw [← hPd]
  rw [s_cabotageref22_Tells]
  have hsv := hrow.slvM
  obtain ⟨q, eq⟩ : ∃ q, q = h.next := ⟨_, rfl⟩
  obtain ⟨h2, eh2⟩ : ∃ h2, h2 = (h.new (.cells (gL st lb sl) 0)).new (.cells (fmL 0 0 (.slice none 0 0)) 0) := ⟨_, rfl⟩
  have hf2 : Fr h h2 := by rw [eh2]; exact (Fr.new _ _).newR _
  have hn2 : h2.next = q + 2 := by rw [eh2, eq]; simp
  have g0 : h2.get q = some (.cells (gL st lb sl) 0) := by rw [eh2, eq]; simp (disch := omega)
  have g1 : h2.get (q + 1) = some (.cells (fmL 0 0 (.slice none 0 0)) 0) := by rw [eh2, eq]; simp (disch := omega)
  obtain ⟨h3, e3, hf3⟩ := refCheck_ok st lb sl es h2 (hrow.fr hf2)
  have hfn3 := hf3.next
  have g03 := (hf3.get _ (by omega)).trans g0
  have g13 := (hf3.get _ (by omega)).trans g1
  have zero : ∀ (h' : H) (e : Int), Fr h2 h' → TA st lb es a b zF e → OkV (some (Out.val (pairV (.agg ⟨fmL 0 0 (.slice none 0 0)⟩) (.int .i64 e)) (h'.put (q + 1) (.cells (fmL 0 0 (.slice none 0 0)) 0)))) P := by
    intro h' e hf' hT
    refine OkV.val ?_
    rw [hPd]
    refine ⟨⟨by simp; have := hf2.next; have := hf'.next; omega, fun i hi => ?_⟩, _, zF, e, rfl, FV.zero _ _, hT⟩
    rw [get_put_ne' (by omega), hf'.get _ (by omega)]; exact hf2.get _ hi
  cases hc : chk st lb es with
  | false =>
    rw [hc] at e3
    refine OkV.eq (zero h3 2 hf3 (.inl ⟨by simp [isSt, hc], rfl, rfl⟩)) ?_
    simp (disch := first | omega | (simp only [new_next, put_next]; done) | (simp only [new_next, put_next]; omega)) [↓k2_val, ↓br_true, ↓br_false, hsv.clean, hsv.take, ← eq, ← eh2, g0, g1, e3, erk, g03, g13, fillL]
  | true =>
    rw [hc] at e3
    by_cases ca : 0 ≤ a ∧ a < st ∧ 0 ≤ b ∧ b < st
    · obtain ⟨c1, c2, c3, c4⟩ := ca
      have fm := (chk_iff st lb es).1 hc
      obtain ⟨N, rfl⟩ := Int.eq_ofNat_of_zero_le (show 0 ≤ st by have := fm.st1; omega)
      obtain ⟨a, rfl⟩ := Int.eq_ofNat_of_zero_le c1
      obtain ⟨b, rfl⟩ := Int.eq_ofNat_of_zero_le c3
      have hab : (isSt (N : Int) lb es a && isSt (N : Int) lb es b) = true := by simp [isSt, hc]; omega
      have hN := fm.st2
      have hlen := fm.len
      have hrow3 := (hrow.fr hf2).fr hf3
      have haN : a < N := by omega
      have hbN : b < N := by omega
      obtain ⟨tr, h4, e4, k, tlR, lvsR, qs, hf4, hrA⟩ := Rounds_ok es (by omega) N (by omega) fm.inB lb sl h3 hrow3
      have hfn4 := hf4.next
      have g04 := (hf4.get _ (by omega)).trans g03
      have g14 := (hf4.get _ (by omega)).trans g13
      have hst : ((N : Int)).toNat = N := by simp
      have htrv : SlV tr N := by have := hrA.r3.rr.slv; rwa [List.length_map, hrA.r3.len] at this
      obtain ⟨h5, eh5⟩ : ∃ h5, h5 = h4.new (.cells (rtL (.slice none 0 0) tr 3000) 0) := ⟨_, rfl⟩
      have hf5 : Fr h4 h5 := by rw [eh5]; exact .new _ _
      have hn5 : h5.next = h4.next + 1 := by rw [eh5]; simp
      have g05 := (hf5.get _ (by omega)).trans g04
      have g15 := (hf5.get _ (by omega)).trans g14
      have gpt5 : h5.get h4.next = some (.cells (rtL (.slice none 0 0) tr 3000) 0) := by rw [eh5]; simp
      have hr5 := (hrA.r3.fr hf5).two
      obtain ⟨qa, is, m1, m2, m3, m4, m5⟩ := hr5.mat a haN
      obtain ⟨b3, o3, cs3, e3', hv3', hb3, hg3, ht3⟩ := hr5.rr.index (i := a) (r := [slF qa N]) (by rw [List.getElem?_map, m1]; rfl)
      have rq : takeC 1 (dropN b (is.map fun i => Value.int .i64 i)) = some [.int .i64 (RZ es N k a b)] := takeC_at (by rw [List.getElem?_map, m4 b hbN]; rfl) rfl
      cases hr : rN es N k a b with
      | none =>
        have hz : RZ es N k a b = 0 := RZ_zero.2 hr
        rw [hz] at rq
        refine OkV.eq (zero h5 5 ((hf3.trans hf4).trans hf5) (.inr ⟨hab, k, by rw [hst]; exact hrA.fin, .inl ⟨by rw [hst]; exact hr, rfl, rfl⟩⟩)) ?_
        simp (disch := first | omega | (simp only [new_next, put_next]; done) | (simp only [new_next, put_next]; omega)) [↓k2_val, ↓br_true, ↓br_false, hsv.clean, hsv.take, hsv.cells, ← eq, ← eh2, g0, g1, e3, erk, g03, g13, fillL, c2, c4, e4, htrv.cells, ← eh5, vNil_eq, gpt5, htrv.one, htrv.take1, hv3', hg3, ht3, m2, rq, hbN, g15, haN]
      | some v =>
        have hz : RZ es N k a b = v := by unfold RZ; rw [hr]; rfl
        have hvp := rN_pos hr
        have hv0 : ¬ v = 0 := by omega
        rw [hz] at rq
        have hl1 := rtl1 es (by omega) N (by omega) q h4.next lb sl tr htrv (.int .i64 (a : Int)) (.int .i64 (b : Int)) (ptr (q + 1)) h5 ((hrow3.fr hf4).fr hf5) (fun b o n c e => by have := hrow3.lt e; omega) g05 (by omega) (by omega) (by omega) (P := P) (fun h6 tl lvs ob r1 r2 r3 r4 r5 => by
          have hfn6 := r1.next
          have g16 := (r1.get _ (by omega) (by omega)).trans g15
          have hR : ∀ h', FrD (fun j => j = h4.next) h6 h' → RC2 es N h' tl tr lvs (qs.map fun q => slF q N) (RZ es N k) := fun h' hf' => by
            have hfh : Fr h4 h' := hf5.transD (r1.trans hf') (fun i hi hd => by omega)
            have h2' := (hrA.r3.fr hfh).two
            exact {
              rl := (r3.row (by omega)).frD hf' (fun b o n c e hd => by have := r4 _ (r3.block e); omega)
              rr := h2'.rr
              lst := fun a ha => by
                obtain ⟨lv, s1, s2, s3⟩ := r5 a ha
                exact ⟨lv, s1, s2.frD hf' (fun b o n c e hd => by have := s3 b o n c e; omega)⟩
              mat := h2'.mat }
          obtain ⟨h7, r, f, L', e7, hf7, gpt7, hfv7, hL7⟩ := tells_ok es (by omega) N k (by omega) fm.inB tl tr lvs _ h4.next h6 hR (by omega) (2 * k + 1) a b h6 3000 haN hbN (.refl _ _) r2 (by omega) (by omega) (Ok.top hr)
          have hfn7 := hf7.next
          have g17 := (hf7.get _ (by omega) (by omega)).trans g16
          obtain ⟨op, lab, bs, nn, cc, er, hr1, hr2, hr3⟩ := hfv7.cells
          obtain ⟨h8, eh8⟩ : ∃ h8, h8 = h7.new (.cells r 0) := ⟨_, rfl⟩
          have hf8 : Fr h7 h8 := by rw [eh8]; exact .new _ _
          have hn8 : h8.next = h7.next + 1 := by rw [eh8]; simp
          have g18 := (hf8.get _ (by omega)).trans g17
          have gpt8 := (hf8.get _ (by omega)).trans gpt7
          have gr8 : h8.get h7.next = some (.cells r 0) := by rw [eh8]; simp
          have hfr28 : Fr h2 h8 := ⟨by omega, fun i hi => by
            rw [hf8.get _ (by omega), hf7.get _ (by omega) (by omega), r1.get _ (by omega) (by omega), hf5.get _ (by omega), hf4.get _ (by omega)]; exact hf3.get _ hi⟩
          rw [s_cabotageref22_Tells_0]
          rcases hL7 with ⟨d1, d2, d3⟩ | ⟨d1, d2, d3⟩
          · have hLn : ¬ L' < 0 := by omega
            refine OkV.eq (OkV.val (v := pairV (.agg ⟨r⟩) (.int .i64 0)) (h := h8.put (q + 1) (.cells r 0)) (by
              rw [hPd]
              refine ⟨⟨by simp; have := hf2.next; have := hfr28.next; omega, fun i hi => ?_⟩, r, f, 0, rfl, ?_, .inr ⟨hab, k, by rw [hst]; exact hrA.fin, .inr ⟨v, by rw [hst]; exact hr, .inr ⟨by rw [hst]; omega, by rw [hst]; exact d3, rfl⟩⟩⟩⟩
              · have := hf2.next
                rw [get_put_ne' (by omega), hfr28.get _ (by omega)]; exact hf2.get _ hi
              · exact FV.mono (fun _ _ _ => trivial) (FV.frD (D := fun j => j = q + 1) ((hf8.D (D := fun j => j = q + 1)).put (.inr rfl) _) (fun b hb h => by omega) hfv7))) ?_
            subst er
            simp (disch := first | omega | (simp only [new_next, put_next]; done) | (simp only [new_next, put_next]; omega)) [↓k2_val, ↓br_true, ↓br_false, e7, ← eh8, vNil_eq, gpt8, hLn, gr8, g18, fillL]
          · refine OkV.eq (zero h8 3 hfr28 (.inr ⟨hab, k, by rw [hst]; exact hrA.fin, .inr ⟨v, by rw [hst]; exact hr, .inl ⟨by rw [hst]; omega, rfl, rfl⟩⟩⟩)) ?_
            subst er
            simp (disch := first | omega | (simp only [new_next, put_next]; done) | (simp only [new_next, put_next]; omega)) [↓k2_val, ↓br_true, ↓br_false, e7, ← eh8, vNil_eq, gpt8, d3, gr8, g18, fillL]) N 0 h5 (.slice none 0 0) [] none (by omega) (.refl _ _) gpt5 .nil (by simp) rfl (fun a ha => by omega)
        refine OkV.eq (hl1.lp (l_cabotageref22_Tells_1 F _ _ _ _ _ _ _)) ?_
        simp (disch := first | omega | (simp only [new_next, put_next]; done) | (simp only [new_next, put_next]; omega)) [↓k2_val, ↓br_true, ↓br_false, hsv.clean, hsv.take, hsv.cells, ← eq, ← eh2, g0, g1, e3, erk, g03, g13, fillL, c2, c4, e4, htrv.cells, ← eh5, vNil_eq, gpt5, htrv.one, htrv.take1, hv3', hg3, ht3, m2, rq, hbN, g15, haN, hv0]
    · have hz := zero h3 2 hf3 (.inl ⟨by simp [isSt, hc]; omega, rfl, rfl⟩)
      by_cases c1 : a < 0
      · refine OkV.eq hz ?_
        simp (disch := first | omega | (simp only [new_next, put_next]; done) | (simp only [new_next, put_next]; omega)) [↓k2_val, ↓br_true, ↓br_false, hsv.clean, hsv.take, ← eq, ← eh2, g0, g1, e3, erk, g03, g13, fillL, c1]
      · by_cases c2 : st ≤ a
        · refine OkV.eq hz ?_
          simp (disch := first | omega | (simp only [new_next, put_next]; done) | (simp only [new_next, put_next]; omega)) [↓k2_val, ↓br_true, ↓br_false, hsv.clean, hsv.take, ← eq, ← eh2, g0, g1, e3, erk, g03, g13, fillL, c1, c2]
        · by_cases c3 : b < 0
          · refine OkV.eq hz ?_
            simp (disch := first | omega | (simp only [new_next, put_next]; done) | (simp only [new_next, put_next]; omega)) [↓k2_val, ↓br_true, ↓br_false, hsv.clean, hsv.take, ← eq, ← eh2, g0, g1, e3, erk, g03, g13, fillL, c1, c2, c3]
          · have c4 : st ≤ b := by omega
            refine OkV.eq hz ?_
            simp (disch := first | omega | (simp only [new_next, put_next]; done) | (simp only [new_next, put_next]; omega)) [↓k2_val, ↓br_true, ↓br_false, hsv.clean, hsv.take, ← eq, ← eh2, g0, g1, e3, erk, g03, g13, fillL, c1, c2, c3, c4]
end Go.Ideal.J
set_option linter.unusedSimpArgs false
set_option linter.unusedVariables false
set_option maxRecDepth 10000
set_option maxHeartbeats 2000000
namespace Go.Ideal.J
open Go Go.Ideal
theorem tells_law (st lb : Int) (es : List Ed) (sl : Value) (a b : Int) (h : H) (hrow : Row h 3 sl (es.map edL)) : Ret F (fnV n_cabotagelaw22_JudgeTells) [gV st lb sl, .int .i64 a, .int .i64 b] h fun v h' => v = .bool true ∧ Fr h h' := by
  refine Ret.fn F_cabotagelaw22_JudgeTells 3 (by decide) ?_
  rw [s_cabotagelaw22_JudgeTells]
  have hv := hrow.slvM
  obtain ⟨q, eq⟩ : ∃ q, q = h.next := ⟨_, rfl⟩
  obtain ⟨h1, eh1⟩ : ∃ h1, h1 = h.new (.cells (gL st lb sl) 0) := ⟨_, rfl⟩
  have hf1 : Fr h h1 := by rw [eh1]; exact .new _ _
  have hn1 : h1.next = q + 1 := by rw [eh1, eq]; simp
  have g0 : h1.get q = some (.cells (gL st lb sl) 0) := by rw [eh1, eq]; simp
  obtain ⟨v2, h2, e2, hf2, r, f, e, rfl, hfv, hT⟩ := jTells_ok st lb es sl a b h1 (hrow.fr hf1)
  have hfn2 := hf2.next
  have g02 := (hf2.get _ (by omega)).trans g0
  obtain ⟨h3, eh3⟩ : ∃ h3, h3 = h2.new (.cells r 0) := ⟨_, rfl⟩
  have hf3 : Fr h2 h3 := by rw [eh3]; exact .new _ _
  have hn3 : h3.next = h2.next + 1 := by rw [eh3]; simp
  have g03 := (hf3.get _ (by omega)).trans g02
  have gr3 : h3.get h2.next = some (.cells r 0) := by rw [eh3]; simp
  obtain ⟨v4, h4, e4, hf4, r', f', e', rfl, hfv', hT'⟩ := rTells_ok st lb es sl a b h3 (((hrow.fr hf1).fr hf2).fr hf3)
  have hfn4 := hf4.next
  obtain ⟨rfl, rfl⟩ := TA_fun hT hT'
  have gr4 := (hf4.get _ (by omega)).trans gr3
  obtain ⟨h5, eh5⟩ : ∃ h5, h5 = h4.new (.cells r' 0) := ⟨_, rfl⟩
  have hf5 : Fr h4 h5 := by rw [eh5]; exact .new _ _
  have hn5 : h5.next = h4.next + 1 := by rw [eh5]; simp
  have gr5 := (hf5.get _ (by omega)).trans gr4
  have gr5' : h5.get h4.next = some (.cells r' 0) := by rw [eh5]; simp
  obtain ⟨h6, e6, hf6⟩ := sameF_ok (sz f) f (Nat.le_refl _) h5 r r' _ _ (FV.fr hf5 (FV.fr hf4 (FV.fr hf3 hfv))) (FV.fr hf5 hfv')
  obtain ⟨op, lab, bs, nn, cc, er, hr1, hr2, hr3⟩ := hfv.cells
  obtain ⟨op', lab', bs', nn', cc', er', hr1', hr2', hr3'⟩ := hfv'.cells
  refine OkV.eq (OkV.val (v := .bool true) (h := h6) ⟨rfl, ((((hf1.trans hf2).trans hf3).trans hf4).trans hf5).trans hf6⟩) ?_
  subst er er'
  simp (disch := first | omega | (simp only [new_next, put_next]; done) | (simp only [new_next, put_next]; omega)) [↓k2_val, ↓br_true, ↓br_false, hv.clean, hv.take, ← eq, ← eh1, g0, e2, ← eh3, g03, e4, ← eh5, gr5, gr5', e6, known_ok']
end Go.Ideal.J
set_option maxRecDepth 100000
set_option maxHeartbeats 4000000
set_option linter.unusedVariables false
namespace Go.Proofs.Ytanaepeilcjhcaa
open Go.ChangeShapes Go.WideShapes Go.ChangeAt Go.RowKit Go.Ideal Go.Ideal.J
theorem Try.own : ownKnob Try.prog.godebug = none := by kernel_rfl
theorem Try.laidOut : laidOutB Try.prog = true := by kernel_rfl
/-- a graph that came in. -/
theorem graph_in {H : Type} {enc : TypeId × Value → H} {W : World} {base b : Nat} {r : Reach} {spare : Nat → Bool} {held : Bool} {v : Value} {d : DataW H} {ps : List MemPlace} (hval : Value.okWide Try.prog W r base 24 v) (hd : DataW.Trod enc Try.prog W b spare held 24 v d ps) :
    ∃ (st lb : Int) (sl : Value) (es : List Ed), v = gV st lb sl ∧ okArg W v = true ∧ Row (impH W) 3 sl (es.map edL) := by
  unfold Value.okWide at hval
  rw [Try.underlying24] at hval
  obtain ⟨cs, rfl, hsz, ts, hts, _, hcell⟩ := hval
  obtain ⟨fuel, hd⟩ := hd
  have hcs : (Value.agg cs).cells.toList = cs.toList := rfl
  rw [hcs] at hd
  obtain ⟨xs, n, _, _, hl, hlen, hf⟩ := DataW.trod_struct Try.underlying24 hd
  have h3 : Try.prog.cellsOf 24 = 3 := by kernel_rfl
  have hi1 : Try.prog.cellsOf 3 = 1 := by kernel_rfl
  have hs1 : Try.prog.cellsOf 22 = 1 := by kernel_rfl
  have hE3 : Try.prog.cellsOf 58 = 3 := by kernel_rfl
  have hty : Try.prog.cellTypes Try.prog.depth 24 = some [3, 3, 22] := by kernel_rfl
  rw [hty] at hts
  cases hts
  rw [h3] at hl
  obtain ⟨c0, c1, c2, hc⟩ : ∃ c0 c1 c2, cs.toList = [c0, c1, c2] := by
    match cs.toList, hl with
    | [c0, c1, c2], _ => exact ⟨c0, c1, c2, rfl⟩
  rw [hc] at hf
  have e0 : DataW.trod enc Try.prog W b spare held n 3 (([c0, c1, c2].drop 0).take (Try.prog.cellsOf 3)) = xs[0]? := hf 0 _ rfl
  have e1 : DataW.trod enc Try.prog W b spare held n 3 (([c0, c1, c2].drop 1).take (Try.prog.cellsOf 3)) = xs[1]? := hf 1 _ rfl
  have e2 : DataW.trod enc Try.prog W b spare held n 22 (([c0, c1, c2].drop 2).take (Try.prog.cellsOf 22)) = xs[2]? := hf 2 _ rfl
  rw [hi1] at e0 e1
  rw [hs1] at e2
  obtain ⟨y0, y1, y2, rfl⟩ : ∃ y0 y1 y2, xs = [y0, y1, y2] := by
    match xs, hlen with
    | [y0, y1, y2], _ => exact ⟨y0, y1, y2, rfl⟩
  obtain ⟨st, rfl, _⟩ := int_of_trod Try.underlying3 (show DataW.trod enc Try.prog W b spare held n 3 [c0] = some y0 from e0)
  obtain ⟨lb, rfl, _⟩ := int_of_trod Try.underlying3 (show DataW.trod enc Try.prog W b spare held n 3 [c1] = some y1 from e1)
  have hcs' : cs = #[.int .i64 st, .int .i64 lb, c2] := by rw [← Array.toList_inj, hc]
  subst hcs'
  obtain ⟨u, hu, hok⟩ := hcell 2 c2 rfl
  cases hu
  obtain ⟨hokv, es, hrow⟩ := row_of_trod (α := Ed) (f := edL) (sz := 3) Try.underlying22 hE3 (by omega) (fun _ => rfl) (fun _ => rfl) (fun a v hv => by
      simp only [List.mem_cons, List.not_mem_nil, or_false] at hv
      rcases hv with rfl | rfl | rfl <;> rfl)
    (fun fuel cs y h => by
      obtain ⟨p, q, s, rfl⟩ := ints3_of_trod Try.underlying58 ⟨rfl, rfl⟩ ⟨rfl, rfl⟩ ⟨rfl, rfl⟩ Try.underlying3 Try.underlying3 Try.underlying3 hi1 hi1 hi1 hE3 h
      exact ⟨(p, q, s), rfl⟩) (slice_ok Try.underlying22 hok) (show DataW.trod enc Try.prog W b spare held n 22 [c2] = some y2 from e2)
  refine ⟨st, lb, c2, es, rfl, ?_, hrow⟩
  show ([.int .i64 st, .int .i64 lb, c2] : List Value).all (okV W) = true
  simp only [List.all_cons, List.all_nil, hokv, Bool.and_true]
  rfl

end Go.Proofs.Ytanaepeilcjhcaa
/- JudgeTells: for any graph and any two states the law answers true: both find the same formula, or none for the same reason. No condition. -/
set_option maxRecDepth 100000
set_option maxHeartbeats 4000000
set_option linter.unusedVariables false
namespace Go.Proofs.Ytanaepeilcjhcaa
open Go.ChangeShapes Go.WideShapes Go.ChangeAt Go.RowKit Go.Ideal Go.Ideal.J
theorem tells_calls {W : World} {v : Value} {st lb a b : Int} {sl : Value} {es : List Ed} (hv : v = gV st lb sl) (ho : okArg W v = true) (hrow : Row (impH W) 3 sl (es.map edL)) : Calls Try.prog 4 #[v, .int .i64 a, .int .i64 b] W fun e W' => e = .returned (.bool true) ∧ Same W W' := by
  obtain ⟨u, h', he, rfl, hf⟩ := tells_law st lb es sl a b (impH W) hrow
  subst hv
  exact calls_import Go.Ideal.X.hmix okFs (fun v hv => by
    simp only [List.mem_cons, List.not_mem_nil, or_false] at hv
    rcases hv with rfl | rfl | rfl
    · exact ho
    · rfl
    · rfl) he (fun i hi => hf.get i hi)
theorem int_in {H : Type} {enc : TypeId × Value → H} {W : World} {base b : Nat} {r : Reach} {spare : Nat → Bool} {held : Bool} {v : Value} {d : DataW H} {ps : List MemPlace} (hval : Value.okWide Try.prog W r base 3 v) (hd : DataW.Trod enc Try.prog W b spare held 3 v d ps) : ∃ n, v = .int .i64 n := by
  unfold Value.okWide at hval
  rw [Try.underlying3] at hval
  have h : Cell.okWide Try.prog W r base 3 v := hval
  unfold Cell.okWide at h
  rw [Try.underlying3] at h
  have h : Cell.ok Try.prog W r base 3 v := h
  unfold Cell.ok at h
  rw [Try.underlying3] at h
  cases v <;> first | exact h.elim | skip
  obtain ⟨h1, _⟩ := h
  exact ⟨_, by rw [h1]⟩
theorem tells_lifted (os : Os) (started : os.Started) (H : Type) (enc : TypeId × Value → H) :
    ReturnsInHanded {} Try.checked os 4 .any (Rows.judgeTellsSpec.pre6 enc Try.prog Try.f4 Rows.judgeTellsRow.domain false) (Rows.judgeTellsSpec.post enc Try.prog Try.f4 false true false false) := by
  refine returnsInHanded_of_change (C := Try.checked) Try.own started (by kernel_rfl) Try.func4
    (ChangeSpec.witness6 (enc := enc) (C := Try.checked) false ⟨#[], #[.agg #[.int .i64 0, .int .i64 0, .slice none 0 0], .int .i64 0, .int .i64 0], []⟩ 8 (by kernel_rfl) (by kernel_rfl) (by kernel_rfl) (by kernel_rfl)) ?_
  intro W base args ds gs before hval0 hW hcnd _
  have hval : ∀ (j : Nat) t v, Try.f4.params[j]? = some t → args[j]? = some v → Value.okWide Try.prog W .any base t v := hval0
  have hW' := hW
  obtain ⟨p, q, hA0, hV, rfl, hfz, hnd⟩ := hW
  have hA : DataW.TrodAll enc Try.prog W 0 (fun _ => true) true Try.f4.params.toList args.toList ds p := hA0
  rw [Try.params4] at hA hval
  obtain ⟨v0, v1, v2, d0, d1, d2, q0, q1, q2, rfl, rfl, rfl, h0, h1, h2⟩ := trodAll_three hA
  obtain ⟨st, lb, sl, es, hv, ho, hrow⟩ := graph_in (hval 0 24 v0 rfl rfl) h0
  obtain ⟨a, rfl⟩ := int_in (hval 1 3 v1 rfl rfl) h1
  obtain ⟨b, rfl⟩ := int_in (hval 2 3 v2 rfl rfl) h2
  obtain ⟨rfl, rfl⟩ := trodVars_none hV
  refine (tells_calls hv ho hrow).mono fun e W' ⟨he, hs⟩ => ⟨_, he, ?_⟩
  exact law_post hW' rfl rfl (t := 4) (by kernel_rfl) Try.underlying4 hs Try.laidOut (fun t ht => by
    rw [Try.params4] at ht
    simp only [List.mem_cons, List.not_mem_nil, or_false] at ht
    rcases ht with rfl | rfl | rfl <;> exact ⟨by kernel_rfl, of_decide_eq_true (by kernel_rfl)⟩)
theorem tells_holds : Rows.JudgeTellsSaid :=
  OpenClaim.holds_of_wide 4 Try.f4 rfl rfl rfl rfl rfl rfl rfl ⟨rfl, rfl, rfl, rfl, rfl⟩ rfl rfl rfl rfl rfl (by kernel_rfl) Try.func4 (by kernel_rfl)
    (of_decide_eq_true (by kernel_rfl)) (by unfold Func.isWrapper; first | (rw [if_pos (by decide +kernel)]; kernel_rfl) | (rw [if_neg (by decide +kernel)]; exact ⟨rfl, rfl⟩))
    (fun os started H enc _ => tells_lifted os started H enc)
end Go.Proofs.Ytanaepeilcjhcaa
