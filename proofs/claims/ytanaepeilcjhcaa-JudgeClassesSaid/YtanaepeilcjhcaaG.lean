/- JudgeClasses: for every graph the law answers true: the program and the reference give each state the same class, and the same least graph. No condition. -/
import Derived.Test.YtanaepeilcjhcaaF
set_option linter.unusedSimpArgs false
set_option linter.unusedVariables false
set_option linter.unusedSectionVars false
set_option maxRecDepth 10000
set_option maxHeartbeats 2000000
namespace Go.Ideal.J
open Go Go.Ideal
def CR (B : Nat → Nat → Bool) (lo n : Nat) (h : H) (ov : Value) : Prop :=
  ∃ ob, Grow h 1 ov ((cls B n).1.map natL) ob ∧ ∀ q, ob = some q → lo ≤ q
section
variable (es : List Ed) (N : Nat) (hN : N ≤ 200) (k n : Nat) (hnN : n < N) (hin : inB (N : Int) es) (hk : fnd (rN es N k) es ((k : Int) + 1) N = []) (lo pg : Nat) (h0 : H) (hlo : lo ≤ h0.next) (tl tr : Value) (lvs rvs : List Value) (hr : RC2 es N h0 tl tr lvs rvs (RZ es N k)) (hrq : ∀ (a q : Nat), rvs[a]? = some (slF q N) → q < lo) (hrl : ∀ b o n c, tr = .slice (some ⟨b, o, none⟩) n c → b < lo) {P : Value → H → Prop}
include hN hnN hlo
theorem rcls6 (c : Nat) (nx : Value) (h : H) (ov : Value) (hf : FrD (fun j => lo ≤ j) h0 h) (hc : CR (alk es N k) lo n h ov) (hcl : (cls (alk es N k) n).1.length = n)
    (hnext : (cls (alk es N k) (n + 1)).1 = (cls (alk es N k) n).1 ++ [c])
    (hP : ∀ h' ov', FrD (fun j => lo ≤ j) h0 h' → CR (alk es N k) lo (n + 1) h' ov' → OkV (sh (rI F) c_g_2 (K_g_2 (rI F)) (setL [p1, p3, p4, p5, p6] [ptr pg, tr, ov', nx, .int .i64 (n : Int)]) h') P) :
    OkV (sh (rI F) c_g_6 (K_g_6 (rI F)) (setL [p1, p3, p4, p5, p6, p7] [ptr pg, tr, ov, nx, .int .i64 (n : Int), .int .i64 (c : Int)]) h) P := by
  obtain ⟨ob, g1, b1⟩ := hc
  have hfn := hf.next
  obtain ⟨h2, eh2⟩ : ∃ h2, h2 = h.new (.cells (natL c) 0) := ⟨_, rfl⟩
  have hf2 : Fr h h2 := by rw [eh2]; exact .new _ _
  have hn2 : h2.next = h.next + 1 := by rw [eh2]; simp
  obtain ⟨h3, ov', ea3, g13, hn3, hf3⟩ := zbC (h := h2) (sz := 1) (bytes := 8) (r := natL c) (b := h.next) (e := 0) (by omega) (by decide) (g1.fr hf2) (by rw [eh2]; simp) rfl rfl rfl (by rw [List.length_map]; omega)
  have := hP h3 ov' ⟨by omega, fun i hi hd => by
      rw [hf3.get _ (by omega) (fun e => hd (b1 _ e)), hf2.get _ (by omega)]
      exact hf.get _ hi hd⟩
    ⟨some h2.next, by rw [hnext, List.map_append]; exact g13, fun q e => by cases e; omega⟩
  refine OkV.eq this ?_
  rw [s_g_6]
  simp (disch := first | omega | (simp only [zb, za]; done) | (simp only [zb, za]; omega)) [↓zE, ↓zK, ↓zA, zr, zk, ← eh2, ea3]
include hin hk hr hrq hrl
theorem rcls4 (hP : ∀ h' ov', FrD (fun j => lo ≤ j) h0 h' → CR (alk es N k) lo (n + 1) h' ov' → OkV (sh (rI F) c_g_2 (K_g_2 (rI F)) (setL [p1, p3, p4, p5, p6] [ptr pg, tr, ov', .int .i64 ((cls (alk es N k) (n + 1)).2.length : Int), .int .i64 (n : Int)]) h') P) :
    ∀ (r j : Nat) (h : H) (ov : Value), j + r = n → FrD (fun j => lo ≤ j) h0 h → CR (alk es N k) lo n h ov → (∀ b, b < j → alk es N k b n = false) →
    OkV (sh (rI F) c_g_4 (K_g_4 (rI F)) (setL [p1, p3, p4, p5, p6, p7, p8] [ptr pg, tr, ov, .int .i64 ((cls (alk es N k) n).2.length : Int), .int .i64 (n : Int), .int .i64 (-1), .int .i64 (j : Int)]) h) P := by
  have hB := zgD hin hk
  have ci := zgY hB n (by omega)
  have cl1 := ci.len
  have cl2 := ci.hn
  have hnx := cls_next hB hnN
  intro r
  induction r with
  | zero =>
    intro j h ov hj hf hc hno
    have e : j = n := by omega
    subst e
    have h2 := hnx.2 hno
    have := rcls6 es N hN k j hnN lo pg h0 hlo tr (cls (alk es N k) j).2.length (.int .i64 ((cls (alk es N k) (j + 1)).2.length : Int)) h ov hf hc cl1 h2.1 hP
    refine OkV.eq this ?_
    rw [s_g_4, h2.2]
    simp (disch := first | omega | (simp only [zb, za]; done) | (simp only [zb, za]; omega)) [↓zE, ↓zK, ↓zA, s_g_3, zx]
  | succ r ih =>
    intro j h ov hj hf hc hno
    have hjn : j < n := by omega
    have hfn := hf.next
    obtain ⟨q, is, m1, m2, m3, m4, m5⟩ := hr.mat n hnN
    have hq := hrq _ _ m1
    obtain ⟨b3, o3, cs3, e3', hv3, hb3, hg3, ht3⟩ := (hr.rr.frD hf (fun b o n c e => by have := hrl b o n c e; omega)).index (i := n) (r := [slF q N]) (by rw [List.getElem?_map, m1]; rfl)
    have m2' := (hf.get _ m5 (by omega)).trans m2
    have rq : zO 1 (zbh j (is.map fun i => Value.int .i64 i)) = some [.int .i64 (RZ es N k n j)] := zb3 (by rw [List.getElem?_map, m4 j (by omega)]; rfl) rfl
    have hjN : j < N := by omega
    rw [s_g_4]
    by_cases e : RZ es N k n j = 0
    · have halk : alk es N k j n = true := by
        unfold alk; rw [zdR, zgK.1 e]; rfl
      have h2 := hnx.1 j hjn halk
      obtain ⟨c, ec⟩ : ∃ c, c = (cls (alk es N k) n).1.getD j 0 := ⟨_, rfl⟩
      have ej : (cls (alk es N k) n).1[j]? = some c := by rw [ec, List.getD_eq_getElem?_getD, List.getElem?_eq_getElem (by omega)]; rfl
      obtain ⟨ob, g1, b1⟩ := id hc
      obtain ⟨x1, o1, cs1, u1, hv1, _, hg1, ht1⟩ := (g1.row (by omega)).index (i := j) (r := natL c) (by rw [List.getElem?_map, ej]; rfl)
      have := rcls6 es N hN k n hnN lo pg h0 hlo tr c (.int .i64 ((cls (alk es N k) n).2.length : Int)) h ov hf hc cl1 (by rw [ec]; exact h2.1) (fun h' ov' a b => by
        have := hP h' ov' a b; rw [h2.2] at this; exact this)
      have c0 : ¬ ((c : Int) < 0) := by omega
      have step : OkV (sh (rI F) c_g_4 (K_g_4 (rI F)) (setL [p1, p3, p4, p5, p6, p7, p8] [ptr pg, tr, ov, .int .i64 ((cls (alk es N k) n).2.length : Int), .int .i64 (n : Int), .int .i64 (c : Int), .int .i64 (((j + 1 : Nat)) : Int)]) h) P := by
        refine OkV.eq this ?_
        rw [s_g_4]
        by_cases e2 : j + 1 < n
        · simp (disch := first | omega | (simp only [zb, za]; done) | (simp only [zb, za]; omega)) [↓zE, ↓zK, ↓zA, e2, c0, s_g_3]
        · simp (disch := first | omega | (simp only [zb, za]; done) | (simp only [zb, za]; omega)) [↓zE, ↓zK, ↓zA, e2, c0, s_g_3]
      refine OkV.eq (step.lp (l_g_4 F _ _ _ _ _ _ _ _)) ?_
      simp (disch := first | omega | (simp only [zb, za]; done) | (simp only [zb, za]; omega)) [↓zE, ↓zK, ↓zA, hjn, hv3, hg3, ht3, m2', rq, hjN, e, hv1, hg1, ht1, s_g_5, zx]
    · have halk : alk es N k j n = false := by
        unfold alk
        rw [zdR, Bool.eq_false_iff]
        intro h3; exact e (zgK.2 (Option.isNone_iff_eq_none.1 h3))
      have := ih (j + 1) h ov (by omega) hf hc (fun b hb => by
        by_cases e2 : b = j
        · subst e2; exact halk
        · exact hno b (by omega))
      refine OkV.eq (this.lp (l_g_4 F _ _ _ _ _ _ _ _)) ?_
      simp (disch := first | omega | (simp only [zb, za]; done) | (simp only [zb, za]; omega)) [↓zE, ↓zK, ↓zA, hjn, hv3, hg3, ht3, m2', rq, hjN, e, s_g_5, zx]
end
theorem rcls1 (es : List Ed) (N : Nat) (hN : N ≤ 200) (k : Nat) (hin : inB (N : Int) es) (hk : fnd (rN es N k) es ((k : Int) + 1) N = []) (lo pg : Nat) (h0 : H) (hlo : lo ≤ h0.next) (tl tr : Value) (lvs rvs : List Value) (hr : RC2 es N h0 tl tr lvs rvs (RZ es N k)) (hrq : ∀ (a q : Nat), rvs[a]? = some (slF q N) → q < lo) (hrl : ∀ b o n c, tr = .slice (some ⟨b, o, none⟩) n c → b < lo)
    (lb : Int) (sl : Value) (hsv : SlV sl es.length) (hgg : h0.get pg = some (.cells (gL (N : Int) lb sl) 0)) (hpg : pg < lo) {P : Value → H → Prop}
    (hP : ∀ h' ov, FrD (fun j => lo ≤ j) h0 h' → CR (alk es N k) lo N h' ov → P ov h') :
    ∀ (r n : Nat) (h : H) (ov : Value), n + r = N → FrD (fun j => lo ≤ j) h0 h → CR (alk es N k) lo n h ov →
    OkV (sh (rI F) c_g_1 (K_g_1 (rI F)) (setL [p1, p3, p4, p5, p6] [ptr pg, tr, ov, .int .i64 ((cls (alk es N k) n).2.length : Int), .int .i64 (n : Int)]) h) P := by
  intro r
  induction r with
  | zero =>
    intro n h ov hn hf hc
    have e : n = N := by omega
    subst e
    have := hP h ov hf hc
    obtain ⟨ob, g1, b1⟩ := hc
    have sv := g1.slvM
    have g0 := (hf.get _ (by omega) (by omega)).trans hgg
    refine OkV.eq (OkV.val this) ?_
    rw [s_g_1]
    simp (disch := first | omega | (simp only [zb, za]; done) | (simp only [zb, za]; omega)) [↓zE, ↓zK, ↓zA, s_g_0, sv.one, g0]
  | succ r ih =>
    intro n h ov hn hf hc
    have hnN : n < N := by omega
    have g0 := (hf.get _ (by omega) (by omega)).trans hgg
    have := rcls4 es N hN k n hnN hin hk lo pg h0 hlo tl tr lvs rvs hr hrq hrl (P := P) (fun h' ov' hf' hc' => by
      have := ih (n + 1) h' ov' (by omega) hf' hc'
      refine OkV.eq (this.lp (l_g_1 F _ _ _ _ _ _)) ?_
      rw [s_g_2]
      simp (disch := first | omega | (simp only [zb, za]; done) | (simp only [zb, za]; omega)) [↓zE, ↓zK, ↓zA, zx]) n 0 h ov (by omega) hf hc (fun b hb => by omega)
    refine OkV.eq (this.lp (l_g_4 F _ _ _ _ _ _ _ _)) ?_
    rw [s_g_1]
    simp (disch := first | omega | (simp only [zb, za]; done) | (simp only [zb, za]; omega)) [↓zE, ↓zK, ↓zA, hnN, g0]
theorem zfO (es : List Ed) (hsz : es.length ≤ 1000) (N : Nat) (hN : N ≤ 200) (hin : inB (N : Int) es) (lb : Int) (sl : Value) (h : H) (hrow : Row h 3 sl (es.map edL)) :
    ∃ v h' k ob, zbm F (fnV n_g) [gV (N : Int) lb sl] h = some (v, h') ∧ Fr h h' ∧ fnd (rN es N k) es ((k : Int) + 1) N = [] ∧ Grow h' 1 v ((cls (alk es N k) N).1.map natL) ob ∧ ∀ q, ob = some q → h.next ≤ q := by
  have hsv := hrow.slvM
  obtain ⟨h1, eh1⟩ : ∃ h1, h1 = h.new (.cells (gL (N : Int) lb sl) 0) := ⟨_, rfl⟩
  have hf1 : Fr h h1 := by rw [eh1]; exact .new _ _
  have hn1 : h1.next = h.next + 1 := by rw [eh1]; simp
  have g0 : h1.get h.next = some (.cells (gL (N : Int) lb sl) 0) := by rw [eh1]; simp
  obtain ⟨tr, h2, e2, k, tl, lvs, qs, hf2, hrA⟩ := Rounds_ok es hsz N hN hin lb sl h1 (hrow.fr hf1)
  have hfn2 := hf2.next
  have g02 := (hf2.get _ (by omega)).trans g0
  suffices hr : Ret F (fnV n_g) [gV (N : Int) lb sl] h fun v h' => ∃ k ob, Fr h h' ∧ fnd (rN es N k) es ((k : Int) + 1) N = [] ∧ Grow h' 1 v ((cls (alk es N k) N).1.map natL) ob ∧ ∀ q, ob = some q → h.next ≤ q by
    obtain ⟨v, h', e, k, ob, q⟩ := hr; exact ⟨v, h', k, ob, e, q⟩
  obtain ⟨P, hPd⟩ : ∃ P : Value → H → Prop, P = fun v h' => ∃ k ob, Fr h h' ∧ fnd (rN es N k) es ((k : Int) + 1) N = [] ∧ Grow h' 1 v ((cls (alk es N k) N).1.map natL) ob ∧ ∀ q, ob = some q → h.next ≤ q := ⟨_, rfl⟩
  rw [← hPd]
  refine Ret.fn F_g 1 (by decide) ?_
  rw [s_g]
  have r2 := hrA.r3.two
  have := rcls1 es N hN k hin hrA.fin h2.next h.next h2 (Nat.le_refl _) tl tr lvs _ r2 (fun a q hq => by
      rw [List.getElem?_map] at hq
      obtain ⟨q', hq1, hq2⟩ := Option.map_eq_some_iff.1 hq
      have : q' = q := by unfold slF at hq2; injection hq2 with h1; injection h1 with h1; injection h1
      subst this
      exact (hrA.r3.ql _ (List.mem_of_getElem? hq1)).2) (fun b o n c e => r2.rr.lt e) lb sl hsv g02 (by omega) (P := P) (fun h' ov hf' hc => by
    obtain ⟨ob1, g1, b1⟩ := hc
    rw [hPd]
    exact ⟨k, ob1, (hf1.trans hf2).transD hf' (fun i hi hd => by omega), hrA.fin, g1, fun q e => by have := b1 q e; omega⟩) N 0 h2 _ (by omega) (.refl _ _) ⟨none, .nil, by simp⟩
  refine OkV.eq (this.lp (l_g_1 F _ _ _ _ _ _)) ?_
  simp (disch := first | omega | (simp only [zb, za]; done) | (simp only [zb, za]; omega)) [↓zE, ↓zK, ↓zA, hsv.clean, hsv.take, ← eh1, g0, e2, g02, cls]
end Go.Ideal.J
set_option maxHeartbeats 4000000
namespace Go.Ideal.J
open Go Go.Ideal
structure IntR (h : H) (q N : Nat) (t : Nat → Int) : Prop where
  lt : q < h.next
  ex : ∃ bs : List Int, h.get q = some (.cells (bs.map (Value.int .i64)) 0) ∧ bs.length = N ∧ ∀ s : Nat, s < N → bs[s]? = some (t s)
theorem IntR.frD {D : Nat → Prop} {h h' : H} {q N : Nat} {t : Nat → Int} (r : IntR h q N t) (hf : FrD D h h') (hd : ¬ D q) : IntR h' q N t := by
  obtain ⟨bs, h1, h2, h3⟩ := r.ex
  exact ⟨Nat.lt_of_lt_of_le r.lt hf.next, bs, (hf.get _ r.lt hd).trans h1, h2, h3⟩
theorem IntR.get {h : H} {q N : Nat} {t : Nat → Int} (r : IntR h q N t) {s : Nat} (hs : s < N) : ∃ cs, h.get q = some (.cells cs 0) ∧ zO 1 (zbh s cs) = some [.int .i64 (t s)] := by
  obtain ⟨bs, h1, h2, h3⟩ := r.ex
  exact ⟨_, h1, zb3 (by rw [List.getElem?_map, h3 s hs]; rfl) rfl⟩
theorem IntR.set {h : H} {q N : Nat} {t : Nat → Int} (r : IntR h q N t) {s : Nat} (hs : s < N) (b : Int) : ∃ cs cs', h.get q = some (.cells cs 0) ∧ zJ cs s [.int .i64 b] = some cs' ∧ IntR (h.put q (.cells cs' 0)) q N (fun c => if c = s then b else t c) := by
  obtain ⟨bs, h1, h2, h3⟩ := r.ex
  refine ⟨_, (bs.set s b).map (Value.int .i64), h1, ?_, by simpa using r.lt, bs.set s b, zu rfl, by simpa using h2, fun c hc => ?_⟩
  · rw [zdq (by simp; omega)]; simp [List.map_set]
  · rw [List.getElem?_set]
    by_cases e : s = c
    · subst e; rw [if_pos rfl, if_pos (by omega), if_pos rfl]
    · rw [if_neg e, if_neg (by omega)]; exact h3 c hc
theorem IntR.congr {h : H} {q N : Nat} {t u : Nat → Int} (r : IntR h q N t) (e : ∀ s : Nat, s < N → t s = u s) : IntR h q N u := by
  obtain ⟨bs, h1, h2, h3⟩ := r.ex
  exact ⟨r.lt, bs, h1, h2, fun s hs => by rw [h3 s hs, e s hs]⟩
theorem rep_int : ∀ n, zk [Value.int .i64 0] n = (List.replicate n (0 : Int)).map (Value.int .i64)
  | 0 => rfl
  | n + 1 => by show Value.int .i64 0 :: zk [Value.int .i64 0] n = _; rw [rep_int n]; rfl
theorem make_ints {n : Nat} (hn : n ≤ 1000) (h : H) : ∃ h', zV 8 [.int .i64 0] h (.int .i64 (n : Int)) (.int .i64 (n : Int)) = some (slF h.next n, h') ∧ Fr h h' ∧ h'.next = h.next + 1 ∧ IntR h' h.next n fun _ => 0 := by
  refine ⟨h.new (.cells ((List.replicate n (0 : Int)).map (Value.int .i64)) 0), ?_, .new _ _, by simp, by simp, List.replicate n 0, by simp, by simp, fun s hs => by rw [List.getElem?_replicate, if_pos hs]⟩
  show (if (Nat.ble n n && Nat.ble (n * 8) 1073741824 && Nat.ble n 1073741824) = true then _ else none) = _
  rw [if_pos (by simp; omega), rep_int]
def zdn (ms : List Int) (k : Int) : Nat := (ms.filter fun m => decide (m < k)).length
theorem ix_cnt {ms : List Int} (hp : ms.Pairwise (· < ·)) {k : Int} (hk : k ∈ ms) : ix ms k = some (zdn ms k) := by
  refine ix_some hp ?_
  induction ms with
  | nil => cases hk
  | cons m ms ih =>
    obtain ⟨h1, h2⟩ := List.pairwise_cons.1 hp
    unfold zdn
    by_cases e : m = k
    · subst e
      have : (ms.filter fun x => decide (x < m)) = [] := by
        rw [List.filter_eq_nil_iff]; intro a ha; have := h1 a ha; simp; omega
      simp [this]
    · have hk' : k ∈ ms := by
        rcases List.mem_cons.1 hk with h | h
        · exact absurd h.symm e
        · exact h
      have := h1 k hk'
      rw [List.filter_cons_of_pos (by simpa using this), List.length_cons]
      exact ih h2 hk'
theorem cntLt_succ {ms : List Int} (hp : ms.Pairwise (· < ·)) (k : Int) : zdn ms (k + 1) = zdn ms k + if k ∈ ms then 1 else 0 := by
  induction ms with
  | nil => rfl
  | cons m ms ih =>
    obtain ⟨h1, h2⟩ := List.pairwise_cons.1 hp
    have ih := ih h2
    unfold zdn at ih ⊢
    by_cases e : m = k
    · subst e
      have a1 : (ms.filter fun x => decide (x < m)) = [] := by
        rw [List.filter_eq_nil_iff]; intro a ha; have := h1 a ha; simp; omega
      have a2 : m ∉ ms := fun h => by have := h1 m h; omega
      rw [if_neg a2, a1] at ih
      simp only [List.filter_cons]
      rw [if_pos (by rw [decide_eq_true_eq]; omega), if_neg (by simp), if_pos (by simp), List.length_cons, ih, a1]
    · by_cases e2 : m < k
      · simp only [List.filter_cons]
        rw [if_pos (by simp; omega), if_pos (by simpa using e2), List.length_cons, List.length_cons, ih]
        simp only [List.mem_cons, show ¬ k = m from fun h => e h.symm, false_or]; omega
      · simp only [List.filter_cons]
        rw [if_neg (by simp; omega), if_neg (by simpa using e2), ih]
        simp only [List.mem_cons, show ¬ k = m from fun h => e h.symm, false_or]
theorem cntLt_all {ms : List Int} {k : Int} (h : ∀ m ∈ ms, m < k) : zdn ms k = ms.length := by
  unfold zdn
  rw [List.filter_eq_self.2 (fun a ha => by simpa using h a ha)]
theorem cntLt_zero {ms : List Int} (h : ∀ m ∈ ms, 0 ≤ m) : zdn ms 0 = 0 := by
  unfold zdn
  rw [List.filter_eq_nil_iff.2 (fun a ha => by have := h a ha; simp; omega)]; rfl
def nwI (ms : List Int) (k : Int) : Int := match ix ms k with
  | some i => (i : Int)
  | none => -1
def rlE (ms : List Int) (cf : Nat → Int) (es : List Ed) : List Ed := (lgE ms cf es).foldl addL []
theorem rlE_snoc (ms : List Int) (cf : Nat → Int) (es : List Ed) (x : Ed) : rlE ms cf (es ++ [x]) = (lgX ms cf x).toList.foldl addL (rlE ms cf es) := by
  unfold rlE; rw [lgE_snoc, List.foldl_append]
theorem rlE_prop (ls : List Ed) : ∀ (acc : List Ed), acc.Pairwise (fun a b => zbf a b = true) → (ls.foldl addL acc).Pairwise (fun a b => zbf a b = true) ∧ (∀ y, y ∈ ls.foldl addL acc ↔ y ∈ acc ∨ y ∈ ls) ∧ (ls.foldl addL acc).length ≤ acc.length + ls.length := by
  induction ls with
  | nil => intro acc h; exact ⟨h, by simp, by simp⟩
  | cons x ls ih =>
    intro acc h
    obtain ⟨h1, h2, h3⟩ := ih (addL acc x) (addL_sorted h x)
    refine ⟨h1, fun y => ?_, ?_⟩
    · rw [List.foldl_cons, h2, addL_mem, List.mem_cons, or_assoc]
    · have := addL_len acc x
      rw [List.foldl_cons, List.length_cons]; omega
theorem rlE_len (ms : List Int) (cf : Nat → Int) (es : List Ed) : (rlE ms cf es).length ≤ es.length := by
  have := (rlE_prop (lgE ms cf es) [] List.Pairwise.nil).2.2
  have h2 : (lgE ms cf es).length ≤ es.length := List.length_filterMap_le _ _
  unfold rlE; simp at this; omega
section
variable (es : List Ed) (hsz : es.length ≤ 1000) (N : Nat) (hN : N ≤ 200) (hin : inB (N : Int) es) (lb : Int) (sl cv : Value) (c : List Nat) (hc : c.length = N) (ms : List Int) (hms : ms.Pairwise (· < ·)) (bs : List Bool) (hb : bs.length = N) (hmem : ∀ k : Nat, (k : Int) ∈ ms ↔ ∃ a, a < N ∧ c.getD a 0 = k ∧ bs[a]? = some true) (hmb : ∀ m ∈ ms, 0 ≤ m ∧ m < N) (hcb : ∀ a, a < N → c.getD a 0 < N)
  (pg pr qb qa : Nat) (h0 : H) (hqa : qa < h0.next) (hrow : Row h0 3 sl (es.map edL)) (hrowc : Row h0 1 cv (c.map natL)) (hsl : ∀ b o n c, sl = .slice (some ⟨b, o, none⟩) n c → b < qa) (hcv : ∀ b o n c, cv = .slice (some ⟨b, o, none⟩) n c → b < qa) (hpg : pg < qa) (hgg : h0.get pg = some (.cells (gL (N : Int) lb sl) 0)) (hpr : pr < qa) (r0 : List Value) (hr0 : r0.length = 3) (hgr : h0.get pr = some (.cells r0 0)) (hqb : qb < qa) (hgb : h0.get qb = some (.cells (zZ bs) 0)) {P : Value → H → Prop}
  (hP : ∀ h' u ob, FrD (fun j => j = pr ∨ qa ≤ j) h0 h' → Grow h' 3 u ((rlE ms (clsI c) es).map edL) ob → (∀ b, ob = some b → qa ≤ b) → P (zcK (gV (ms.length : Int) lb u) (.int .i64 0)) h')
include hsz hN hin hc hms hb hmem hmb hcb hqa hrow hrowc hsl hcv hpg hgg hpr hr0 hgr hqb hgb hP
theorem rleast8 (po : Nat) (hpo : qa < po) : ∀ (n i : Nat) (h : H) (sv : Value) (ob : Option Nat), i + n = es.length → FrD (fun j => qa ≤ j) h0 h → po < h.next → IntR h qa N (fun k => nwI ms k) → h.get po = some (.cells (gL (ms.length : Int) lb sv) 0) → Grow h 3 sv ((rlE ms (clsI c) (es.take i)).map edL) ob → (∀ b, ob = some b → qa < b ∧ b ≠ po) →
    OkV (sh (rI F) c_e_8 (K_e_8 (rI F)) (setL [p1, p2, p4, p6, p8, p11] [ptr pg, ptr pr, cv, slF qa N, ptr po, .int .i64 (i : Int)]) h) P := by
  intro n
  have hsv := hrow.slvM
  induction n with
  | zero =>
    intro i h sv ob hi hf hpl hI hg hgr' hob
    have e : i = es.length := by omega
    subst e
    rw [List.take_length] at hgr'
    have hfn := hf.next
    have g0 := (hf.get _ (by omega) (by omega)).trans hgg
    have gr0 := (hf.get _ (by omega) (by omega)).trans hgr
    have su := hgr'.slvM
    obtain ⟨a, b, d, rfl⟩ : ∃ a b d, r0 = [a, b, d] := by
      match r0, hr0 with
      | [a, b, d], _ => exact ⟨a, b, d, rfl⟩
    obtain ⟨h1, eh1⟩ : ∃ h1, h1 = h.put pr (.cells (gL (ms.length : Int) lb sv) 0) := ⟨_, rfl⟩
    have g1 : h1.get pr = some (.cells (gL (ms.length : Int) lb sv) 0) := by rw [eh1]; exact zu rfl
    rw [s_e_8]
    refine OkV.eq (OkV.val (hP h1 sv ob (by rw [eh1]; exact (hf.mono fun _ _ e => .inr e).put (.inr (.inl rfl)) _) (by rw [eh1]; exact hgr'.frD ((FrD.refl (fun j => j = pr) _).put (.inr rfl) _) (fun b e => by have := hob b e; omega)) (fun b e => by have := hob b e; omega))) ?_
    simp (disch := omega) [g0, hsv.take, hsv.one, hsv.len, s_e_7, hg, su.clean, su.take, gr0, su.cell, su.cells, ← eh1, g1]
  | succ n ih =>
    intro i h sv ob hi hf hpl hI hg hgr' hob
    have hil : i < es.length := by omega
    have hfn := hf.next
    have g0 := (hf.get _ (by omega) (by omega)).trans hgg
    have hxin := hin _ (List.getElem_mem hil)
    have htk : es.take (i + 1) = es.take i ++ [es[i]] := by rw [List.take_add_one, List.getElem?_eq_getElem hil]; rfl
    obtain ⟨b1, o1, cs1, e1, hv1, hb1, hg1, ht1⟩ := (hrow.frD hf (fun b o n c e => by have := hsl b o n c e; omega)).index (i := i) (r := edL es[i]) (by simp [hil])
    generalize es[i] = x at *
    obtain ⟨x1, x2, x3⟩ := x
    obtain ⟨a, ha⟩ := Int.eq_ofNat_of_zero_le hxin.1
    obtain ⟨b, hb'⟩ := Int.eq_ofNat_of_zero_le hxin.2.2.1
    simp only at ha hb' hxin
    subst ha; subst hb'
    have hl1 : (rlE ms (clsI c) (es.take i)).length ≤ i := by
      refine Nat.le_trans (rlE_len _ _ _) ?_
      rw [List.length_take]; omega
    obtain ⟨h1, eh1⟩ : ∃ h1, h1 = h.new (.cells (edL ((a : Int), (b : Int), x3)) 0) := ⟨_, rfl⟩
    have hf1 : Fr h h1 := by rw [eh1]; exact .new _ _
    have hn1 : h1.next = h.next + 1 := by rw [eh1]; simp
    have gx : h1.get h.next = some (.cells (edL ((a : Int), (b : Int), x3)) 0) := by rw [eh1]; simp
    have hf01 : FrD (fun j => qa ≤ j) h0 h1 := hf.trans hf1.D
    have rc := hrowc.frD hf01 (fun b o n c e => by have := hcv b o n c e; omega)
    obtain ⟨b2, o2, cs2, e2, hv2, hb2, hg2, ht2⟩ := zgn rc (x := a) (by omega)
    obtain ⟨b3, o3, cs3, e3, hv3, hb3, hg3, ht3⟩ := zgn rc (x := b) (by omega)
    obtain ⟨ca, eca⟩ : ∃ ca, ca = c.getD a 0 := ⟨_, rfl⟩
    obtain ⟨cb, ecb⟩ : ∃ cb, cb = c.getD b 0 := ⟨_, rfl⟩
    have hca := hcb a (by omega)
    have hcb' := hcb b (by omega)
    have hX : lgX ms (clsI c) ((a : Int), (b : Int), x3) = match ix ms (ca : Int), ix ms (cb : Int) with | some f, some t => some ((f : Int), (t : Int), x3) | _, _ => none := by rw [eca, ecb]; rfl
    rw [← eca] at ht2 hca
    rw [← ecb] at ht3 hcb'
    have hI1 := hI.frD hf1.D (D := fun _ => False) (by simp)
    obtain ⟨cs4, g4, t4⟩ := hI1.get hca
    obtain ⟨cs5, g5, t5⟩ := hI1.get hcb'
    have e45 : cs4 = cs5 := by rw [g4] at g5; cases g5; rfl
    subst e45
    have gp1 := (hf1.get po (by omega)).trans hg
    have su := hgr'.slv
    rw [s_e_8]
    cases hf' : ix ms (ca : Int) with
    | none =>
      rw [hf'] at hX
      have hX : lgX ms (clsI c) ((a : Int), (b : Int), x3) = none := by rw [hX]
      have n1 : nwI ms (ca : Int) = -1 := by unfold nwI; rw [hf']
      rw [n1] at t4
      have := ih (i + 1) h1 sv ob (by omega) hf01 (by omega) hI1 gp1 (by rw [htk, rlE_snoc, hX]; exact hgr'.fr hf1) hob
      refine OkV.eq (this.lp (l_e_8 F _ _ _ _ _ _ _)) ?_
      simp (disch := omega) [g0, hsv.take, hsv.one, hsv.len, hil, hv1, hg1, ht1, ← eh1, gx, hv2, hg2, ht2, hv3, hg3, ht3, g4, t4, t5, s_e_9, zx]
    | some f =>
      have n1 : nwI ms (ca : Int) = (f : Int) := by unfold nwI; rw [hf']
      rw [n1] at t4
      have f0 : ¬ (f : Int) < 0 := by omega
      cases ht' : ix ms (cb : Int) with
      | none =>
        rw [hf', ht'] at hX
        have hX : lgX ms (clsI c) ((a : Int), (b : Int), x3) = none := by rw [hX]
        have n2 : nwI ms (cb : Int) = -1 := by unfold nwI; rw [ht']
        rw [n2] at t5
        have := ih (i + 1) h1 sv ob (by omega) hf01 (by omega) hI1 gp1 (by rw [htk, rlE_snoc, hX]; exact hgr'.fr hf1) hob
        refine OkV.eq (this.lp (l_e_8 F _ _ _ _ _ _ _)) ?_
        simp (disch := omega) [g0, hsv.take, hsv.one, hsv.len, hil, hv1, hg1, ht1, ← eh1, gx, hv2, hg2, ht2, hv3, hg3, ht3, g4, t4, t5, s_e_9, zx]
      | some t =>
        rw [hf', ht'] at hX
        have n2 : nwI ms (cb : Int) = (t : Int) := by unfold nwI; rw [ht']
        rw [n2] at t5
        obtain ⟨sv', h2, ob2, ea, hf2, hg2', ho2⟩ := radd_ok (rlE ms (clsI c) (es.take i)) (by omega) ((f : Int), (t : Int), x3) sv h1 ob (hgr'.fr hf1)
        have hfn2 := hf2.next
        have gp2 := (hf2.get po (by omega)).trans gp1
        have su2 := hg2'.slv
        obtain ⟨h3, eh3⟩ : ∃ h3, h3 = h2.put po (.cells (gL (ms.length : Int) lb sv') 0) := ⟨_, rfl⟩
        have ob2' : ∀ b, ob2 = some b → qa < b ∧ b ≠ po := fun b e => by
          rcases ho2 with o | ⟨b', o, o'⟩
          · exact hob b (o ▸ e)
          · rw [e] at o; cases o; omega
        have hf3 : FrD (fun j => j = po) h2 h3 := by rw [eh3]; exact (FrD.refl (fun j => j = po) _).put (.inr rfl) _
        have := ih (i + 1) h3 sv' ob2 (by omega) ((hf01.trans hf2.D).trans (hf3.mono fun j _ e => by omega)) (by rw [eh3]; simp; omega) ((hI1.frD hf2.D (D := fun _ => False) (by simp)).frD hf3 (by omega)) (by rw [eh3]; exact zu rfl) (by
          rw [htk, rlE_snoc, hX]
          exact hg2'.frD hf3 (fun b e => (ob2' b e).2)) ob2'
        refine OkV.eq (this.lp (l_e_8 F _ _ _ _ _ _ _)) ?_
        simp (disch := omega) [g0, hsv.take, hsv.one, hsv.len, hil, hv1, hg1, ht1, ← eh1, gx, hv2, hg2, ht2, hv3, hg3, ht3, g4, t4, t5, gp1, su.take, su.one, zr, ea, gp2, su2.cell, su2.cells, ← eh3, s_e_9, zx]
end
end Go.Ideal.J
namespace Go.Ideal.J
open Go Go.Ideal
theorem nwI_in {ms : List Int} (hp : ms.Pairwise (· < ·)) {k : Int} (hk : k ∈ ms) : nwI ms k = (zdn ms k : Int) := by unfold nwI; rw [ix_cnt hp hk]
theorem nwI_out {ms : List Int} {k : Int} (hk : k ∉ ms) : nwI ms k = -1 := by unfold nwI; rw [ix_none hk]
section
variable (es : List Ed) (hsz : es.length ≤ 1000) (N : Nat) (hN : N ≤ 200) (hin : inB (N : Int) es) (lb : Int) (sl cv : Value) (c : List Nat) (hc : c.length = N) (ms : List Int) (hms : ms.Pairwise (· < ·)) (bs : List Bool) (hb : bs.length = N) (hmem : ∀ k : Nat, (k : Int) ∈ ms ↔ ∃ a, a < N ∧ c.getD a 0 = k ∧ bs[a]? = some true) (hmb : ∀ m ∈ ms, 0 ≤ m ∧ m < N) (hcb : ∀ a, a < N → c.getD a 0 < N)
  (pg pr qb qa : Nat) (h0 : H) (hqa : qa < h0.next) (hrow : Row h0 3 sl (es.map edL)) (hrowc : Row h0 1 cv (c.map natL)) (hsl : ∀ b o n c, sl = .slice (some ⟨b, o, none⟩) n c → b < qa) (hcv : ∀ b o n c, cv = .slice (some ⟨b, o, none⟩) n c → b < qa) (hpg : pg < qa) (hgg : h0.get pg = some (.cells (gL (N : Int) lb sl) 0)) (hpr : pr < qa) (r0 : List Value) (hr0 : r0.length = 3) (hgr : h0.get pr = some (.cells r0 0)) (hqb : qb < qa) (hgb : h0.get qb = some (.cells (zZ bs) 0)) {P : Value → H → Prop}
  (hP : ∀ h' u ob, FrD (fun j => j = pr ∨ qa ≤ j) h0 h' → Grow h' 3 u ((rlE ms (clsI c) es).map edL) ob → (∀ b, ob = some b → qa ≤ b) → P (zcK (gV (ms.length : Int) lb u) (.int .i64 0)) h')
include hsz hN hin hc hms hb hmem hmb hcb hqa hrow hrowc hsl hcv hpg hgg hpr hr0 hgr hqb hgb hP
def nwT (ms : List Int) (k : Nat) (j : Nat) : Int := if j < k then nwI ms j else -1
theorem rleast5 (po : Nat) (hpo : qa < po) (k : Nat) (hk : k < N)
    (hnext : ∀ h, FrD (fun j => qa ≤ j) h0 h → po < h.next → IntR h qa N (nwT ms (k + 1)) → h.get po = some (.cells (gL (zdn ms ((k + 1 : Nat) : Int) : Int) lb (.slice none 0 0)) 0) → OkV (sh (rI F) c_e_4 (K_e_4 (rI F)) (setL [p1, p2, p4, p5, p6, p8, p9] [ptr pg, ptr pr, cv, slF qb N, slF qa N, ptr po, .int .i64 (k : Int)]) h) P) :
    ∀ (n a : Nat) (h : H), a + n = N → FrD (fun j => qa ≤ j) h0 h → po < h.next → IntR h qa N (nwT ms k) → h.get po = some (.cells (gL (zdn ms (k : Int) : Int) lb (.slice none 0 0)) 0) → (∀ b, b < a → ¬ (c.getD b 0 = k ∧ bs[b]? = some true)) →
    OkV (sh (rI F) c_e_5 (K_e_5 (rI F)) (setL [p1, p2, p4, p5, p6, p8, p9, p10] [ptr pg, ptr pr, cv, slF qb N, slF qa N, ptr po, .int .i64 (k : Int), .int .i64 (a : Int)]) h) P := by
  have hcs := cntLt_succ hms (k : Int)
  have hsv := hrow.slvM
  have hkk : ((k + 1 : Nat) : Int) = (k : Int) + 1 := by omega
  intro n
  induction n with
  | zero =>
    intro a h ha hf hpl hI hg hno
    have e : a = N := by omega
    subst e
    have hfn := hf.next
    have g0 := (hf.get _ (by omega) (by omega)).trans hgg
    have hkm : ((k : Nat) : Int) ∉ ms := fun h => by
      obtain ⟨b, h1, h2, h3⟩ := (hmem k).1 h
      exact hno b h1 ⟨h2, h3⟩
    rw [if_neg hkm, Nat.add_zero] at hcs
    have := hnext h hf hpl (hI.congr fun s hs => by
      unfold nwT
      by_cases e : s < k
      · rw [if_pos e, if_pos (by omega)]
      · rw [if_neg e]
        by_cases e2 : s < k + 1
        · have : s = k := by omega
          subst this
          rw [if_pos e2, nwI_out hkm]
        · rw [if_neg e2]) (by rw [hkk, hcs]; exact hg)
    rw [s_e_5]
    refine OkV.eq this ?_
    simp (disch := omega) [g0]
  | succ n ih =>
    intro a h ha hf hpl hI hg hno
    have haN : a < N := by omega
    have hfn := hf.next
    have g0 := (hf.get _ (by omega) (by omega)).trans hgg
    have gb := (hf.get _ (by omega) (by omega)).trans hgb
    obtain ⟨cs4, g4, t4⟩ := hI.get hk
    have nk : nwT ms k k = -1 := by unfold nwT; rw [if_neg (by omega)]
    rw [nk] at t4
    obtain ⟨b2, o2, cs2, e2, hv2, hb2, hg2, ht2⟩ := zgn (hrowc.frD hf (fun b o n c e => by have := hcv b o n c e; omega)) (x := a) (by omega)
    obtain ⟨ca, eca⟩ : ∃ ca, ca = c.getD a 0 := ⟨_, rfl⟩
    rw [← eca] at ht2
    obtain ⟨ba, eba⟩ : ∃ ba, bs[a]? = some ba := ⟨_, List.getElem?_eq_getElem (by omega)⟩
    have r1 : zO 1 (zbh a (zZ bs)) = some [.bool ba] := zb3 (by unfold zZ; rw [List.getElem?_map, eba]; rfl) rfl
    rw [s_e_5]
    by_cases hcond : ca = k ∧ ba = true
    · obtain ⟨rfl, rfl⟩ := hcond
      have hkm : ((ca : Nat) : Int) ∈ ms := (hmem ca).2 ⟨a, haN, eca.symm, eba⟩
      rw [if_pos hkm] at hcs
      obtain ⟨cs, cs', q1, q2, q3⟩ := hI.set hk (zdn ms (ca : Int) : Int)
      have e44 : cs = cs4 := by rw [g4] at q1; cases q1; rfl
      subst e44
      obtain ⟨h1, eh1⟩ : ∃ h1, h1 = h.put qa (.cells cs' 0) := ⟨_, rfl⟩
      rw [← eh1] at q3
      have gp1 : h1.get po = some (.cells (gL (zdn ms (ca : Int) : Int) lb (.slice none 0 0)) 0) := by rw [eh1, zt (by omega)]; exact hg
      obtain ⟨h2, eh2⟩ : ∃ h2, h2 = h1.put po (.cells (gL (zdn ms (ca : Int) + 1 : Int) lb (.slice none 0 0)) 0) := ⟨_, rfl⟩
      have hf2 : FrD (fun j => qa ≤ j) h0 h2 := by rw [eh2, eh1]; exact (hf.put (.inr (Nat.le_refl _)) _).put (.inr (by omega)) _
      have hcl : (zdn ms (ca : Int)) ≤ ms.length := List.length_filter_le _ _
      have hml : ms.length ≤ N := zcV (hms.imp fun h => by omega) hmb
      have hn2 : h2.next = h.next := by rw [eh2, eh1]; simp
      have hI2 : IntR h2 qa N (nwT ms (ca + 1)) := by
        refine (q3.frD (D := fun j => j = po) (by rw [eh2]; exact (FrD.refl (fun j => j = po) _).put (.inr rfl) _) (by omega)).congr fun s hs => ?_
        unfold nwT
        by_cases e : s = ca
        · subst e; rw [if_pos rfl, if_pos (by omega), nwI_in hms hkm]
        · rw [if_neg e]
          by_cases e2 : s < ca
          · rw [if_pos e2, if_pos (by omega)]
          · rw [if_neg e2, if_neg (by omega)]
      have hg2' : h2.get po = some (.cells (gL (zdn ms ((ca + 1 : Nat) : Int) : Int) lb (.slice none 0 0)) 0) := by
        rw [hkk, hcs, eh2]; exact zu rfl
      have := hnext h2 hf2 (by omega) hI2 hg2'
      obtain ⟨cs5, g5, t5⟩ := hI2.get hk
      have nk2 : nwT ms (ca + 1) ca = (zdn ms (ca : Int) : Int) := by unfold nwT; rw [if_pos (by omega), nwI_in hms hkm]
      rw [nk2] at t5
      have g02 := (hf2.get _ (by omega) (by omega)).trans hgg
      have step : OkV (sh (rI F) c_e_5 (K_e_5 (rI F)) (setL [p1, p2, p4, p5, p6, p8, p9, p10] [ptr pg, ptr pr, cv, slF qb N, slF qa N, ptr po, .int .i64 (ca : Int), .int .i64 ((a + 1 : Nat) : Int)]) h2) P := by
        rw [s_e_5]
        refine OkV.eq this ?_
        have nn : ¬ ((zdn ms (ca : Int) : Nat) : Int) < 0 := by omega
        by_cases e : a + 1 < N
        · simp (disch := omega) [g02, e, g5, t5, nn]
        · simp (disch := omega) [g02, e]
      refine OkV.eq (step.lp (l_e_5 F _ _ _ _ _ _ _ _ _)) ?_
      simp (disch := omega) [g0, haN, g4, t4, hv2, hg2, ht2, gb, r1, hg, q2, ← eh1, gp1, ← eh2, s_e_6, zx]
    · have := ih (a + 1) h (by omega) hf hpl hI hg (fun b hb hq => by
        by_cases e : b = a
        · subst e
          exact hcond ⟨by rw [eca]; exact hq.1, by have := hq.2; rw [eba] at this; cases this; rfl⟩
        · exact hno b (by omega) hq)
      refine OkV.eq (this.lp (l_e_5 F _ _ _ _ _ _ _ _ _)) ?_
      by_cases e1 : ca = k
      · have e2 : ba = false := by cases ba with | false => rfl | true => exact absurd ⟨e1, rfl⟩ hcond
        subst e1 e2
        simp (disch := omega) [g0, haN, g4, t4, hv2, hg2, ht2, gb, r1, s_e_6, zx]
      · simp (disch := omega) [g0, haN, g4, t4, hv2, hg2, ht2, e1, s_e_6, zx]
theorem rleast3 (po : Nat) (hpo : qa < po) : ∀ (n k : Nat) (h : H), k + n = N → FrD (fun j => qa ≤ j) h0 h → po < h.next → IntR h qa N (nwT ms k) → h.get po = some (.cells (gL (zdn ms (k : Int) : Int) lb (.slice none 0 0)) 0) →
    OkV (sh (rI F) c_e_3 (K_e_3 (rI F)) (setL [p1, p2, p4, p5, p6, p8, p9] [ptr pg, ptr pr, cv, slF qb N, slF qa N, ptr po, .int .i64 (k : Int)]) h) P := by
  intro n
  induction n with
  | zero =>
    intro k h hk hf hpl hI hg
    have e : k = N := by omega
    subst e
    have hfn := hf.next
    have g0 := (hf.get _ (by omega) (by omega)).trans hgg
    rw [cntLt_all (fun m hm => (hmb m hm).2)] at hg
    have := rleast8 es hsz k hN hin lb sl cv c hc ms hms bs hb hmem hmb hcb pg pr qb qa h0 hqa hrow hrowc hsl hcv hpg hgg hpr r0 hr0 hgr hqb hgb hP po hpo es.length 0 h (.slice none 0 0) none (by omega) hf hpl (hI.congr fun s hs => by unfold nwT; rw [if_pos hs]) hg (by simpa [rlE, lgE] using Grow.nil) (by simp)
    rw [s_e_3]
    refine OkV.eq (this.lp (l_e_8 F _ _ _ _ _ _ _)) ?_
    simp (disch := omega) [g0, s_e_2]
  | succ n ih =>
    intro k h hk hf hpl hI hg
    have hfn := hf.next
    have g0 := (hf.get _ (by omega) (by omega)).trans hgg
    have := rleast5 es hsz N hN hin lb sl cv c hc ms hms bs hb hmem hmb hcb pg pr qb qa h0 hqa hrow hrowc hsl hcv hpg hgg hpr r0 hr0 hgr hqb hgb hP po hpo k (by omega) (fun h' hf' hpl' hI' hg' => by
      have := ih (k + 1) h' (by omega) hf' hpl' hI' hg'
      rw [s_e_4]
      refine OkV.eq (this.lp (l_e_3 F _ _ _ _ _ _ _ _)) ?_
      simp (disch := omega) [zx]) N 0 h (by omega) hf hpl hI hg (fun b hb => by omega)
    rw [s_e_3]
    refine OkV.eq (this.lp (l_e_5 F _ _ _ _ _ _ _ _ _)) ?_
    have hkN : k < N := by omega
    simp (disch := omega) [g0, hkN]
theorem rleast1 : ∀ (n i : Nat) (h : H) (t : Nat → Int), i + n = N → FrD (fun j => qa ≤ j) h0 h → IntR h qa N t → (∀ s, s < i → t s = -1) →
    OkV (sh (rI F) c_e_1 (K_e_1 (rI F)) (setL [p1, p2, p4, p5, p6, p7] [ptr pg, ptr pr, cv, slF qb N, slF qa N, .int .i64 (i : Int)]) h) P := by
  intro n
  induction n with
  | zero =>
    intro i h t hi hf hI ht
    have e : i = N := by omega
    subst e
    have hfn := hf.next
    have g0 := (hf.get _ (by omega) (by omega)).trans hgg
    obtain ⟨h1, eh1⟩ : ∃ h1, h1 = h.new (.cells (gL 0 lb (.slice none 0 0)) 0) := ⟨_, rfl⟩
    have hf1 : Fr h h1 := by rw [eh1]; exact .new _ _
    have hn1 : h1.next = h.next + 1 := by rw [eh1]; simp
    have gp : h1.get h.next = some (.cells (gL 0 lb (.slice none 0 0)) 0) := by rw [eh1]; simp
    have c0 : zdn ms ((0 : Nat) : Int) = 0 := cntLt_zero fun m hm => (hmb m hm).1
    have := rleast3 es hsz i hN hin lb sl cv c hc ms hms bs hb hmem hmb hcb pg pr qb qa h0 hqa hrow hrowc hsl hcv hpg hgg hpr r0 hr0 hgr hqb hgb hP h.next (by omega) i 0 h1 (by omega) (hf.trans hf1.D) (by omega) ((hI.frD hf1.D (D := fun _ => False) (by simp)).congr fun s hs => by rw [ht s hs]; unfold nwT; rw [if_neg (by omega)]) (by rw [c0]; exact gp)
    rw [s_e_1]
    refine OkV.eq (this.lp (l_e_3 F _ _ _ _ _ _ _ _)) ?_
    simp (disch := omega) [s_e_0, g0, zr, ← eh1]
  | succ n ih =>
    intro i h t hi hf hI ht
    have hiN : i < N := by omega
    obtain ⟨cs, cs', q1, q2, q3⟩ := hI.set hiN (-1)
    obtain ⟨h1, eh1⟩ : ∃ h1, h1 = h.put qa (.cells cs' 0) := ⟨_, rfl⟩
    rw [← eh1] at q3
    have := ih (i + 1) h1 _ (by omega) (by rw [eh1]; exact hf.put (.inr (Nat.le_refl _)) _) q3 (fun s hs => by
      by_cases e : s = i
      · rw [if_pos e]
      · rw [if_neg e]; exact ht s (by omega))
    rw [s_e_1]
    refine OkV.eq (this.lp (l_e_1 F _ _ _ _ _ _ _)) ?_
    simp (disch := omega) [hiN, q1, q2, ← eh1, zx]
end
end Go.Ideal.J
set_option maxHeartbeats 2000000
namespace Go.Ideal.J
open Go Go.Ideal
mutual
def FW (h : H) : Fml → List Value → Prop
  | .mk op lab ks, r => ∃ slv rows, r = fmL op lab slv ∧ Row h 3 slv rows ∧ FWs h ks rows
def FWs (h : H) : List Fml → List (List Value) → Prop
  | [], rows => rows = []
  | k :: ks, rows => ∃ r rs, rows = r :: rs ∧ FW h k r ∧ FWs h ks rs
end
mutual
theorem FW.fr {h h' : H} (hf' : Fr h h') : ∀ {f : Fml} {r : List Value}, FW h f r → FW h' f r
  | .mk op lab ks, r, hf => by
    unfold FW at hf ⊢
    obtain ⟨slv, rows, h1, h2, h3⟩ := hf
    exact ⟨slv, rows, h1, h2.fr hf', FWs.fr hf' h3⟩
theorem FWs.fr {h h' : H} (hf' : Fr h h') : ∀ {fs : List Fml} {rs : List (List Value)}, FWs h fs rs → FWs h' fs rs
  | [], rs, hf => by unfold FWs at hf ⊢; exact hf
  | f :: fs, rs, hf => by
    unfold FWs at hf ⊢
    obtain ⟨r, rs', h1, h2, h3⟩ := hf
    exact ⟨r, rs', h1, FW.fr hf' h2, FWs.fr hf' h3⟩
end
mutual
theorem FV.w {B : Nat → Prop} {h : H} : ∀ {f : Fml} {r : List Value}, FV B h f r → FW h f r
  | .mk op lab ks, r, hf => by
    unfold FV at hf; unfold FW
    obtain ⟨slv, rows, h1, h2, h3, h4, h5⟩ := hf
    exact ⟨slv, rows, h1, h2, FVs.w h5⟩
theorem FVs.w {B : Nat → Prop} {h : H} : ∀ {fs : List Fml} {rs : List (List Value)}, FVs B h fs rs → FWs h fs rs
  | [], rs, hf => by unfold FVs at hf; unfold FWs; exact hf
  | f :: fs, rs, hf => by
    unfold FVs at hf; unfold FWs
    obtain ⟨r, rs', h1, h2, h3⟩ := hf
    exact ⟨r, rs', h1, FV.w h2, FVs.w h3⟩
end
theorem FWs.len {h : H} : ∀ {fs : List Fml} {rs : List (List Value)}, FWs h fs rs → rs.length = fs.length
  | [], rs, hf => by unfold FWs at hf; rw [hf]; rfl
  | f :: fs, rs, hf => by
    unfold FWs at hf
    obtain ⟨r, rs', rfl, h2, h3⟩ := hf
    rw [List.length_cons, List.length_cons, FWs.len h3]
theorem FWs.at {h : H} : ∀ {fs : List Fml} {rs : List (List Value)}, FWs h fs rs → ∀ {i : Nat} {f : Fml}, fs[i]? = some f → ∃ r, rs[i]? = some r ∧ FW h f r
  | [], rs, hf, i, f, hi => by simp at hi
  | g :: fs, rs, hf, i, f, hi => by
    unfold FWs at hf
    obtain ⟨r, rs', rfl, h2, h3⟩ := hf
    cases i with
    | zero => simp at hi; subst hi; exact ⟨r, rfl, h2⟩
    | succ i => exact FWs.at h3 (by simpa using hi)
theorem FW.cells {h : H} {f : Fml} {r : List Value} (hf : FW h f r) : ∃ op lab bs n c, r = fmL op lab (.slice bs n c) := by
  cases f with
  | mk op lab ks =>
    unfold FW at hf
    obtain ⟨slv, rows, rfl, h2, h3⟩ := hf
    obtain ⟨b, c, rfl⟩ := h2.len
    exact ⟨op, lab, b, _, c, rfl⟩
end Go.Ideal.J
namespace Go.Ideal.J
open Go Go.Ideal
end Go.Ideal.J
namespace Go.Ideal.J
open Go Go.Ideal
mutual
def hv (es : List Ed) : Fml → Int → Bool
  | .mk op lab ks, s => if op = 2 then !(hvh es ks s) else if op = 4 then es.any fun x => decide (x.1 = s) && (decide (x.2.2 = lab) && hvh es ks x.2.1) else hva es ks s
def hvh (es : List Ed) : List Fml → Int → Bool
  | [], _ => false
  | k :: _, s => hv es k s
def hva (es : List Ed) : List Fml → Int → Bool
  | [], _ => true
  | k :: ks, s => hv es k s && hva es ks s
end
structure Tru (h : H) (q N : Nat) (t : Int → Bool) : Prop where
  lt : q < h.next
  ex : ∃ bs : List Bool, h.get q = some (.cells (zZ bs) 0) ∧ bs.length = N ∧ ∀ s : Nat, s < N → bs[s]? = some (t s)
theorem Tru.frD {D : Nat → Prop} {h h' : H} {q N : Nat} {t : Int → Bool} (r : Tru h q N t) (hf : FrD D h h') (hd : ¬ D q) : Tru h' q N t := by
  obtain ⟨bs, h1, h2, h3⟩ := r.ex
  exact ⟨Nat.lt_of_lt_of_le r.lt hf.next, bs, (hf.get _ r.lt hd).trans h1, h2, h3⟩
theorem Tru.fr {h h' : H} {q N : Nat} {t : Int → Bool} (r : Tru h q N t) (hf : Fr h h') : Tru h' q N t := r.frD (D := fun _ => False) hf.D (by simp)
theorem Tru.set {h : H} {q N : Nat} {t : Int → Bool} (r : Tru h q N t) {s : Nat} (hs : s < N) (b : Bool) : ∃ bs : List Bool, h.get q = some (.cells (zZ bs) 0) ∧ bs[s]? = some (t s) ∧ zO 1 (zbh s (zZ bs)) = some [.bool (t s)] ∧ zJ (zZ bs) s [.bool b] = some (zZ (bs.set s b)) ∧ Tru (h.put q (.cells (zZ (bs.set s b)) 0)) q N (fun c => if c = s then b else t c) := by
  obtain ⟨bs, h1, h2, h3⟩ := r.ex
  refine ⟨bs, h1, h3 s hs, zb3 (by unfold zZ; rw [List.getElem?_map, h3 s hs]; rfl) rfl, ?_, by simpa using r.lt, bs.set s b, zu rfl, by simpa using h2, fun c hc => ?_⟩
  · rw [zdq (by simp [zZ]; omega)]; simp [zZ, List.map_set]
  · rw [List.getElem?_set]
    by_cases e : s = c
    · subst e; rw [if_pos rfl, if_pos (by omega), if_pos rfl]
    · rw [if_neg e, if_neg (by omega)]; exact h3 c hc
theorem Tru.congr {h : H} {q N : Nat} {t u : Int → Bool} (r : Tru h q N t) (e : ∀ s : Nat, s < N → t s = u s) : Tru h q N u := by
  obtain ⟨bs, h1, h2, h3⟩ := r.ex
  exact ⟨r.lt, bs, h1, h2, fun s hs => by rw [h3 s hs, e s hs]⟩
end Go.Ideal.J
namespace Go.Ideal.J
open Go Go.Ideal
section
variable (la lb : List Ed) (hla : la.length ≤ 1000) (hlb : lb.length ≤ 1000) (ps : List (Int × Int)) (hsz : ps.length ≤ 100000) (v2 t3 t4 t9 va vb : Value) (h : H) (hr2 : Row h 2 v2 (ps.map prL)) (hra : Row h 3 va (la.map edL)) (hrb : Row h 3 vb (lb.map edL)) {P : Value → H → Prop}
include hla hlb hsz hr2 hra hrb
end
end Go.Ideal.J
namespace Go.Ideal.J
open Go Go.Ideal
section
variable (st lb st' lb' : Int) (es fs : List Ed) (hes : es.length ≤ 1000) (hfs : fs.length ≤ 1000) (ps : List (Int × Int)) (hsz : ps.length ≤ 100000) (v sl sl' : Value) (pg pg' : Nat) (h0 : H) (hr2 : Row h0 2 v (ps.map prL)) (hrow : Row h0 3 sl (es.map edL)) (hrow' : Row h0 3 sl' (fs.map edL))
  (hg : h0.get pg = some (.cells (gL st lb sl) 0)) (hg' : h0.get pg' = some (.cells (gL st' lb' sl') 0)) (hpg : pg < h0.next) (hpg' : pg' < h0.next) {P : Value → H → Prop}
include hes hfs hsz hr2 hrow hrow' hg hg' hpg hpg'
end
end Go.Ideal.J
namespace Go.Ideal.J
open Go Go.Ideal
end Go.Ideal.J
set_option maxHeartbeats 4000000
namespace Go.Ideal.J
open Go Go.Ideal
theorem srt_ext {α : Type} {lt : α → α → Prop} (asym : ∀ a b, lt a b → ¬ lt b a) : ∀ {l l' : List α}, l.Pairwise lt → l'.Pairwise lt → (∀ x, x ∈ l ↔ x ∈ l') → l = l'
  | [], [], _, _, _ => rfl
  | [], b :: l', _, _, h => by have := (h b).2 (by simp); cases this
  | a :: l, [], _, _, h => by have := (h a).1 (by simp); cases this
  | a :: l, b :: l', h1, h2, h => by
    obtain ⟨a1, a2⟩ := List.pairwise_cons.1 h1
    obtain ⟨b1, b2⟩ := List.pairwise_cons.1 h2
    have e : a = b := by
      rcases List.mem_cons.1 ((h a).1 (by simp)) with e | e
      · exact e
      · rcases List.mem_cons.1 ((h b).2 (by simp)) with e' | e'
        · exact e'.symm
        · exact absurd (a1 b e') (asym _ _ (b1 a e))
    subst e
    rw [srt_ext asym a2 b2 fun x => ?_]
    have hx := h x
    rw [List.mem_cons, List.mem_cons] at hx
    constructor
    · intro hm
      rcases hx.1 (.inr hm) with e | e
      · subst e; exact absurd (a1 x hm) (fun h => asym _ _ h h)
      · exact e
    · intro hm
      rcases hx.2 (.inr hm) with e | e
      · subst e; exact absurd (b1 x hm) (fun h => asym _ _ h h)
      · exact e
structure MsOk (es : List Ed) (N : Nat) (c : List Nat) (ms : List Int) : Prop where
  lt : ms.Pairwise (· < ·)
  bd : ∀ m ∈ ms, 0 ≤ m ∧ m < N
  mem : ∀ k : Nat, (k : Int) ∈ ms ↔ ∃ a, a < N ∧ c.getD a 0 = k ∧ Rch es a
theorem MsOk.eq {es : List Ed} {N : Nat} {c : List Nat} {ms ms' : List Int} (h : MsOk es N c ms) (h' : MsOk es N c ms') : ms = ms' :=
  srt_ext (fun a b h1 h2 => by omega) h.lt h'.lt fun x => by
    constructor
    · intro hx
      obtain ⟨k, rfl⟩ := Int.eq_ofNat_of_zero_le (h.bd x hx).1
      exact (h'.mem k).2 ((h.mem k).1 hx)
    · intro hx
      obtain ⟨k, rfl⟩ := Int.eq_ofNat_of_zero_le (h'.bd x hx).1
      exact (h.mem k).2 ((h'.mem k).1 hx)
theorem msOk_of {es : List Ed} {N : Nat} {c : List Nat} (hcb : ∀ a, a < N → c.getD a 0 < N) {vs : List Int} (hbd : ∀ v ∈ vs, 0 ≤ v ∧ v < N) (hr : ∀ a : Nat, a < N → ((a : Int) ∈ vs ↔ Rch es a)) : MsOk es N c (srtI (vs.map fun v => clsI c v.toNat)) := by
  refine ⟨srtI_lt _, fun m hm => ?_, fun k => ?_⟩
  · rw [srtI_mem, List.mem_map] at hm
    obtain ⟨v, hv, rfl⟩ := hm
    have := hbd v hv
    have := hcb v.toNat (by omega)
    unfold clsI; omega
  · rw [srtI_mem, List.mem_map]
    constructor
    · rintro ⟨v, hv, e⟩
      have hb := hbd v hv
      refine ⟨v.toNat, by omega, by unfold clsI at e; omega, (hr v.toNat (by omega)).1 (by rwa [show ((v.toNat : Nat) : Int) = v by omega])⟩
    · rintro ⟨a, ha, e, h⟩
      exact ⟨(a : Int), (hr a ha).2 h, by show clsI c ((a : Int)).toNat = (k : Int); rw [Int.toNat_natCast]; unfold clsI; rw [e]⟩
theorem cls_bd {es : List Ed} {N k : Nat} (hin : inB (N : Int) es) (hk : fnd (rN es N k) es ((k : Int) + 1) N = []) {a : Nat} (ha : a < N) : (cls (alk es N k) N).1.getD a 0 < N := by
  have ci := zgY (zgD hin hk) N (Nat.le_refl _)
  have h1 := ci.len
  have h2 := ci.hn
  have := ci.ck a _ (show (cls (alk es N k) N).1[a]? = some ((cls (alk es N k) N).1.getD a 0) by rw [List.getD_eq_getElem?_getD, List.getElem?_eq_getElem (by omega)]; rfl)
  omega
theorem rlE_eq (ms : List Int) (cf : Nat → Int) (es : List Ed) : rlE ms cf es = srtE (lgE ms cf es) := by
  obtain ⟨h1, h2, _⟩ := rlE_prop (lgE ms cf es) [] List.Pairwise.nil
  have tr := fun a b c => swoE.trans a b c
  have ir := fun a => swoE.irrefl a
  simp only [ltT] at tr ir
  refine srt_ext (fun a b h1 h2 => ?_) h1 (srtE_lt _) fun x => ?_
  · have := tr a b a h1 h2; rw [ir] at this; cases this
  · rw [srtE_mem]; unfold rlE at *; rw [h2]; simp
def RLstA (st lb : Int) (es : List Ed) (v : Value) (lo : Nat) (h' : H) : Prop :=
  (chk st lb es = false ∧ v = zcK (gV 0 0 (.slice none 0 0)) (.int .i64 2)) ∨
  (chk st lb es = true ∧ ∃ u k ms l, v = zcK (gV ((ms : List Int).length : Int) lb u) (.int .i64 0) ∧ fnd (rN es st.toNat k) es ((k : Int) + 1) st.toNat = [] ∧ MsOk es st.toNat (cls (alk es st.toNat k) st.toNat).1 ms ∧ l = srtE (lgE ms (clsI (cls (alk es st.toNat k) st.toNat).1) es) ∧ Row h' 3 u (l.map edL) ∧ ∀ b o n c, u = .slice (some ⟨b, o, none⟩) n c → lo ≤ b)
theorem rLeast_ok (st lb : Int) (es : List Ed) (sl : Value) (h : H) (hrow : Row h 3 sl (es.map edL)) :
    Ret F (fnV n_e) [gV st lb sl] h fun v h' => Fr h h' ∧ RLstA st lb es v h.next h' := by
  obtain ⟨P, hPd⟩ : ∃ P : Value → H → Prop, P = fun v h' => Fr h h' ∧ RLstA st lb es v h.next h' := ⟨_, rfl⟩
  rw [← hPd]
  have hsv := hrow.slvM
  refine Ret.fn F_e 1 (by decide) ?_
  rw [s_e]
  obtain ⟨q, eq⟩ : ∃ q, q = h.next := ⟨_, rfl⟩
  obtain ⟨h1, eh1⟩ : ∃ h1, h1 = (h.new (.cells (gL st lb sl) 0)).new (.cells (gL 0 0 (.slice none 0 0)) 0) := ⟨_, rfl⟩
  have hf1 : Fr h h1 := by rw [eh1]; exact (Fr.new _ _).newR _
  have hn1 : h1.next = q + 2 := by rw [eh1, eq]; simp
  have g0 : h1.get q = some (.cells (gL st lb sl) 0) := by rw [eh1, eq]; simp (disch := omega)
  have gr : h1.get (q + 1) = some (.cells (gL 0 0 (.slice none 0 0)) 0) := by rw [eh1, eq]; simp (disch := omega)
  obtain ⟨h2, e2, hf2⟩ := zhX st lb sl es h1 (hrow.fr hf1)
  have hfn2 := hf2.next
  have g02 := (hf2.get _ (by omega)).trans g0
  have gr2 := (hf2.get _ (by omega)).trans gr
  cases hc : chk st lb es with
  | false =>
    rw [hc] at e2
    obtain ⟨h3, eh3⟩ : ∃ h3, h3 = h2.put (q + 1) (.cells (gL 0 0 (.slice none 0 0)) 0) := ⟨_, rfl⟩
    have g3 : h3.get (q + 1) = some (.cells (gL 0 0 (.slice none 0 0)) 0) := by rw [eh3]; exact zu rfl
    refine OkV.eq (OkV.val (v := zcK (gV 0 0 (.slice none 0 0)) (.int .i64 2)) (h := h3) (by
      rw [hPd]
      refine ⟨(hf1.trans hf2).transD (D := fun j => j = q + 1) (by rw [eh3]; exact (FrD.refl (fun j => j = q + 1) _).put (.inr rfl) _) (fun i hi => by omega), .inl ⟨hc, rfl⟩⟩)) ?_
    simp (disch := first | omega | (simp only [zb, za]; done) | (simp only [zb, za]; omega)) [↓zE, ↓zK, ↓zA, hsv.clean, hsv.take, ← eq, ← eh1, g0, e2, erk, zr, gr2, ← eh3, g3]
  | true =>
    rw [hc] at e2
    have fm := (zgv st lb es).1 hc
    obtain ⟨N, rfl⟩ := Int.eq_ofNat_of_zero_le (show 0 ≤ st by have := fm.st1; omega)
    have hN := fm.st2
    have hN1 := fm.st1
    have hlen := fm.len
    obtain ⟨cv, h3, k, ob, e3, hf3, hk, hg3, hob⟩ := zfO es (by omega) N (by omega) fm.inB lb sl h2 ((hrow.fr hf1).fr hf2)
    have hfn3 := hf3.next
    obtain ⟨c, ec⟩ : ∃ c, c = (cls (alk es N k) N).1 := ⟨_, rfl⟩
    have hcl : c.length = N := by rw [ec]; exact (zgY (zgD fm.inB hk) N (Nat.le_refl _)).len
    have hcb : ∀ a, a < N → c.getD a 0 < N := fun a ha => by rw [ec]; exact cls_bd fm.inB hk ha
    rw [← ec] at hg3
    have g03 := (hf3.get _ (by omega)).trans g02
    have gr3 := (hf3.get _ (by omega)).trans gr2
    obtain ⟨h4, bs, e4, hf4, hqb, gb4, hbl, hbs⟩ := reached_ok es (by omega) N (by omega) (by omega) fm.inB lb sl h3 (((hrow.fr hf1).fr hf2).fr hf3)
    have g04 := (hf4.get _ (by omega)).trans g03
    have gr4 := (hf4.get _ (by omega)).trans gr3
    obtain ⟨h5, e5, hf5, hn5, hI5⟩ := make_ints (n := N) (by omega) h4
    have hF3 : Fr h h3 := (hf1.trans hf2).trans hf3
    have hF5 : Fr h h5 := (hF3.trans hf4).trans hf5
    have hrowc := hg3.row (by omega)
    have hF35 := hf4.trans hf5
    have hfn4 := hf4.next
    obtain ⟨vs, evs⟩ : ∃ vs : List Int, vs = ((List.range N).filter fun a => bs[a]? == some true).map fun a : Nat => (a : Int) := ⟨_, rfl⟩
    have hvs : ∀ a : Nat, a < N → ((a : Int) ∈ vs ↔ Rch es a) := fun a ha => by
      rw [evs, List.mem_map, ← hbs a]
      constructor
      · rintro ⟨b, hb, e⟩
        have e : b = a := by omega
        subst e
        simpa using (List.mem_filter.1 hb).2
      · intro h; exact ⟨a, List.mem_filter.2 ⟨List.mem_range.2 ha, by simpa using h⟩, rfl⟩
    have hvb : ∀ v ∈ vs, 0 ≤ v ∧ v < N := fun v hv => by
      rw [evs, List.mem_map] at hv
      obtain ⟨b, hb, rfl⟩ := hv
      have := List.mem_range.1 (List.mem_filter.1 hb).1
      omega
    have hM := msOk_of hcb hvb hvs
    generalize srtI (vs.map fun v => clsI c v.toNat) = ms at hM
    have hlt : ∀ b o n c, sl = .slice (some ⟨b, o, none⟩) n c → b < h4.next := fun b o n c e => by have := hrow.lt e; omega
    have := rleast1 es (by omega) N (by omega) fm.inB lb sl cv c hcl ms hM.lt bs hbl (fun k => by rw [hM.mem]; simp only [hbs]) hM.bd hcb q (q + 1) (h3.next + 1) h4.next h5 (by omega) (hrow.fr hF5) (hrowc.fr hF35) hlt (fun b o n c e => by have := hrowc.lt e; omega) (by omega) ((hf5.get _ (by omega)).trans g04) (by omega) _ rfl ((hf5.get _ (by omega)).trans gr4) (by omega) ((hf5.get _ (by omega)).trans gb4) (P := P)
      (fun h' u ob' hf' hg' hob' => by
        have hfn' := hf'.next
        rw [hPd]
        refine ⟨⟨by omega, fun i hi => ?_⟩, .inr ⟨hc, u, k, ms, _, rfl, by simpa using hk, by simpa [ec] using hM, rfl, ?_, fun b o n c e => by have := hob' b (hg'.block e); omega⟩⟩
        · rw [hf'.get i (by omega) (by omega), hF5.get i hi]
        · have hst : ((N : Int)).toNat = N := by simp
          rw [hst, ← ec, ← rlE_eq]
          exact hg'.row (by omega)) N 0 h5 _ (by omega) (.refl _ _) hI5 (fun s hs => by omega)
    refine OkV.eq (this.lp (l_e_1 F _ _ _ _ _ _ _)) ?_
    simp (disch := first | omega | (simp only [zb, za]; done) | (simp only [zb, za]; omega)) [↓zE, ↓zK, ↓zA, hsv.clean, hsv.take, hsv.eq, hsv.eqc, ← eq, ← eh1, g0, e2, erk, g02, e3, g03, e4, g04, e5]
end Go.Ideal.J
namespace Go.Ideal.J
open Go Go.Ideal
def ClsB (st lb : Int) (es : List Ed) (v : Value) (lo : Nat) (h' : H) : Prop :=
  (chk st lb es = false ∧ v = zcK (.slice none 0 0) (.int .i64 2)) ∨
  (chk st lb es = true ∧ ∃ u k, v = zcK u (.int .i64 0) ∧ fnd (rN es st.toNat k) es ((k : Int) + 1) st.toNat = [] ∧ Row h' 1 u ((cls (alk es st.toNat k) st.toNat).1.map natL) ∧ ∀ b o n c, u = .slice (some ⟨b, o, none⟩) n c → lo ≤ b)
theorem jClasses2_ok (st lb : Int) (es : List Ed) (sl : Value) (h : H) (hrow : Row h 3 sl (es.map edL)) :
    Ret F (fnV n_P) [gV st lb sl] h fun v h' => Fr h h' ∧ ClsB st lb es v h.next h' := by
  obtain ⟨P, hPd⟩ : ∃ P : Value → H → Prop, P = fun v h' => Fr h h' ∧ ClsB st lb es v h.next h' := ⟨_, rfl⟩
  rw [← hPd]
  have hsv := hrow.slvM
  refine Ret.fn F_P 1 (by decide) ?_
  rw [s_P]
  obtain ⟨h1, eh1⟩ : ∃ h1, h1 = h.new (.cells (gL st lb sl) 0) := ⟨_, rfl⟩
  have hf1 : Fr h h1 := by rw [eh1]; exact .new _ _
  have hn1 : h1.next = h.next + 1 := by rw [eh1]; simp
  have g0 : h1.get h.next = some (.cells (gL st lb sl) 0) := by rw [eh1]; simp
  obtain ⟨h2, e2, hf2⟩ := zfV st lb sl es h1 (hrow.fr hf1)
  have hfn2 := hf2.next
  have g02 := (hf2.get _ (by omega)).trans g0
  cases hc : chk st lb es with
  | false =>
    rw [hc] at e2
    refine OkV.eq (OkV.val (v := zcK (.slice none 0 0) (.int .i64 2)) (h := h2) (by rw [hPd]; exact ⟨hf1.trans hf2, .inl ⟨hc, rfl⟩⟩)) ?_
    simp (disch := first | omega | (simp only [zb, za]; done) | (simp only [zb, za]; omega)) [↓zE, ↓zK, ↓zA, hsv.clean, hsv.take, ← eh1, g0, e2, erk]
  | true =>
    rw [hc] at e2
    have fm := (zgv st lb es).1 hc
    obtain ⟨N, rfl⟩ := Int.eq_ofNat_of_zero_le (show 0 ≤ st by have := fm.st1; omega)
    have hN := fm.st2
    have hlen := fm.len
    obtain ⟨v3, h3, k, ob, e3, hf3, hk, hg3, hob⟩ := zjW es fm.sortedF (by omega) N (by omega) fm.inB lb sl h2 ((hrow.fr hf1).fr hf2)
    have sv3 := hg3.slvM
    refine OkV.eq (OkV.val (v := zcK v3 (.int .i64 0)) (h := h3) (by
      rw [hPd]; exact ⟨(hf1.trans hf2).trans hf3, .inr ⟨hc, v3, k, rfl, hk, hg3.row (by omega), fun b o n c e => by have := hob b (hg3.block e); omega⟩⟩)) ?_
    simp (disch := first | omega | (simp only [zb, za]; done) | (simp only [zb, za]; omega)) [↓zE, ↓zK, ↓zA, hsv.clean, hsv.take, ← eh1, g0, e2, erk, g02, e3]
theorem rClasses_ok (st lb : Int) (es : List Ed) (sl : Value) (h : H) (hrow : Row h 3 sl (es.map edL)) :
    Ret F (fnV n_S) [gV st lb sl] h fun v h' => Fr h h' ∧ ClsB st lb es v h.next h' := by
  obtain ⟨P, hPd⟩ : ∃ P : Value → H → Prop, P = fun v h' => Fr h h' ∧ ClsB st lb es v h.next h' := ⟨_, rfl⟩
  rw [← hPd]
  have hsv := hrow.slvM
  refine Ret.fn F_S 1 (by decide) ?_
  rw [s_S]
  obtain ⟨h1, eh1⟩ : ∃ h1, h1 = h.new (.cells (gL st lb sl) 0) := ⟨_, rfl⟩
  have hf1 : Fr h h1 := by rw [eh1]; exact .new _ _
  have hn1 : h1.next = h.next + 1 := by rw [eh1]; simp
  have g0 : h1.get h.next = some (.cells (gL st lb sl) 0) := by rw [eh1]; simp
  obtain ⟨h2, e2, hf2⟩ := zhX st lb sl es h1 (hrow.fr hf1)
  have hfn2 := hf2.next
  have g02 := (hf2.get _ (by omega)).trans g0
  cases hc : chk st lb es with
  | false =>
    rw [hc] at e2
    refine OkV.eq (OkV.val (v := zcK (.slice none 0 0) (.int .i64 2)) (h := h2) (by rw [hPd]; exact ⟨hf1.trans hf2, .inl ⟨hc, rfl⟩⟩)) ?_
    simp (disch := first | omega | (simp only [zb, za]; done) | (simp only [zb, za]; omega)) [↓zE, ↓zK, ↓zA, hsv.clean, hsv.take, ← eh1, g0, e2, erk]
  | true =>
    rw [hc] at e2
    have fm := (zgv st lb es).1 hc
    obtain ⟨N, rfl⟩ := Int.eq_ofNat_of_zero_le (show 0 ≤ st by have := fm.st1; omega)
    have hN := fm.st2
    have hlen := fm.len
    obtain ⟨v3, h3, k, ob, e3, hf3, hk, hg3, hob⟩ := zfO es (by omega) N (by omega) fm.inB lb sl h2 ((hrow.fr hf1).fr hf2)
    have sv3 := hg3.slvM
    refine OkV.eq (OkV.val (v := zcK v3 (.int .i64 0)) (h := h3) (by
      rw [hPd]; exact ⟨(hf1.trans hf2).trans hf3, .inr ⟨hc, v3, k, rfl, hk, hg3.row (by omega), fun b o n c e => by have := hob b (hg3.block e); omega⟩⟩)) ?_
    simp (disch := first | omega | (simp only [zb, za]; done) | (simp only [zb, za]; omega)) [↓zE, ↓zK, ↓zA, hsv.clean, hsv.take, ← eh1, g0, e2, erk, g02, e3]
theorem sameInts_loop (l : List Nat) (hl : l.length ≤ 100000) (v u : Value) (h : H) (hr : Row h 1 v (l.map natL)) (hr' : Row h 1 u (l.map natL)) {P : Value → H → Prop} (hP : P (.bool true) h) : ∀ (n i : Nat), i + n = l.length →
    OkV (sh (rI F) zhc (K_k_1 (rI F)) (setL [p0, p1, p5] [v, u, .int .i64 (i : Int)]) h) P := by
  have sv := hr.slvM
  intro n
  induction n with
  | zero =>
    intro i hi
    have e : i = l.length := by omega
    subst e
    rw [s_k_1]
    refine OkV.eq (OkV.val hP) ?_
    simp (disch := omega) [sv.len, s_k_0]
  | succ n ih =>
    intro i hi
    have hil : i < l.length := by omega
    obtain ⟨x, hx⟩ : ∃ x, l[i]? = some x := ⟨_, List.getElem?_eq_getElem hil⟩
    obtain ⟨b1, o1, cs1, e1, hv1, hb1, hg1, ht1⟩ := hr.index (i := i) (r := natL x) (by rw [List.getElem?_map, hx]; rfl)
    obtain ⟨b2, o2, cs2, e2, hv2, hb2, hg2, ht2⟩ := hr'.index (i := i) (r := natL x) (by rw [List.getElem?_map, hx]; rfl)
    have := ih (i + 1) (by omega)
    rw [s_k_1]
    refine OkV.eq (this.lp (l_k_1 F _ _ _ _)) ?_
    simp (disch := omega) [sv.len, hil, hv1, hg1, ht1, hv2, hg2, ht2, zx]
theorem sameInts_ok (l : List Nat) (hl : l.length ≤ 100000) (v u : Value) (h : H) (hr : Row h 1 v (l.map natL)) (hr' : Row h 1 u (l.map natL)) : zbm F (fnV n_k) [v, u] h = some (.bool true, h) := by
  suffices hr : Ret F (fnV n_k) [v, u] h fun v h' => v = .bool true ∧ h' = h by
    obtain ⟨v, h', e, rfl, rfl⟩ := hr; exact e
  refine Ret.fn F_k 2 (by decide) ?_
  have sv := hr.slvM
  have su := hr'.slvM
  rw [s_k]
  have := sameInts_loop l hl v u h hr hr' (P := fun v h' => v = .bool true ∧ h' = h) ⟨rfl, rfl⟩ l.length 0 (by omega)
  refine OkV.eq (this.lp (l_k_1 F _ _ _ _)) ?_
  simp (disch := omega) [sv.len, su.len]
theorem clsB_eq {st lb : Int} {es : List Ed} {v u : Value} {a b : Nat} {h h' : H} (hv : ClsB st lb es v a h) (hu : ClsB st lb es u b h') : ∃ (l : List Nat) (x y : Value) (r : Int), l.length ≤ 100000 ∧ v = zcK x (.int .i64 r) ∧ u = zcK y (.int .i64 r) ∧ Row h 1 x (l.map natL) ∧ Row h' 1 y (l.map natL) := by
  rcases hv with ⟨h1, rfl⟩ | ⟨h1, x, k, rfl, hk, hr, _⟩
  · rcases hu with ⟨_, rfl⟩ | ⟨h2, _⟩
    · exact ⟨[], _, _, 2, by simp, rfl, rfl, .nil, .nil⟩
    · rw [h1] at h2; cases h2
  · rcases hu with ⟨h2, _⟩ | ⟨h2, y, k', rfl, hk', hr', _⟩
    · rw [h1] at h2; cases h2
    · have e : alk es st.toNat k = alk es st.toNat k' := by funext a b; unfold alk; rw [rN_end hk hk']
      rw [← e] at hr'
      have fm := (zgv st lb es).1 h1
      obtain ⟨N, rfl⟩ := Int.eq_ofNat_of_zero_le (show 0 ≤ st by have := fm.st1; omega)
      have hN := fm.st2
      have hst : ((N : Int)).toNat = N := by simp
      rw [hst] at hr hr' hk
      exact ⟨_, x, y, 0, by rw [(zgY (zgD fm.inB hk) N (Nat.le_refl _)).len]; omega, rfl, rfl, hr, hr'⟩
theorem lst_eq {st lb : Int} {es : List Ed} {v u : Value} {a b : Nat} {h h' : H} (hv : LstA st lb es v a h) (hu : RLstA st lb es u b h') : ∃ (l : List Ed) (x y : Value) (s t r : Int), l.length ≤ 100000 ∧ v = zcK (gV s t x) (.int .i64 r) ∧ u = zcK (gV s t y) (.int .i64 r) ∧ Row h 3 x (l.map edL) ∧ Row h' 3 y (l.map edL) := by
  rcases hv with ⟨h1, rfl⟩ | ⟨h1, x, k, vs, ms, l, rfl, hk, hok, hr, _⟩
  · rcases hu with ⟨_, rfl⟩ | ⟨h2, _⟩
    · exact ⟨[], _, _, _, _, _, by simp, rfl, rfl, .nil, .nil⟩
    · rw [h1] at h2; cases h2
  · rcases hu with ⟨h2, _⟩ | ⟨h2, y, k', ms', l', rfl, hk', hM, hl', hr', _⟩
    · rw [h1] at h2; cases h2
    · have e : alk es st.toNat k = alk es st.toNat k' := by funext a b; unfold alk; rw [rN_end hk hk']
      rw [← e] at hM hl'
      have fm := (zgv st lb es).1 h1
      obtain ⟨N, rfl⟩ := Int.eq_ofNat_of_zero_le (show 0 ≤ st by have := fm.st1; omega)
      have hlen := fm.len
      have hst : ((N : Int)).toNat = N := by simp
      rw [hst] at hM hl' hk hok
      have hM' := msOk_of (es := es) (c := (cls (alk es N k) N).1) (N := N) (fun a ha => cls_bd fm.inB hk ha) hok.bd (fun a _ => hok.rch a)
      rw [← hok.hm] at hM'
      have em := hM'.eq hM
      subst em
      have el : l = l' := by rw [hok.hl, hl']
      subst el
      refine ⟨l, x, y, _, _, _, ?_, rfl, rfl, hr, hr'⟩
      rw [hok.hl]
      refine Nat.le_trans (srtE_len _) (Nat.le_trans (List.length_filterMap_le _ _) ?_)
      omega
theorem classes_law (st lb : Int) (es : List Ed) (sl : Value) (h : H) (hrow : Row h 3 sl (es.map edL)) :
    Ret G2 (fnV n_R) [gV st lb sl] h fun u h' => u = .bool true ∧ Fr h h' := by
  refine Ret.fn (leG2 _ _ F_R) 1 (by decide) ?_
  have hsv := hrow.slvM
  have hkn : ∀ h, zbm G2 (fnV n_N) [] h = some (.bool true, h) := fun h => zbo leG2 (known_ok' h)
  obtain ⟨q, eq⟩ : ∃ q, q = h.next := ⟨_, rfl⟩
  obtain ⟨h1, eh1⟩ : ∃ h1, h1 = h.new (.cells (gL st lb sl) 0) := ⟨_, rfl⟩
  have hf1 : Fr h h1 := by rw [eh1]; exact .new _ _
  have hn1 : h1.next = q + 1 := by rw [eh1, eq]; simp
  have g0 : h1.get q = some (.cells (gL st lb sl) 0) := by rw [eh1, eq]; simp
  obtain ⟨v2, h2, e2, hf2, hA2⟩ := jClasses2_ok st lb es sl h1 (hrow.fr hf1)
  have hfn2 := hf2.next
  have g02 := (hf2.get _ (by omega)).trans g0
  obtain ⟨v3, h3, e3, hf3, hA3⟩ := rClasses_ok st lb es sl h2 ((hrow.fr hf1).fr hf2)
  have hfn3 := hf3.next
  have g03 := (hf3.get _ (by omega)).trans g02
  obtain ⟨cl, cx, cy, cr, hcl, rfl, rfl, hrx, hry⟩ := clsB_eq hA2 hA3
  obtain ⟨v4, h4, e4, hf4, hA4⟩ := jLeast_ok st lb es sl h3 (((hrow.fr hf1).fr hf2).fr hf3)
  have hfn4 := hf4.next
  have g04 := (hf4.get _ (by omega)).trans g03
  obtain ⟨h5, eh5⟩ : ∃ h5, h5 = h4.new (.cells (gL 0 0 (.slice none 0 0)) 0) := ⟨_, rfl⟩
  have key : ∀ (l : List Ed) (x : Value) (s t r : Int), v4 = zcK (gV s t x) (.int .i64 r) → ∃ h5', h5' = h4.new (.cells (gL s t x) 0) := fun _ _ _ _ _ _ => ⟨_, rfl⟩
  have main : ∀ (l : List Ed) (x : Value) (s t r : Int), l.length ≤ 100000 → v4 = zcK (gV s t x) (.int .i64 r) → Row h4 3 x (l.map edL) → True := fun _ _ _ _ _ _ _ _ => trivial
  obtain ⟨sx, sA, sB, sr, hv4, hrow4a⟩ : ∃ (x : Value) (s t r : Int), v4 = zcK (gV s t x) (.int .i64 r) ∧ ∃ l : List Ed, Row h4 3 x (l.map edL) := by
    rcases hA4 with ⟨_, rfl⟩ | ⟨_, u, k, vs, ms, l, rfl, _, _, hr, _⟩
    · exact ⟨_, _, _, _, rfl, [], .nil⟩
    · exact ⟨_, _, _, _, rfl, l, hr⟩
  obtain ⟨_, hrow4b⟩ := hrow4a
  have sx4 := hrow4b.slv
  obtain ⟨h5, eh5⟩ : ∃ h5, h5 = h4.new (.cells (gL sA sB sx) 0) := ⟨_, rfl⟩
  have hf5 : Fr h4 h5 := by rw [eh5]; exact .new _ _
  have hn5 : h5.next = h4.next + 1 := by rw [eh5]; simp
  have g05 := (hf5.get _ (by omega)).trans g04
  have gA5 : h5.get h4.next = some (.cells (gL sA sB sx) 0) := by rw [eh5]; simp
  have hF5 : Fr h h5 := (((hf1.trans hf2).trans hf3).trans hf4).trans hf5
  obtain ⟨v6, h6, e6, hf6, hA6⟩ := rLeast_ok st lb es sl h5 (hrow.fr hF5)
  have hfn6 := hf6.next
  obtain ⟨l, x, y, s, t, r, hll, e4v, rfl, hrl, hrl'⟩ := lst_eq hA4 hA6
  rw [hv4] at e4v
  injection e4v with e4v; injection e4v with e4v; injection e4v with ea eb
  injection ea with ea; injection ea with ea; injection ea with ea1 ea2; injection ea2 with ea2 ea3; injection ea3 with ea3 _
  injection ea1 with _ ea1; injection ea2 with _ ea2
  injection eb with eb _; injection eb with _ eb
  subst ea1 ea2 ea3 eb
  subst hv4
  have e2 := zbo leG2 e2
  have e3 := zbo leG2 e3
  have e6 := zbo leG2 e6
  have sy := hrl'.slv
  obtain ⟨h7, eh7⟩ : ∃ h7, h7 = h6.new (.cells (gL sA sB y) 0) := ⟨_, rfl⟩
  have hf7 : Fr h6 h7 := by rw [eh7]; exact .new _ _
  have hn7 : h7.next = h6.next + 1 := by rw [eh7]; simp
  have gA7 := (hf7.get _ (by omega)).trans ((hf6.get _ (by omega)).trans gA5)
  have gB7 : h7.get h6.next = some (.cells (gL sA sB y) 0) := by rw [eh7]; simp
  have hF47 : Fr h4 h7 := (hf5.trans hf6).trans hf7
  have e8 := zbo leG2 (sameInts_ok cl hcl cx cy h7 ((((hrx.fr hf3).fr hf4).fr hF47)) ((hry.fr hf4).fr hF47))
  obtain ⟨h9, eh9⟩ : ∃ h9, h9 = (h7.new (.cells (gL sA sB sx) 0)).new (.cells (gL sA sB y) 0) := ⟨_, rfl⟩
  have e9 := zbo leG2 (same_ok sA sB sA sB sx y l l (by omega) h7 (hrl.fr hF47) (hrl'.fr hf7))
  have hsame : sameG sA sB sA sB l l = true := by unfold sameG; simp
  rw [← eh9, hsame] at e9
  have hF9 : Fr h h9 := by
    rw [eh9]
    exact ((((hF5.trans hf6).trans hf7)).newR _).newR _
  rw [s_R]
  refine OkV.eq (OkV.val (v := .bool true) (h := h9) ⟨rfl, hF9⟩) ?_
  have svs := hsv.take
  simp (disch := first | omega | (simp only [zb, za]; done) | (simp only [zb, za]; omega)) [↓zE, ↓zK, ↓zA, hsv.clean, hsv.take, ← eq, ← eh1, g0, e2, g02, e3, g03, e4, sx4.cell, sx4.clean, sx4.take, ← eh5, g05, e6, sy.cell, sy.clean, sy.take, ← eh7, e8, gA7, gB7, e9, hkn]
end Go.Ideal.J
set_option maxRecDepth 100000
namespace Go.Proofs.Ytanaepeilcjhcaa
open Go.ChangeShapes Go.WideShapes Go.ChangeAt Go.RowKit Go.Ideal Go.Ideal.J
theorem classes_calls {W : World} {v : Value} {st lb : Int} {sl : Value} {es : List Ed} (hv : v = gV st lb sl) (ho : okArg W v = true) (hrow : Row (impH W) 3 sl (es.map edL)) : Calls Try.prog 9 #[v] W fun e W' => e = .returned (.bool true) ∧ Same W W' := by
  obtain ⟨u, h', he, rfl, hf⟩ := classes_law st lb es sl (impH W) hrow
  subst hv
  exact calls_import Go.Ideal.X.hmix okG2 (fun v hv => by
    simp only [List.mem_cons, List.not_mem_nil, or_false] at hv
    subst hv; exact ho) he (fun i hi => hf.get i (Nat.lt_succ_of_lt hi))
theorem zjp (os : Os) (started : os.Started) (H : Type) (enc : TypeId × Value → H) :
    ReturnsInHanded {} Try.checked os 9 .any (Rows.judgeClassesSpec.pre6 enc Try.prog Try.f9 Rows.judgeClassesRow.domain false) (Rows.judgeClassesSpec.post enc Try.prog Try.f9 false true false false) := by
  refine returnsInHanded_of_change (C := Try.checked) Try.own started (by kernel_rfl) Try.func9
    (ChangeSpec.witness6 (enc := enc) (C := Try.checked) false ⟨#[], #[.agg #[.int .i64 0, .int .i64 0, .slice none 0 0]], []⟩ 8 (by kernel_rfl) (by kernel_rfl) (by kernel_rfl) (by kernel_rfl)) ?_
  intro W base args ds gs before hval0 hW hcnd _
  have hval : ∀ (j : Nat) t v, Try.f9.params[j]? = some t → args[j]? = some v → Value.okWide Try.prog W .any base t v := hval0
  have hW' := hW
  obtain ⟨p, q, hA0, hV, rfl, hfz, hnd⟩ := hW
  have hA : DataW.TrodAll enc Try.prog W 0 (fun _ => true) true Try.f9.params.toList args.toList ds p := hA0
  rw [Try.params9] at hA hval
  obtain ⟨v0, d0, rfl, rfl, h0⟩ := trodAll_one hA
  obtain ⟨st, lb, sl, es, hv, ho, hrow⟩ := graph_in (hval 0 24 v0 rfl rfl) h0
  obtain ⟨rfl, rfl⟩ := trodVars_none hV
  refine (classes_calls hv ho hrow).mono fun e W' ⟨he, hs⟩ => ⟨_, he, ?_⟩
  exact law_post hW' rfl rfl (t := 4) (by kernel_rfl) Try.underlying4 hs Try.laidOut (fun t ht => by
    rw [Try.params9] at ht
    simp only [List.mem_cons, List.not_mem_nil, or_false] at ht
    subst ht
    exact ⟨by kernel_rfl, of_decide_eq_true (by kernel_rfl)⟩)
theorem classes_holds : Rows.JudgeClassesSaid :=
  OpenClaim.holds_of_wide 9 Try.f9 rfl rfl rfl rfl rfl rfl rfl ⟨rfl, rfl, rfl, rfl, rfl⟩ rfl rfl rfl rfl rfl (by kernel_rfl) Try.func9 (by kernel_rfl)
    (of_decide_eq_true (by kernel_rfl)) (by unfold Func.isWrapper; first | (rw [if_pos (by decide +kernel)]; kernel_rfl) | (rw [if_neg (by decide +kernel)]; exact ⟨rfl, rfl⟩))
    (fun os started H enc _ => zjp os started H enc)
end Go.Proofs.Ytanaepeilcjhcaa
