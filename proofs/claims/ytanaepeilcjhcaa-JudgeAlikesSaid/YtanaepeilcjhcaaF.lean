/- JudgeAlikes: for any two graphs and any pairs the law answers true: both say alike whether the graphs are alike, and whether the pairs are a bisimulation, in whatever order the pairs are looked at. No condition. -/
import Derived.Maps.RangeRun
import Derived.Test.YtanaepeilcjhcaaProg
import Derived.Test.YtanaepeilcjhcaaRows
import Derived.Test.YtanaepeilcjhcaaE
set_option linter.unusedSimpArgs false
set_option linter.unusedVariables false
set_option maxRecDepth 10000
set_option maxHeartbeats 2000000
namespace Go.Ideal.J
open Go Go.Ideal
structure RC2 (es : List Ed) (N : Nat) (h : H) (tl tr : Value) (lvs rvs : List Value) (R : Int → Int → Int) : Prop where
  rl : Row h 1 tl (lvs.map fun v => [v])
  rr : Row h 1 tr (rvs.map fun v => [v])
  lst : ∀ a : Nat, a < N → ∃ lv, lvs[a]? = some lv ∧ Row h 3 lv ((outs es a).map edL)
  mat : ∀ a : Nat, a < N → ∃ (q : Nat) (is : List Int), rvs[a]? = some (slF q N) ∧ h.get q = some (.cells (is.map fun i => .int .i64 i) 0) ∧ is.length = N ∧ (∀ c : Nat, c < N → is[c]? = some (R a c)) ∧ q < h.next
theorem RC2.fr {es : List Ed} {N : Nat} {h h' : H} {tl tr : Value} {lvs rvs : List Value} {R : Int → Int → Int} (r : RC2 es N h tl tr lvs rvs R) (hf : Fr h h') : RC2 es N h' tl tr lvs rvs R where
  rl := r.rl.fr hf
  rr := r.rr.fr hf
  lst := fun a ha => by obtain ⟨lv, h1, h2⟩ := r.lst a ha; exact ⟨lv, h1, h2.fr hf⟩
  mat := fun a ha => by
    obtain ⟨q, is, h1, h2, h3, h4, h5⟩ := r.mat a ha
    exact ⟨q, is, h1, (hf.get _ h5).trans h2, h3, h4, Nat.lt_of_lt_of_le h5 hf.next⟩
def badR (R : Int → Int → Int) (most u t : Int) : Bool := decide (R u t = 0) || (decide (0 ≤ most) && decide (most < R u t))
def ansR (R : Int → Int → Int) (es : List Ed) (x : Ed) (b most : Int) : Bool := (tos es b x.2.2).all fun t => !badR R most x.2.1 t
theorem answerless_ok (es : List Ed) (hsz : es.length ≤ 1000) (N : Nat) (hin : inB (N : Int) es) (tl tr : Value) (lvs rvs : List Value) (R : Int → Int → Int) (x : Ed) (hx : x ∈ es) (b : Nat) (hb : b < N) (most : Int) (h : H) (hr : RC2 es N h tl tr lvs rvs R) :
    ∃ h', zbj F (fnV n_i) [tl, tr, edV x, .int .i64 (b : Int), .int .i64 most] h = some (.bool (ansR R es x b most), h') ∧ Fr h h' := by
  suffices hr : Ret F (fnV n_i) [tl, tr, edV x, .int .i64 (b : Int), .int .i64 most] h fun v h' => v = .bool (ansR R es x b most) ∧ Fr h h' by
    obtain ⟨v, h', e, rfl, hf⟩ := hr; exact ⟨h', e, hf⟩
  obtain ⟨P, hPd⟩ : ∃ P : Value → H → Prop, P = fun v h' => v = .bool (ansR R es x b most) ∧ Fr h h' := ⟨_, rfl⟩
  rw [← hPd]
  have hxin := hin x hx
  obtain ⟨u, hu⟩ := Int.eq_ofNat_of_zero_le hxin.2.2.1
  obtain ⟨lv, l1, l2⟩ := hr.lst b hb
  obtain ⟨q, is, m1, m2, m3, m4, m5⟩ := hr.mat u (by omega)
  have hv := l2.slvM
  have hol : (outs es b).length ≤ es.length := by unfold outs; exact List.length_filter_le _ _
  have hf1 : Fr h (h.new (.cells (edL x) 0)) := .new _ _
  have loop : ∀ (k i : Nat) (h1 : H), i + k = (outs es b).length → Fr h h1 → h1.get h.next = some (.cells (edL x) 0) → h.next < h1.next → (∀ y ∈ (outs es b).take i, y.2.2 = x.2.2 → badR R most x.2.1 y.2.1 = false) →
      OkV (sh (rI F) c_i_1 (K_i_1 (rI F)) (setL [p0, p1, p3, p4, p7, p11] [tl, tr, .int .i64 (b : Int), .int .i64 most, ptr h.next, .int .i64 (i : Int)]) h1) P := by
    intro k
    induction k with
    | zero =>
      intro i h1 hi hf gx hl hall
      have e : i = (outs es b).length := by omega
      subst e
      rw [List.take_length] at hall
      obtain ⟨b1, o1, cs1, e1, hv1, hb1, hg1, ht1⟩ := (hr.rl.fr hf).index (i := b) (r := [lv]) (by rw [List.getElem?_map, l1]; rfl)
      refine OkV.eq (OkV.val (v := .bool true) (h := h1) (by
        rw [hPd]
        refine ⟨?_, hf⟩
        congr 1; symm
        refine List.all_eq_true.2 fun t ht => ?_
        obtain ⟨y, hy, q1, q2, rfl⟩ := zfi.1 ht
        rw [hall y (zdC.2 ⟨hy, q1⟩) q2]; rfl)) ?_
      rw [s_i_1]
      simp (disch := first | omega | (simp only [za, zb]; done) | (simp only [za, zb]; omega)) [hv1, hg1, ht1, hv.one, hv.len, s_i_0]
    | succ k ih =>
      intro i h1 hi hf gx hl hall
      have hil : i < (outs es b).length := by omega
      have hfn := hf.next
      have htk : (outs es b).take (i + 1) = (outs es b).take i ++ [(outs es b)[i]] := by rw [List.take_add_one, List.getElem?_eq_getElem hil]; rfl
      have hyo := zdC.1 (List.getElem_mem hil)
      obtain ⟨b1, o1, cs1, e1, hv1, hb1, hg1, ht1⟩ := (hr.rl.fr hf).index (i := b) (r := [lv]) (by rw [List.getElem?_map, l1]; rfl)
      obtain ⟨b2, o2, cs2, e2, hv2, hb2, hg2, ht2⟩ := (l2.fr hf).index (i := i) (r := edL (outs es b)[i]) (by simp [hil])
      have hyin := hin _ hyo.1
      generalize (outs es b)[i] = y at *
      have hf2 : Fr h (h1.new (.cells (edL y) 0)) := hf.newR _
      have next : (y.2.2 = x.2.2 → badR R most x.2.1 y.2.1 = false) → OkV (sh (rI F) c_i_2 (K_i_2 (rI F)) (setL [p0, p1, p3, p4, p7, p11] [tl, tr, .int .i64 (b : Int), .int .i64 most, ptr h.next, .int .i64 (i : Int)]) (h1.new (.cells (edL y) 0))) P := by
        intro hh
        rw [s_i_2]
        have := ih (i + 1) (h1.new (.cells (edL y) 0)) (by omega) hf2 (by rw [zbg (by omega)]; exact gx) (by simp; omega) (fun z hz => by
          rw [htk] at hz
          rcases List.mem_append.1 hz with hz | hz
          · exact hall z hz
          · rw [List.mem_singleton] at hz; subst hz; exact hh)
        refine OkV.eq (this.lp (l_i_1 F _ _ _ _ _ _ _)) ?_
        simp (disch := first | omega | (simp only [za, zb]; done) | (simp only [za, zb]; omega)) [zH]
      rw [s_i_1]
      by_cases c : y.2.2 = x.2.2
      · obtain ⟨w, hw⟩ := Int.eq_ofNat_of_zero_le hyin.2.2.1
        obtain ⟨b3, o3, cs3, e3, hv3, hb3, hg3, ht3⟩ := (hr.rr.fr hf).index (i := u) (r := [slF q N]) (by rw [List.getElem?_map, m1]; rfl)
        have gq : h1.get q = some (.cells (is.map fun i => .int .i64 i) 0) := (hf.get _ m5).trans m2
        have hwN : w < N := by omega
        have rq : zY 1 (zbw w (is.map fun i => Value.int .i64 i)) = some [.int .i64 (R u w)] := zcz (by rw [List.getElem?_map, m4 w hwN]; rfl) rfl
        obtain ⟨x1, x2, x3⟩ := x
        obtain ⟨y1, y2, y3⟩ := y
        obtain rfl : x2 = (u : Int) := hu
        obtain rfl : y2 = (w : Int) := hw
        obtain rfl : y3 = x3 := c
        by_cases c1 : R u w = 0
        · refine OkV.eq (OkV.val (v := .bool false) (h := h1.new (.cells (edL (y1, (w : Int), y3)) 0)) (by
            rw [hPd]
            refine ⟨?_, hf2⟩
            congr 1; symm
            rw [Bool.eq_false_iff]; intro hh
            have := List.all_eq_true.1 hh (w : Int) (zfi.2 ⟨_, hyo.1, hyo.2, rfl, rfl⟩)
            simp [badR, c1] at this)) ?_
          simp (disch := first | omega | (simp only [za, zb]; done) | (simp only [za, zb]; omega)) [hv1, hg1, ht1, hv.one, hv.len, hil, hv2, hg2, ht2, gx, hv3, hg3, ht3, gq, rq, hwN, c1]
        · by_cases c2 : 0 ≤ most
          · by_cases c3 : most < R u w
            · refine OkV.eq (OkV.val (v := .bool false) (h := h1.new (.cells (edL (y1, (w : Int), y3)) 0)) (by
                rw [hPd]
                refine ⟨?_, hf2⟩
                congr 1; symm
                rw [Bool.eq_false_iff]; intro hh
                have := List.all_eq_true.1 hh (w : Int) (zfi.2 ⟨_, hyo.1, hyo.2, rfl, rfl⟩)
                simp [badR, c1, c2, c3] at this)) ?_
              simp (disch := first | omega | (simp only [za, zb]; done) | (simp only [za, zb]; omega)) [hv1, hg1, ht1, hv.one, hv.len, hil, hv2, hg2, ht2, gx, hv3, hg3, ht3, gq, rq, hwN, c1, c2, c3]
            · refine OkV.eq (next fun _ => by simp [badR, c1, c2, c3]) ?_
              simp (disch := first | omega | (simp only [za, zb]; done) | (simp only [za, zb]; omega)) [hv1, hg1, ht1, hv.one, hv.len, hil, hv2, hg2, ht2, gx, hv3, hg3, ht3, gq, rq, hwN, c1, c2, c3]
          · refine OkV.eq (next fun _ => by simp [badR, c1, c2]) ?_
            simp (disch := first | omega | (simp only [za, zb]; done) | (simp only [za, zb]; omega)) [hv1, hg1, ht1, hv.one, hv.len, hil, hv2, hg2, ht2, gx, hv3, hg3, ht3, gq, rq, hwN, c1, c2]
      · refine OkV.eq (next fun h => absurd h c) ?_
        simp (disch := first | omega | (simp only [za, zb]; done) | (simp only [za, zb]; omega)) [hv1, hg1, ht1, hv.one, hv.len, hil, hv2, hg2, ht2, gx, c]
  refine Ret.fn F_i 5 (by decide) ?_
  rw [s_i]
  have := loop (outs es b).length 0 (h.new (.cells (edL x) 0)) (by omega) hf1 (by simp) (by simp) (by simp)
  refine OkV.eq (this.lp (l_i_1 F _ _ _ _ _ _ _)) ?_
  simp (disch := first | omega | (simp only [za, zb]; done) | (simp only [za, zb]; omega)) []
def zd1 (R : Int → Int → Int) (es : List Ed) (a b : Int) : Bool := (outs es a).any fun x => ansR R es x b (-1)
theorem split_ok (es : List Ed) (hsz : es.length ≤ 1000) (N : Nat) (hin : inB (N : Int) es) (tl tr : Value) (lvs rvs : List Value) (R : Int → Int → Int) (a b : Nat) (ha : a < N) (hb : b < N) (h : H) (hr : RC2 es N h tl tr lvs rvs R) :
    ∃ h', zbj F (fnV n_z) [tl, tr, .int .i64 (a : Int), .int .i64 (b : Int)] h = some (.bool (zd1 R es a b), h') ∧ Fr h h' := by
  suffices hr : Ret F (fnV n_z) [tl, tr, .int .i64 (a : Int), .int .i64 (b : Int)] h fun v h' => v = .bool (zd1 R es a b) ∧ Fr h h' by
    obtain ⟨v, h', e, rfl, hf⟩ := hr; exact ⟨h', e, hf⟩
  obtain ⟨P, hPd⟩ : ∃ P : Value → H → Prop, P = fun v h' => v = .bool (zd1 R es a b) ∧ Fr h h' := ⟨_, rfl⟩
  rw [← hPd]
  obtain ⟨lv, l1, l2⟩ := hr.lst a ha
  have hv := l2.slvM
  have hol : (outs es a).length ≤ es.length := by unfold outs; exact List.length_filter_le _ _
  have loop : ∀ (k i : Nat) (h1 : H), i + k = (outs es a).length → Fr h h1 → (∀ x ∈ (outs es a).take i, ansR R es x b (-1) = false) →
      OkV (sh (rI F) c_z_1 (K_z_1 (rI F)) (setL [p0, p1, p2, p3, p9] [tl, tr, .int .i64 (a : Int), .int .i64 (b : Int), .int .i64 (i : Int)]) h1) P := by
    intro k
    induction k with
    | zero =>
      intro i h1 hi hf hall
      have e : i = (outs es a).length := by omega
      subst e
      rw [List.take_length] at hall
      obtain ⟨b1, o1, cs1, e1, hv1, hb1, hg1, ht1⟩ := (hr.rl.fr hf).index (i := a) (r := [lv]) (by rw [List.getElem?_map, l1]; rfl)
      refine OkV.eq (OkV.val (v := .bool false) (h := h1) (by
        rw [hPd]
        refine ⟨?_, hf⟩
        congr 1; symm
        unfold zd1
        rw [List.any_eq_false]
        intro x hx; rw [hall x hx]; simp)) ?_
      rw [s_z_1]
      simp (disch := first | omega | (simp only [za, zb]; done) | (simp only [za, zb]; omega)) [hv1, hg1, ht1, hv.one, hv.len, s_z_0]
    | succ k ih =>
      intro i h1 hi hf hall
      have hil : i < (outs es a).length := by omega
      have hfn := hf.next
      have htk : (outs es a).take (i + 1) = (outs es a).take i ++ [(outs es a)[i]] := by rw [List.take_add_one, List.getElem?_eq_getElem hil]; rfl
      have hxm := List.getElem_mem hil
      have hxo := zdC.1 hxm
      obtain ⟨b1, o1, cs1, e1, hv1, hb1, hg1, ht1⟩ := (hr.rl.fr hf).index (i := a) (r := [lv]) (by rw [List.getElem?_map, l1]; rfl)
      obtain ⟨b2, o2, cs2, e2, hv2, hb2, hg2, ht2⟩ := (l2.fr hf).index (i := i) (r := edL (outs es a)[i]) (by simp [hil])
      generalize (outs es a)[i] = x at *
      obtain ⟨h2, e3, hf2⟩ := answerless_ok es hsz N hin tl tr lvs rvs R x hxo.1 b hb (-1) h1 (hr.fr hf)
      rw [s_z_1]
      cases hc : ansR R es x b (-1) with
      | true =>
        rw [hc] at e3
        refine OkV.eq (OkV.val (v := .bool true) (h := h2) (by
          rw [hPd]
          refine ⟨?_, hf.trans hf2⟩
          congr 1; symm
          unfold zd1
          rw [List.any_eq_true]
          exact ⟨x, hxm, hc⟩)) ?_
        simp (disch := first | omega | (simp only [za, zb]; done) | (simp only [za, zb]; omega)) [hv1, hg1, ht1, hv.one, hv.len, hil, hv2, hg2, ht2, e3]
      | false =>
        rw [hc] at e3
        have := ih (i + 1) h2 (by omega) (hf.trans hf2) (fun z hz => by
          rw [htk] at hz
          rcases List.mem_append.1 hz with hz | hz
          · exact hall z hz
          · rw [List.mem_singleton] at hz; subst hz; exact hc)
        refine OkV.eq (this.lp (l_z_1 F _ _ _ _ _ _)) ?_
        simp (disch := first | omega | (simp only [za, zb]; done) | (simp only [za, zb]; omega)) [hv1, hg1, ht1, hv.one, hv.len, hil, hv2, hg2, ht2, e3, zH]
  refine Ret.fn F_z 4 (by decide) ?_
  rw [s_z]
  have := loop (outs es a).length 0 h (by omega) (.refl _) (by simp)
  refine OkV.eq (this.lp (l_z_1 F _ _ _ _ _ _)) ?_
  simp (disch := first | omega | (simp only [za, zb]; done) | (simp only [za, zb]; omega)) []
end Go.Ideal.J
namespace Go.Ideal.J
open Go Go.Ideal
def zgW (R : Int → Int → Int) (es : List Ed) (a b : Int) : Bool := decide (R a b = 0) && (zd1 R es a b || zd1 R es b a)
def fzA (R : Int → Int → Int) (es : List Ed) (a b : Nat) : List (Int × Int) := ((List.range b).filter fun (b : Nat) => zgW R es (a : Int) (b : Int)).map fun (b : Nat) => ((a : Int), (b : Int))
def fz (R : Int → Int → Int) (es : List Ed) (N a : Nat) : List (Int × Int) := (List.range a).flatMap fun a => fzA R es a N
theorem fzA_succ (R : Int → Int → Int) (es : List Ed) (a b : Nat) : fzA R es a (b + 1) = fzA R es a b ++ if zgW R es a b then [((a : Int), (b : Int))] else [] := by
  unfold fzA
  rw [List.range_succ, List.filter_append, List.map_append]
  congr 1
  by_cases e : zgW R es (a : Int) (b : Int) = true
  · rw [if_pos e]; simp [e]
  · rw [if_neg e]; simp [e]
theorem fz_succ (R : Int → Int → Int) (es : List Ed) (N a : Nat) : fz R es N (a + 1) = fz R es N a ++ fzA R es a N := by
  unfold fz
  rw [List.range_succ, List.flatMap_append]
  simp
theorem fzA_len (R : Int → Int → Int) (es : List Ed) (a b : Nat) : (fzA R es a b).length ≤ b := by
  unfold fzA
  rw [List.length_map]
  exact Nat.le_trans (List.length_filter_le _ _) (by simp)
theorem fz_len (R : Int → Int → Int) (es : List Ed) (N : Nat) : ∀ a, (fz R es N a).length ≤ a * N
  | 0 => by simp [fz]
  | a + 1 => by
    rw [fz_succ, List.length_append, Nat.succ_mul]
    have := fz_len R es N a
    have := fzA_len R es a N
    omega
theorem rnd7 (es : List Ed) (hsz : es.length ≤ 1000) (N : Nat) (hN : N ≤ 200) (hin : inB (N : Int) es) (tl tr : Value) (lvs rvs : List Value) (R : Int → Int → Int) (n : Int) (pg : Nat) (lb : Int) (sl : Value) (hv : SlV sl es.length) (a : Nat) (ha : a < N) (rows : List (Int × Int)) (hrows : rows.length ≤ 100000) (h0 : H) (hr : RC2 es N h0 tl tr lvs rvs R) (hgg : h0.get pg = some (.cells (gL (N : Int) lb sl) 0)) (hpg : pg < h0.next) {P : Value → H → Prop}
    (hP : ∀ h' fv ob, Fr h0 h' → Grow h' 2 fv ((rows ++ fzA R es a N).map prL) ob → (∀ q, ob = some q → h0.next ≤ q) → OkV (sh (rI F) c_c_6 (K_c_6 (rI F)) (setL [p1, p3, p4, p6, p7, p8] [ptr pg, tl, tr, .int .i64 n, fv, .int .i64 (a : Int)]) h') P) :
    ∀ (k b : Nat) (h : H) (fv : Value) (ob : Option Nat), b + k = N → Fr h0 h → Grow h 2 fv ((rows ++ fzA R es a b).map prL) ob → (∀ q, ob = some q → h0.next ≤ q) →
    OkV (sh (rI F) c_c_7 (K_c_7 (rI F)) (setL [p1, p3, p4, p6, p7, p8, p9] [ptr pg, tl, tr, .int .i64 n, fv, .int .i64 (a : Int), .int .i64 (b : Int)]) h) P := by
  intro k
  induction k with
  | zero =>
    intro b h fv ob hb hf hg hob
    have e : b = N := by omega
    subst e
    have gpg := (hf.get _ hpg).trans hgg
    rw [s_c_7]
    simp (disch := first | omega | (simp only [za, zb]; done) | (simp only [za, zb]; omega)) [gpg, hv.one, hv.len]
    exact hP h fv ob hf hg hob
  | succ k ih =>
    intro b h fv ob hb hf hg hob
    have hbN : b < N := by omega
    have hfn := hf.next
    have hsucc := fzA_succ R es a b
    have gpg := (hf.get _ hpg).trans hgg
    have hrh := hr.fr hf
    obtain ⟨q, is, m1, m2, m3, m4, m5⟩ := hrh.mat a ha
    obtain ⟨b3, o3, cs3, e3, hv3, hb3, hg3, ht3⟩ := hrh.rr.index (i := a) (r := [slF q N]) (by rw [List.getElem?_map, m1]; rfl)
    have rq : zY 1 (zbw b (is.map fun i => Value.int .i64 i)) = some [.int .i64 (R a b)] := zcz (by rw [List.getElem?_map, m4 b hbN]; rfl) rfl
    have skip : zgW R es a b = false → ∀ h', Fr h h' → OkV (sh (rI F) c_c_8 (K_c_8 (rI F)) (setL [p1, p3, p4, p6, p7, p8, p9] [ptr pg, tl, tr, .int .i64 n, fv, .int .i64 (a : Int), .int .i64 (b : Int)]) h') P := by
      intro hc h' hf'
      rw [s_c_8]
      have := ih (b + 1) h' fv ob (by omega) (hf.trans hf') (by rw [hsucc, hc]; simpa using hg.fr hf') hob
      refine OkV.eq (this.lp (l_c_7 F _ _ _ _ _ _ _ _)) ?_
      simp (disch := first | omega | (simp only [za, zb]; done) | (simp only [za, zb]; omega)) [zH]
    rw [s_c_7]
    by_cases c : R a b = 0
    · obtain ⟨h1, e1, hf1⟩ := split_ok es hsz N hin tl tr lvs rvs R a b ha hbN h hrh
      have take : ∀ h', zgW R es a b = true → Fr h h' → ∃ h3 fv', bltV (h'.new (.cells [.int .i64 (a : Int), .int .i64 (b : Int)] 0)) (.append 2 16) [fv, .slice (some ⟨h'.next, 0, none⟩) 1 1] = some (fv', h3) ∧ OkV (sh (rI F) c_c_8 (K_c_8 (rI F)) (setL [p1, p3, p4, p6, p7, p8, p9] [ptr pg, tl, tr, .int .i64 n, fv', .int .i64 (a : Int), .int .i64 (b : Int)]) h3) P := by
        intro h' hc hf'
        obtain ⟨h2, eh2⟩ : ∃ h2, h2 = h'.new (.cells [.int .i64 (a : Int), .int .i64 (b : Int)] 0) := ⟨_, rfl⟩
        have hf2 : Fr h h2 := by rw [eh2]; exact hf'.newR _
        have hn2 : h2.next = h'.next + 1 := by rw [eh2]; simp
        have hfn' := hf'.next
        have hfl := fzA_len R es a b
        obtain ⟨h3, fv', ea, hg3, hn3, hf3⟩ := zcg (h := h2) (sz := 2) (bytes := 16) (r := prL ((a : Int), (b : Int))) (b := h'.next) (e := 0) (by omega) (by decide) (hg.fr hf2) (by rw [eh2]; simp) rfl rfl rfl (by rw [List.length_map, List.length_append]; omega)
        refine ⟨h3, fv', by rw [← eh2]; exact ea, ?_⟩
        rw [s_c_8]
        have := ih (b + 1) h3 fv' (some h2.next) (by omega) ⟨by omega, fun i hi => (hf3.get _ (by omega) (fun e => by have := hob _ e; omega)).trans ((hf2.get _ (by omega)).trans (hf.get _ hi))⟩ (by rw [hsucc, if_pos hc, ← List.append_assoc, List.map_append]; exact hg3) (fun q e => by cases e; omega)
        refine OkV.eq (this.lp (l_c_7 F _ _ _ _ _ _ _ _)) ?_
        simp (disch := first | omega | (simp only [za, zb]; done) | (simp only [za, zb]; omega)) [zH]
      cases h1c : zd1 R es a b with
      | true =>
        rw [h1c] at e1
        obtain ⟨h3, fv', ea, ok⟩ := take h1 (by simp [zgW, c, h1c]) hf1
        refine OkV.eq ok ?_
        simp (disch := first | omega | (simp only [za, zb]; done) | (simp only [za, zb]; omega)) [gpg, hv.one, hv.len, hbN, hv3, hg3, ht3, m2, rq, c, e1, zn, zo, ea]
      | false =>
        rw [h1c] at e1
        obtain ⟨h2, e2, hf2⟩ := split_ok es hsz N hin tl tr lvs rvs R b a hbN ha h1 (hrh.fr hf1)
        cases h2c : zd1 R es b a with
        | true =>
          rw [h2c] at e2
          obtain ⟨h3, fv', ea, ok⟩ := take h2 (by simp [zgW, c, h1c, h2c]) (hf1.trans hf2)
          refine OkV.eq ok ?_
          simp (disch := first | omega | (simp only [za, zb]; done) | (simp only [za, zb]; omega)) [gpg, hv.one, hv.len, hbN, hv3, hg3, ht3, m2, rq, c, e1, e2, zn, zo, ea]
        | false =>
          rw [h2c] at e2
          refine OkV.eq (skip (by simp [zgW, h1c, h2c]) h2 (hf1.trans hf2)) ?_
          simp (disch := first | omega | (simp only [za, zb]; done) | (simp only [za, zb]; omega)) [gpg, hv.one, hv.len, hbN, hv3, hg3, ht3, m2, rq, c, e1, e2, zn, zo]
    · refine OkV.eq (skip (by simp [zgW, c]) h (.refl _)) ?_
      simp (disch := first | omega | (simp only [za, zb]; done) | (simp only [za, zb]; omega)) [gpg, hv.one, hv.len, hbN, hv3, hg3, ht3, m2, rq, c, zn, zo]
end Go.Ideal.J
namespace Go.Ideal.J
open Go Go.Ideal
theorem repeat_i0 : ∀ n, zo [Value.int .i64 0] n = List.replicate n (.int .i64 0)
  | 0 => rfl
  | n + 1 => by simp [zo, repeat_i0 n, List.replicate_succ]
theorem make_ints0 {n : Nat} (hn : n ≤ 1000) (h : H) : zbu 8 [.int .i64 0] h (.int .i64 (n : Int)) (.int .i64 (n : Int)) = some (slF h.next n, h.new (.cells (List.replicate n (.int .i64 0)) 0)) := by
  show (if (Nat.ble n n && Nat.ble (n * 8) 1073741824 && Nat.ble n 1073741824) = true then _ else none) = _
  rw [if_pos (by simp; omega), repeat_i0]
theorem map_i64 : ∀ {l l' : List Int}, l.map (fun i => Value.int .i64 i) = l'.map (fun i => Value.int .i64 i) → l = l'
  | [], [], _ => rfl
  | [], _ :: _, h => by simp at h
  | _ :: _, [], h => by simp at h
  | x :: l, y :: l', h => by have h := List.cons.inj h; rw [(Value.int.inj h.1).2, map_i64 h.2]
structure RC3 (es : List Ed) (N : Nat) (lo : Nat) (h : H) (tl tr : Value) (lvs : List Value) (qs : List Nat) (R : Int → Int → Int) : Prop where
  rl : Row h 1 tl (lvs.map fun v => [v])
  rr : Row h 1 tr (qs.map fun q => [slF q N])
  lst : ∀ a : Nat, a < N → ∃ lv, lvs[a]? = some lv ∧ Row h 3 lv ((outs es a).map edL) ∧ ∀ b o n c, lv = .slice (some ⟨b, o, none⟩) n c → b ∉ qs
  nl : ∀ b o n c, tl = .slice (some ⟨b, o, none⟩) n c → b ∉ qs
  nr : ∀ b o n c, tr = .slice (some ⟨b, o, none⟩) n c → b ∉ qs
  nd : qs.Nodup
  ql : ∀ q ∈ qs, lo ≤ q ∧ q < h.next
  len : qs.length = N
  mat : ∀ (a q : Nat), qs[a]? = some q → ∃ is : List Int, h.get q = some (.cells (is.map fun i => .int .i64 i) 0) ∧ is.length = N ∧ ∀ c : Nat, c < N → is[c]? = some (R a c)
theorem RC3.two {es : List Ed} {N lo : Nat} {h : H} {tl tr : Value} {lvs : List Value} {qs : List Nat} {R : Int → Int → Int} (r : RC3 es N lo h tl tr lvs qs R) : RC2 es N h tl tr lvs (qs.map fun q => slF q N) R where
  rl := r.rl
  rr := by rw [List.map_map]; exact r.rr
  lst := fun a ha => by obtain ⟨lv, h1, h2, _⟩ := r.lst a ha; exact ⟨lv, h1, h2⟩
  mat := fun a ha => by
    have hq : qs[a]? = some (qs[a]'(by rw [r.len]; exact ha)) := List.getElem?_eq_getElem _
    obtain ⟨is, h1, h2, h3⟩ := r.mat a _ hq
    exact ⟨_, is, by rw [List.getElem?_map, hq]; rfl, h1, h2, h3, (r.ql _ (List.mem_of_getElem? hq)).2⟩
theorem RC3.fr {es : List Ed} {N lo : Nat} {h h' : H} {tl tr : Value} {lvs : List Value} {qs : List Nat} {R : Int → Int → Int} (r : RC3 es N lo h tl tr lvs qs R) (hf : Fr h h') : RC3 es N lo h' tl tr lvs qs R where
  rl := r.rl.fr hf
  rr := r.rr.fr hf
  lst := fun a ha => by obtain ⟨lv, h1, h2, h3⟩ := r.lst a ha; exact ⟨lv, h1, h2.fr hf, h3⟩
  nl := r.nl
  nr := r.nr
  nd := r.nd
  ql := fun q hq => ⟨(r.ql q hq).1, Nat.lt_of_lt_of_le (r.ql q hq).2 hf.next⟩
  len := r.len
  mat := fun a q hq => by
    obtain ⟨is, h2, h3, h4⟩ := r.mat a q hq
    exact ⟨is, (hf.get _ (r.ql q (List.mem_of_getElem? hq)).2).trans h2, h3, h4⟩
def updR (R : Int → Int → Int) (a b n : Int) : Int → Int → Int := fun c d => if c = a ∧ d = b then n else R c d
theorem RC3.set {es : List Ed} {N lo : Nat} {h : H} {tl tr : Value} {lvs : List Value} {qs : List Nat} {R : Int → Int → Int} (r : RC3 es N lo h tl tr lvs qs R) {a c q : Nat} (ha : qs[a]? = some q) (hc : c < N) (n : Int) {is : List Int} (hg : h.get q = some (.cells (is.map fun i => .int .i64 i) 0)) :
    RC3 es N lo (h.put q (.cells ((is.set c n).map fun i => .int .i64 i) 0)) tl tr lvs qs (updR R a c n) := by
  have hqm := List.mem_of_getElem? ha
  have hf : FrD (fun j => j ∈ qs) h (h.put q (.cells ((is.set c n).map fun i => .int .i64 i) 0)) := (FrD.refl _ h).put (.inr hqm) _
  exact {
    rl := r.rl.frD hf (fun b o n c e hd => r.nl b o n c e hd)
    rr := r.rr.frD hf (fun b o n c e hd => r.nr b o n c e hd)
    lst := fun a ha => by obtain ⟨lv, h1, h2, h3⟩ := r.lst a ha; exact ⟨lv, h1, h2.frD hf (fun b o n c e hd => h3 b o n c e hd), h3⟩
    nl := r.nl
    nr := r.nr
    nd := r.nd
    ql := fun q' hq => by rw [zb]; exact r.ql q' hq
    len := r.len
    mat := fun a' q' hq => by
      obtain ⟨is', h2, h3, h4⟩ := r.mat a' q' hq
      by_cases e : a' = a
      · subst e
        rw [ha] at hq; cases hq
        rw [hg] at h2
        have hii : is' = is := map_i64 (IObj.cells.inj (Option.some.inj h2)).1.symm
        subst hii
        refine ⟨is'.set c n, by simp, by simpa using h3, fun d hd => ?_⟩
        rw [List.getElem?_set]
        unfold updR
        by_cases e : c = d
        · subst e; rw [if_pos rfl, if_pos (by omega), if_pos ⟨rfl, rfl⟩]
        · rw [if_neg e, if_neg (by omega)]; exact h4 d hd
      · have hne : q' ≠ q := by
          intro e2; subst e2
          have h5 : qs[a']? = qs[a]? := by rw [hq, ha]
          have hl : a < qs.length := by
            rcases Nat.lt_or_ge a qs.length with h' | h'
            · exact h'
            · rw [List.getElem?_eq_none h'] at ha; cases ha
          exact e ((List.getElem?_inj hl r.nd).1 h5.symm).symm
        refine ⟨is', by rw [zk (hne)]; exact h2, h3, fun d hd => ?_⟩
        unfold updR
        rw [if_neg (by omega)]; exact h4 d hd }
end Go.Ideal.J
namespace Go.Ideal.J
open Go Go.Ideal
theorem zhn {o : Nat} {cs : List Value} {x y : Int} (h : zY 2 (zbw o cs) = some [.int .i64 x, .int .i64 y]) : zY 1 (zbw o cs) = some [.int .i64 x] ∧ zY 1 (zbw (o + 1) cs) = some [.int .i64 y] := by
  have h1 := (zca h).1
  rw [zcY, zcA] at h1
  split at h1
  · rename_i hl
    have h2 := Option.some.inj h1
    have e0 : cs[o]? = some (.int .i64 x) := by
      have := congrArg (fun l => l[0]?) h2
      simpa [List.getElem?_take, List.getElem?_drop] using this
    have e1 : cs[o + 1]? = some (.int .i64 y) := by
      have := congrArg (fun l => l[1]?) h2
      simpa [List.getElem?_take, List.getElem?_drop] using this
    exact ⟨zcz e0 rfl, zcz e1 rfl⟩
  · cases h1
def updL (R : Int → Int → Int) (n : Int) (l : List (Int × Int)) : Int → Int → Int := l.foldl (fun R p => updR R p.1 p.2 n) R
theorem updL_get (n : Int) : ∀ (l : List (Int × Int)) (R : Int → Int → Int) (c d : Int), updL R n l c d = if (c, d) ∈ l then n else R c d
  | [], R, c, d => by simp [updL]
  | p :: l, R, c, d => by
    show updL (updR R p.1 p.2 n) n l c d = _
    rw [updL_get n l]
    by_cases h : (c, d) ∈ l
    · rw [if_pos h, if_pos (List.mem_cons_of_mem _ h)]
    · rw [if_neg h]
      unfold updR
      by_cases h2 : c = p.1 ∧ d = p.2
      · rw [if_pos h2, if_pos (by rw [h2.1, h2.2]; simp)]
      · rw [if_neg h2, if_neg]
        intro h3
        rcases List.mem_cons.1 h3 with h3 | h3
        · exact h2 ⟨by rw [← h3], by rw [← h3]⟩
        · exact h h3
theorem rnd9 (es : List Ed) (N lo : Nat) (hN : N ≤ 200) (n : Int) (pg : Nat) (tl tr : Value) (lvs : List Value) (qs : List Nat) (l : List (Int × Int)) (hl : l.length ≤ 100000) (hlb : ∀ p ∈ l, ∃ a b : Nat, p = ((a : Int), (b : Int)) ∧ a < N ∧ b < N) (fv : Value) (h0 : H) (hrow : Row h0 2 fv (l.map prL)) (hfq : ∀ b o n c, fv = .slice (some ⟨b, o, none⟩) n c → b ∉ qs) (R : Int → Int → Int) {P : Value → H → Prop}
    (hP : ∀ h', FrD (fun j => j ∈ qs) h0 h' → RC3 es N lo h' tl tr lvs qs (updL R n l) → OkV (sh (rI F) c_c_3 (K_c_3 (rI F)) (setL [p1, p3, p4, p6] [ptr pg, tl, tr, .int .i64 n]) h') P) :
    ∀ (k i : Nat) (h : H), i + k = l.length → FrD (fun j => j ∈ qs) h0 h → RC3 es N lo h tl tr lvs qs (updL R n (l.take i)) →
    OkV (sh (rI F) c_c_9 (K_c_9 (rI F)) (setL [p1, p3, p4, p6, p7, p10] [ptr pg, tl, tr, .int .i64 n, fv, .int .i64 (i : Int)]) h) P := by
  intro k
  have hv := hrow.slvM
  induction k with
  | zero =>
    intro i h hi hf hr
    have e : i = l.length := by omega
    subst e
    rw [List.take_length] at hr
    rw [s_c_9]
    simp (disch := first | omega | (simp only [za, zb]; done) | (simp only [za, zb]; omega)) [hv.one, hv.len]
    exact hP h hf hr
  | succ k ih =>
    intro i h hi hf hr
    have hil : i < l.length := by omega
    have hx : (l.map prL)[i]? = some (prL l[i]) := by simp [hil]
    have htk : l.take (i + 1) = l.take i ++ [l[i]] := by rw [List.take_add_one, List.getElem?_eq_getElem hil]; rfl
    obtain ⟨b1, o1, cs1, e1, hv1, hb1, hg1, ht1⟩ := (hrow.frD hf hfq).index hx
    obtain ⟨a, b, hpe, ha, hb⟩ := hlb _ (List.getElem_mem hil)
    rw [hpe] at ht1 htk
    obtain ⟨t1, t2⟩ := zhn ht1
    have hqa : qs[a]? = some (qs[a]'(by rw [hr.len]; exact ha)) := List.getElem?_eq_getElem _
    generalize qs[a]'(by rw [hr.len]; exact ha) = q at *
    obtain ⟨is, m1, m2, m3⟩ := hr.mat a q hqa
    obtain ⟨b3, o3, cs3, e3, hv3, hb3, hg3, ht3⟩ := hr.rr.index (i := a) (r := [slF q N]) (by rw [List.getElem?_map, hqa]; rfl)
    have hw : zU (is.map fun i => Value.int .i64 i) b [.int .i64 n] = some ((is.set b n).map fun i => Value.int .i64 i) := by
      rw [writeAt_at (by rw [List.length_map, m2]; exact hb)]; simp [List.map_set]
    have := ih (i + 1) (h.put q (.cells ((is.set b n).map fun i => .int .i64 i) 0)) (by omega) (hf.put (.inr (List.mem_of_getElem? hqa)) _) (by
      rw [htk]
      have := hr.set hqa hb n m1
      show RC3 _ _ _ _ _ _ _ _ ((l.take i ++ [((a : Int), (b : Int))]).foldl (fun R p => updR R p.1 p.2 n) R)
      rw [List.foldl_append]; exact this)
    rw [s_c_9]
    refine OkV.eq (this.lp (l_c_9 F _ _ _ _ _ _ _)) ?_
    have a1 : ∀ h' : H, zI 2 1 (.pointer (some ⟨b1, o1, none⟩)) (.int .i64 1) h' = some (.pointer (some ⟨b1, o1 + 1 * 1, none⟩), h') := fun h' => rfl
    have a0 : ∀ h' : H, zI 2 1 (.pointer (some ⟨b1, o1, none⟩)) (.int .i64 0) h' = some (.pointer (some ⟨b1, o1 + 0 * 1, none⟩), h') := fun h' => rfl
    simp (disch := first | omega | (simp only [za, zb]; done) | (simp only [za, zb]; omega)) [hv.one, hv.len, hil, hv1, hg1, t1, t2, a0, a1, hv3, hg3, ht3, m1, hw, hb, zH]
theorem rnd5 (es : List Ed) (hsz : es.length ≤ 1000) (N : Nat) (hN : N ≤ 200) (hin : inB (N : Int) es) (tl tr : Value) (lvs rvs : List Value) (R : Int → Int → Int) (n : Int) (pg : Nat) (lb : Int) (sl : Value) (hv : SlV sl es.length) (h0 : H) (hr : RC2 es N h0 tl tr lvs rvs R) (hgg : h0.get pg = some (.cells (gL (N : Int) lb sl) 0)) (hpg : pg < h0.next) {P : Value → H → Prop}
    (hP : ∀ h' fv ob, Fr h0 h' → Grow h' 2 fv ((fz R es N N).map prL) ob → (∀ q, ob = some q → h0.next ≤ q) → OkV (sh (rI F) c_c_4 (ziC (rI F)) (setL [p1, p3, p4, p6, p7] [ptr pg, tl, tr, .int .i64 n, fv]) h') P) :
    ∀ (k a : Nat) (h : H) (fv : Value) (ob : Option Nat), a + k = N → Fr h0 h → Grow h 2 fv ((fz R es N a).map prL) ob → (∀ q, ob = some q → h0.next ≤ q) →
    OkV (sh (rI F) c_c_5 (K_c_5 (rI F)) (setL [p1, p3, p4, p6, p7, p8] [ptr pg, tl, tr, .int .i64 n, fv, .int .i64 (a : Int)]) h) P := by
  intro k
  induction k with
  | zero =>
    intro a h fv ob ha hf hg hob
    have e : a = N := by omega
    subst e
    have gpg := (hf.get _ hpg).trans hgg
    rw [s_c_5]
    simp (disch := first | omega | (simp only [za, zb]; done) | (simp only [za, zb]; omega)) [gpg, hv.one, hv.len]
    exact hP h fv ob hf hg hob
  | succ k ih =>
    intro a h fv ob ha hf hg hob
    have haN : a < N := by omega
    have gpg := (hf.get _ hpg).trans hgg
    have hfn := hf.next
    have hfl := fz_len R es N a
    have hfl2 : a * N ≤ 200 * 200 := Nat.mul_le_mul (by omega) hN
    have := rnd7 es hsz N hN hin tl tr lvs rvs R n pg lb sl hv a haN (fz R es N a) (by omega) h0 hr hgg hpg (P := P) (fun h' fv' ob' q1 q2 q3 => by
      rw [s_c_6]
      have := ih (a + 1) h' fv' ob' (by omega) q1 (by rw [fz_succ]; exact q2) q3
      refine OkV.eq (this.lp (l_c_5 F _ _ _ _ _ _ _)) ?_
      simp (disch := first | omega | (simp only [za, zb]; done) | (simp only [za, zb]; omega)) [zH]) N 0 h fv ob (by omega) hf (by simpa [fzA] using hg) hob
    rw [s_c_5]
    refine OkV.eq (this.lp (l_c_7 F _ _ _ _ _ _ _ _)) ?_
    simp (disch := first | omega | (simp only [za, zb]; done) | (simp only [za, zb]; omega)) [gpg, hv.one, hv.len, haN]
end Go.Ideal.J
namespace Go.Ideal.J
open Go Go.Ideal
def RZ (es : List Ed) (N k : Nat) (a b : Int) : Int := (rN es N k a b).getD 0
theorem rN_pos {es : List Ed} {N : Nat} : ∀ {k : Nat} {a b : Int} {v : Int}, rN es N k a b = some v → 1 ≤ v
  | 0, a, b, v, h => by cases h
  | k + 1, a, b, v, h => by
    have h : zcF (rN es N k) ((k : Int) + 1) (fnd (rN es N k) es ((k : Int) + 1) N) a b = some v := h
    rw [zbt] at h
    split at h
    · cases h; omega
    · exact rN_pos h
theorem ziA {es : List Ed} {N k : Nat} {a b : Int} : RZ es N k a b = 0 ↔ rN es N k a b = none := by
  unfold RZ
  cases h : rN es N k a b with
  | none => simp
  | some v => have := rN_pos h; simp; omega
theorem ans_told (es : List Ed) (N k : Nat) (x : Ed) (b : Int) : ansR (RZ es N k) es x b (-1) = zft (rN es N k) es x b k := by
  unfold ansR zft
  congr 1
  funext t
  unfold badR zbD
  cases h : rN es N k x.2.1 t with
  | none => simp [ziA.2 h]
  | some v =>
    have h0 : ¬ RZ es N k x.2.1 t = 0 := fun e => by rw [ziA.1 e] at h; cases h
    have := (zc7 h).1
    simp [h0, this, (zc7 h).2.1]
theorem zhQ {α : Type} (p : α → Bool) : ∀ l : List α, (l.find? p).isSome = l.any p
  | [] => rfl
  | a :: l => by
    rw [List.find?_cons, List.any_cons]
    cases h : p a
    · simpa using zhQ p l
    · rfl
theorem split_eq (es : List Ed) (N k : Nat) (a b : Int) : zd1 (RZ es N k) es a b = (zbf (rN es N k) es a b k).isSome := by
  unfold zd1 zbf
  rw [zhQ]
  congr 1
  funext x
  exact ans_told es N k x b
theorem cond_eq (es : List Ed) (N k : Nat) (a b : Int) : zgW (RZ es N k) es a b = zcu (rN es N k) es ((k : Int) + 1) a b := by
  unfold zgW zcu
  rw [split_eq, split_eq, show ((k : Int) + 1 - 1) = k by omega]
  congr 1
  cases h : rN es N k a b with
  | none => simp [ziA.2 h]
  | some v =>
    have h0 : ¬ RZ es N k a b = 0 := fun e => by rw [ziA.1 e] at h; cases h
    simp [h0]
theorem cond_symm (es : List Ed) (N k : Nat) (n a b : Int) : zcu (rN es N k) es n a b = zcu (rN es N k) es n b a := by
  unfold zcu
  rw [zfh k a b, Bool.or_comm]
theorem cond_self (es : List Ed) (N k : Nat) (n a : Int) : zcu (rN es N k) es n a a = false := by
  unfold zcu
  have : zbf (rN es N k) es a a (n - 1) = none := by
    unfold zbf
    rw [List.find?_eq_none]
    intro x hx hh
    have hxo := zdC.1 hx
    have := List.all_eq_true.1 hh x.2.1 (zfi.2 ⟨x, hxo.1, hxo.2, rfl, rfl⟩)
    unfold zbD at this
    cases h : rN es N k x.2.1 x.2.1 with
    | none => rw [h] at this; simp at this
    | some v => exact absurd rfl (zc7 h).2.1
  rw [this]; simp
theorem mem_fz {R : Int → Int → Int} {es : List Ed} {N : Nat} {p : Int × Int} : p ∈ fz R es N N ↔ ∃ a b : Nat, p = ((a : Int), (b : Int)) ∧ a < N ∧ b < N ∧ zgW R es a b = true := by
  unfold fz fzA
  rw [List.mem_flatMap]
  constructor
  · rintro ⟨a, h1, h2⟩
    obtain ⟨b, h3, rfl⟩ := List.mem_map.1 h2
    obtain ⟨h4, h5⟩ := List.mem_filter.1 h3
    exact ⟨a, b, rfl, List.mem_range.1 h1, List.mem_range.1 h4, h5⟩
  · rintro ⟨a, b, rfl, h1, h2, h3⟩
    exact ⟨a, List.mem_range.2 h1, List.mem_map.2 ⟨b, List.mem_filter.2 ⟨List.mem_range.2 h2, h3⟩, rfl⟩⟩
theorem fz_fnd (es : List Ed) (N k : Nat) (a b : Int) : (a, b) ∈ fz (RZ es N k) es N N ↔ (a, b) ∈ fnd (rN es N k) es ((k : Int) + 1) N ∨ (b, a) ∈ fnd (rN es N k) es ((k : Int) + 1) N := by
  constructor
  · intro h
    obtain ⟨c, d, e, h1, h2, h3⟩ := mem_fz.1 h
    cases e
    rw [cond_eq] at h3
    rcases Nat.lt_trichotomy c d with hl | hl | hl
    · exact .inr (zc8.2 ⟨d, c, rfl, h2, hl, by rw [cond_symm]; exact h3⟩)
    · subst hl; rw [cond_self] at h3; cases h3
    · exact .inl (zc8.2 ⟨c, d, rfl, h1, hl, h3⟩)
  · rintro (h | h)
    · obtain ⟨c, d, e, h1, h2, h3⟩ := zc8.1 h
      cases e
      exact mem_fz.2 ⟨c, d, rfl, h1, by omega, by rw [cond_eq]; exact h3⟩
    · obtain ⟨c, d, e, h1, h2, h3⟩ := zc8.1 h
      cases e
      exact mem_fz.2 ⟨d, c, rfl, by omega, h1, by rw [cond_eq, cond_symm]; exact h3⟩
theorem RZ_succ (es : List Ed) (N k : Nat) : updL (RZ es N k) ((k : Int) + 1) (fz (RZ es N k) es N N) = RZ es N (k + 1) := by
  funext a b
  rw [updL_get]
  show _ = (zcF (rN es N k) ((k : Int) + 1) (fnd (rN es N k) es ((k : Int) + 1) N) a b).getD 0
  rw [zbt]
  by_cases h : (a, b) ∈ fz (RZ es N k) es N N
  · rw [if_pos h, if_pos ((fz_fnd es N k a b).1 h)]; rfl
  · rw [if_neg h, if_neg (fun h2 => h ((fz_fnd es N k a b).2 h2))]; rfl
theorem fz_nil (es : List Ed) (N k : Nat) : fz (RZ es N k) es N N = [] ↔ fnd (rN es N k) es ((k : Int) + 1) N = [] := by
  constructor
  · intro h
    cases h2 : fnd (rN es N k) es ((k : Int) + 1) N with
    | nil => rfl
    | cons p l =>
      have : p ∈ fz (RZ es N k) es N N := (fz_fnd es N k p.1 p.2).2 (.inl (by rw [h2]; simp))
      rw [h] at this; cases this
  · intro h
    cases h2 : fz (RZ es N k) es N N with
    | nil => rfl
    | cons p l =>
      have : (p.1, p.2) ∈ fz (RZ es N k) es N N := by rw [h2]; simp
      rw [fz_fnd, h] at this
      rcases this with h | h <;> cases h
end Go.Ideal.J
namespace Go.Ideal.J
open Go Go.Ideal
theorem rnd2 (es : List Ed) (hsz : es.length ≤ 1000) (N : Nat) (hN : N ≤ 200) (hin : inB (N : Int) es) (lo : Nat) (tl tr : Value) (lvs : List Value) (qs : List Nat) (pg : Nat) (lb : Int) (sl : Value) (hv : SlV sl es.length) (hI : H) (hgg : hI.get pg = some (.cells (gL (N : Int) lb sl) 0)) (hpg : pg < hI.next) (hlo : hI.next ≤ lo) {P : Value → H → Prop}
    (hP : ∀ h' k, Fr hI h' → RC3 es N lo h' tl tr lvs qs (RZ es N k) → fnd (rN es N k) es ((k : Int) + 1) N = [] → P tr h') :
    ∀ (μ k : Nat) (h : H), meas N (rN es N k) = μ → k + μ ≤ 100000 → Fr hI h → RC3 es N lo h tl tr lvs qs (RZ es N k) →
    OkV (sh (rI F) c_c_2 (K_c_2 (rI F)) (setL [p1, p3, p4, p6] [ptr pg, tl, tr, .int .i64 ((k : Int) + 1)]) h) P := by
  intro μ
  induction μ using Nat.strongRecOn with
  | _ μ ih =>
    intro k h hμ hk hf hr
    have hfn := hf.next
    have gpg := (hf.get _ hpg).trans hgg
    rw [s_c_2]
    have := rnd5 es hsz N hN hin tl tr lvs (qs.map fun q => slF q N) (RZ es N k) ((k : Int) + 1) pg lb sl hv h hr.two gpg (by omega) (P := P)
      (fun h' fv ob hf' hg' hob' => by
        have hfn' := hf'.next
        have hfv := hg'.slvM
        have htv := hr.rr.slvM
        rw [s_c_4]
        by_cases hnil : fz (RZ es N k) es N N = []
        · have hl0 : (fz (RZ es N k) es N N).length = 0 := by rw [hnil]; rfl
          refine OkV.eq (OkV.val (hP h' k (hf.trans hf') (hr.fr hf') ((fz_nil es N k).1 hnil))) ?_
          simp (disch := first | omega | (simp only [za, zb]; done) | (simp only [za, zb]; omega)) [hfv.len, hl0, hfv.one]
        · have hl0 : ¬ ((fz (RZ es N k) es N N).length : Int) = 0 := by
            have := List.length_pos_iff.2 hnil; omega
          have hfl := fz_len (RZ es N k) es N N
          have hNN : N * N ≤ 200 * 200 := Nat.mul_le_mul hN hN
          have hlt := meas_lt (fun e => hnil ((fz_nil es N k).2 e))
          have h9 := rnd9 es N lo hN ((k : Int) + 1) pg tl tr lvs qs (fz (RZ es N k) es N N) (by omega) (fun p hp => by obtain ⟨a, b, e, h1, h2, _⟩ := mem_fz.1 hp; exact ⟨a, b, e, h1, h2⟩) fv h' (hg'.row (by omega)) (fun b o n c e hd => by have := hob' _ (hg'.block e); have := (hr.ql b hd).2; omega) (RZ es N k) (P := P)
            (fun h'' hf'' hr'' => by
              rw [s_c_3]
              rw [RZ_succ] at hr''
              have := ih (meas N (rN es N (k + 1))) (by rw [← hμ]; exact hlt) (k + 1) h'' rfl (by
                have : meas N (rN es N (k + 1)) < μ := by rw [← hμ]; exact hlt
                omega) ((hf.trans hf').transD hf'' (fun i hi hd => by have := (hr.ql i hd).1; omega)) hr''
              refine OkV.eq (this.lp (l_c_2 F _ _ _ _ _)) ?_
              simp (disch := first | omega | (simp only [za, zb]; done) | (simp only [za, zb]; omega)) [zH]) (fz (RZ es N k) es N N).length 0 h' (by omega) (.refl _ _) (by simpa [updL] using hr.fr hf')
          refine OkV.eq (h9.lp (l_c_9 F _ _ _ _ _ _ _)) ?_
          simp (disch := first | omega | (simp only [za, zb]; done) | (simp only [za, zb]; omega)) [hfv.len, hl0, hfv.one, hnil]) N 0 h (.slice none 0 0) none (by omega) (.refl _) (by simpa [fz] using Grow.nil) (by simp)
    refine OkV.eq (this.lp (l_c_5 F _ _ _ _ _ _ _)) ?_
    simp (disch := first | omega | (simp only [za, zb]; done) | (simp only [za, zb]; omega)) []
structure RC1 (es : List Ed) (N lo i : Nat) (h : H) (ob1 ob2 : Option Nat) (lvs : List Value) (qs : List Nat) : Prop where
  l1 : lvs.length = i
  l2 : qs.length = i
  lst : ∀ a : Nat, a < i → ∃ lv, lvs[a]? = some lv ∧ Row h 3 lv ((outs es a).map edL) ∧ ∀ b o n c, lv = .slice (some ⟨b, o, none⟩) n c → b ∉ qs ∧ ob1 ≠ some b ∧ ob2 ≠ some b
  nd : qs.Nodup
  ql : ∀ q ∈ qs, lo ≤ q ∧ q < h.next ∧ ob1 ≠ some q ∧ ob2 ≠ some q
  mat : ∀ q ∈ qs, h.get q = some (.cells (List.replicate N (.int .i64 0)) 0)
  ne : ∀ q, ob1 = some q → ob2 ≠ some q
  o1 : ∀ q, ob1 = some q → lo ≤ q ∧ q < h.next
  o2 : ∀ q, ob2 = some q → lo ≤ q ∧ q < h.next
theorem rnd1 (es : List Ed) (hsz : es.length ≤ 1000) (N : Nat) (hN : N ≤ 200) (lo : Nat) (pg : Nat) (lb : Int) (sl : Value) (hI : H) (hrow : Row hI 3 sl (es.map edL)) (hgg : hI.get pg = some (.cells (gL (N : Int) lb sl) 0)) (hpg : pg < hI.next) (hlo : lo = hI.next) {P : Value → H → Prop}
    (hP : ∀ h' tl tr lvs qs, Fr hI h' → RC3 es N lo h' tl tr lvs qs (RZ es N 0) → OkV (sh (rI F) c_c_0 (ziD (rI F)) (setL [p1, p3, p4] [ptr pg, tl, tr]) h') P) :
    ∀ (k i : Nat) (h : H) (tl tr : Value) (lvs : List Value) (qs : List Nat) (ob1 ob2 : Option Nat), i + k = N → Fr hI h → Grow h 1 tl (lvs.map fun v => [v]) ob1 → Grow h 1 tr (qs.map fun q => [slF q N]) ob2 → RC1 es N lo i h ob1 ob2 lvs qs →
    OkV (sh (rI F) c_c_1 (K_c_1 (rI F)) (setL [p1, p3, p4, p5] [ptr pg, tl, tr, .int .i64 (i : Int)]) h) P := by
  intro k
  induction k with
  | zero =>
    intro i h tl tr lvs qs ob1 ob2 hi hf hg1 hg2 hr
    have e : i = N := by omega
    subst e
    have gpg := (hf.get _ hpg).trans hgg
    have hv := hrow.slvM
    rw [s_c_1]
    simp (disch := first | omega | (simp only [za, zb]; done) | (simp only [za, zb]; omega)) [gpg, hv.one, hv.len]
    refine hP h tl tr lvs qs hf ?_
    exact {
      rl := hg1.row (by omega)
      rr := hg2.row (by omega)
      lst := fun a ha => by obtain ⟨lv, h1, h2, h3⟩ := hr.lst a ha; exact ⟨lv, h1, h2, fun b o n c e => (h3 b o n c e).1⟩
      nl := fun b o n c e hd => (hr.ql b hd).2.2.1 (hg1.block e)
      nr := fun b o n c e hd => (hr.ql b hd).2.2.2 (hg2.block e)
      nd := hr.nd
      ql := fun q hq => ⟨(hr.ql q hq).1, (hr.ql q hq).2.1⟩
      len := hr.l2
      mat := fun a q hq => ⟨List.replicate i 0, by rw [hr.mat q (List.mem_of_getElem? hq)]; simp, by simp, fun c hc => by rw [List.getElem?_replicate, if_pos hc]; rfl⟩ }
  | succ k ih =>
    intro i h tl tr lvs qs ob1 ob2 hi hf hg1 hg2 hr
    have hiN : i < N := by omega
    have gpg := (hf.get _ hpg).trans hgg
    have hv := hrow.slvM
    have hfn := hf.next
    obtain ⟨lv, h1, es1, ov, hf1, hgl, hov⟩ : ∃ lv h1, zbj F (fnV n_q) [gV (N : Int) lb sl, .int .i64 (i : Int)] h = some (lv, h1) ∧ ∃ ov, Fr h h1 ∧ Grow h1 3 lv ((outs es i).map edL) ov ∧ (∀ b, ov = some b → h.next ≤ b) := by
      obtain ⟨v, h', e, q⟩ := zhx es hsz i (N : Int) lb sl h (hrow.fr hf) (P := fun v h' => ∃ ov, Fr h h' ∧ Grow h' 3 v ((outs es i).map edL) ov ∧ (∀ b, ov = some b → h.next ≤ b)) (fun h' v ob q1 q2 q3 => ⟨ob, q1, q2, q3⟩)
      exact ⟨v, h', e, q⟩
    have hfn1 := hf1.next
    obtain ⟨bv, cv, elv⟩ := hgl.len
    have hcl : zi lv = [lv] := by rw [elv]; rfl
    obtain ⟨h2, eh2⟩ : ∃ h2, h2 = h1.new (.cells [lv] 0) := ⟨_, rfl⟩
    have hf2 : Fr h h2 := by rw [eh2]; exact hf1.newR _
    have hn2 : h2.next = h1.next + 1 := by rw [eh2]; simp
    obtain ⟨h3, tl', ea, hg3, hn3, hf3⟩ := zcg (h := h2) (sz := 1) (bytes := 24) (r := [lv]) (b := h1.next) (e := 0) (by omega) (by decide) (hg1.fr hf2) (by rw [eh2]; simp) rfl (by rw [elv]; rfl) (by rw [elv]; rfl) (by rw [List.length_map, hr.l1]; omega)
    have hmk := make_ints0 (n := N) (by omega) h3
    obtain ⟨h4, eh4⟩ : ∃ h4, h4 = h3.new (.cells (List.replicate N (.int .i64 0)) 0) := ⟨_, rfl⟩
    have hn4 : h4.next = h3.next + 1 := by rw [eh4]; simp
    obtain ⟨h5, eh5⟩ : ∃ h5, h5 = h4.new (.cells [slF h3.next N] 0) := ⟨_, rfl⟩
    have hn5 : h5.next = h4.next + 1 := by rw [eh5]; simp
    have hf35 : Fr h3 h5 := by rw [eh5, eh4]; exact (Fr.new _ _).newR _
    have hd1 : ∀ j, ob1 = some j → lo ≤ j ∧ j < h.next := hr.o1
    have hd2 : ∀ j, ob2 = some j → lo ≤ j ∧ j < h.next := hr.o2
    have hfa : FrD (fun j => ob1 = some j) h h3 := hf2.D.trans hf3
    have hg2' : Grow h5 1 tr (qs.map fun q => [slF q N]) ob2 := (hg2.frD hfa (fun b e e' => hr.ne b e' e)).fr hf35
    obtain ⟨h6, tr', eb, hg6, hn6, hf6⟩ := zcg (h := h5) (sz := 1) (bytes := 24) (r := [slF h3.next N]) (b := h4.next) (e := 0) (by omega) (by decide) hg2' (by rw [eh5]; simp) rfl rfl rfl (by rw [List.length_map, hr.l2]; omega)
    have hfD : FrD (fun j => ob1 = some j ∨ ob2 = some j) h h6 := ((hfa.mono (fun _ _ h => .inl h)).trans hf35.D).trans (hf6.mono (fun _ _ h => .inr h))
    have hf36 : FrD (fun j => ob2 = some j) h3 h6 := hf35.D.trans hf6
    have hf16 : FrD (fun j => ob1 = some j ∨ ob2 = some j) h1 h6 := ((((Fr.new h1 (.cells [lv] 0)).D (D := fun j => ob1 = some j ∨ ob2 = some j)).trans (by rw [← eh2]; exact hf3.mono (fun _ _ h => .inl h))).trans hf35.D).trans (hf6.mono (fun _ _ h => .inr h))
    have hr' : RC1 es N lo (i + 1) h6 (some h2.next) (some h5.next) (lvs ++ [lv]) (qs ++ [h3.next]) := {
      l1 := by simp [hr.l1]
      l2 := by simp [hr.l2]
      lst := fun a ha => by
        by_cases e : a = i
        · subst e
          refine ⟨lv, by rw [List.getElem?_append_right (by rw [hr.l1]; omega), hr.l1]; simp, ?_, ?_⟩
          · exact (hgl.row (by omega)).frD hf16 (fun b o n c e hd => by
              have := hov _ (hgl.block e)
              rcases hd with hd | hd
              · have := hd1 _ hd; omega
              · have := hd2 _ hd; omega)
          · intro b o n c e
            have hb1 := hov _ (hgl.block e)
            have hb2 := (hgl.row (by omega)).lt e
            refine ⟨fun hd => ?_, ?_, ?_⟩
            · rcases List.mem_append.1 hd with hd | hd
              · have := (hr.ql b hd).2.1; omega
              · rw [List.mem_singleton] at hd; omega
            · intro e2; cases e2; omega
            · intro e2; cases e2; omega
        · obtain ⟨lv', q1, q2, q3⟩ := hr.lst a (by omega)
          refine ⟨lv', by rw [List.getElem?_append_left (by rw [hr.l1]; omega)]; exact q1, ?_, ?_⟩
          · exact q2.frD hfD (fun b o n c e hd => by
              rcases hd with hd | hd
              · exact (q3 b o n c e).2.1 hd
              · exact (q3 b o n c e).2.2 hd)
          · intro b o n c e
            have hb2 := q2.lt e
            refine ⟨fun hd => ?_, ?_, ?_⟩
            · rcases List.mem_append.1 hd with hd | hd
              · exact (q3 b o n c e).1 hd
              · rw [List.mem_singleton] at hd; omega
            · intro e2; cases e2; omega
            · intro e2; cases e2; omega
      nd := by
        rw [List.nodup_append]
        refine ⟨hr.nd, by simp, fun a ha b hb => ?_⟩
        rw [List.mem_singleton] at hb
        have := (hr.ql a ha).2.1
        omega
      ql := fun q hq => by
        rcases List.mem_append.1 hq with hq | hq
        · have := hr.ql q hq
          exact ⟨this.1, by omega, by intro e; cases e; omega, by intro e; cases e; omega⟩
        · rw [List.mem_singleton] at hq; subst hq
          exact ⟨by omega, by omega, by intro e; have := Option.some.inj e; omega, by intro e; have := Option.some.inj e; omega⟩
      mat := fun q hq => by
        rcases List.mem_append.1 hq with hq | hq
        · have := hr.ql q hq
          rw [hfD.get q this.2.1 (fun hd => hd.elim this.2.2.1 this.2.2.2)]
          exact hr.mat q hq
        · rw [List.mem_singleton] at hq; subst hq
          rw [hf6.get _ (by omega) (fun hd => by have := hd2 _ hd; omega), eh5, zbg (by omega), eh4]; simp
      ne := fun q e1 e2 => by have := Option.some.inj e1; have := Option.some.inj e2; omega
      o1 := fun q e => by cases e; omega
      o2 := fun q e => by cases e; omega }
    have := ih (i + 1) h6 tl' tr' (lvs ++ [lv]) (qs ++ [h3.next]) (some h2.next) (some h5.next) (by omega) (hf.transD hfD (fun j hj hd => by
        rcases hd with hd | hd
        · have := hd1 _ hd; omega
        · have := hd2 _ hd; omega)) (by
        rw [List.map_append]
        exact hg3.frD hf36 (fun b e hd => by cases e; have := hd2 _ hd; omega)) (by rw [List.map_append]; exact hg6) hr'
    have gpg3 : h3.get pg = some (.cells (gL (N : Int) lb sl) 0) := (hfa.get _ (by omega) (fun hd => by have := hd1 _ hd; omega)).trans gpg
    rw [s_c_1]
    refine OkV.eq (this.lp (l_c_1 F _ _ _ _ _)) ?_
    simp (disch := first | omega | (simp only [za, zb]; done) | (simp only [za, zb]; omega)) [gpg, hiN, hv.one, hv.len, hv.clean, hv.take, hv.eqc, es1, zn, zo, hcl, gpg3, ← eh2, ea, hmk, ← eh4, ← eh5, eb, zH]
structure RndA (es : List Ed) (N k lo : Nat) (h : H) (tl tr : Value) (lvs : List Value) (qs : List Nat) : Prop where
  r3 : RC3 es N lo h tl tr lvs qs (RZ es N k)
  fin : fnd (rN es N k) es ((k : Int) + 1) N = []
theorem Rounds_ok (es : List Ed) (hsz : es.length ≤ 1000) (N : Nat) (hN : N ≤ 200) (hin : inB (N : Int) es) (lb : Int) (sl : Value) (h : H) (hrow : Row h 3 sl (es.map edL)) :
    Ret F (fnV n_c) [gV (N : Int) lb sl] h fun v h' => ∃ k tl lvs qs, Fr h h' ∧ RndA es N k h.next h' tl v lvs qs := by
  refine Ret.fn F_c 1 (by decide) ?_
  obtain ⟨P, hPd⟩ : ∃ P : Value → H → Prop, P = fun v h' => ∃ k tl lvs qs, Fr h h' ∧ RndA es N k h.next h' tl v lvs qs := ⟨_, rfl⟩
  rw [← hPd]
  rw [s_c]
  have hv := hrow.slvM
  obtain ⟨h2, eh2⟩ : ∃ h2, h2 = h.new (.cells (gL (N : Int) lb sl) 0) := ⟨_, rfl⟩
  have hf2 : Fr h h2 := by rw [eh2]; exact .new _ _
  have hn2 : h2.next = h.next + 1 := by rw [eh2]; simp
  have g2 : h2.get h.next = some (.cells (gL (N : Int) lb sl) 0) := by rw [eh2]; simp
  have hNN : N * N ≤ 200 * 200 := Nat.mul_le_mul hN hN
  have := rnd1 es hsz N hN h2.next h.next lb sl h2 (hrow.fr hf2) g2 (by omega) rfl (P := P) (fun h' tl tr lvs qs hf hr => by
    rw [s_c_0]
    have := rnd2 es hsz N hN hin h2.next tl tr lvs qs h.next lb sl hv h2 g2 (by omega) (by omega) (P := P) (fun h'' k q1 q2 q3 => by
      rw [hPd]
      exact ⟨k, tl, lvs, qs, hf2.trans q1, { q2 with ql := fun q hq => ⟨by have := (q2.ql q hq).1; omega, (q2.ql q hq).2⟩ }, q3⟩) (meas N (rN es N 0)) 0 h' rfl (by have := meas_le N (rN es N 0); omega) hf hr
    refine OkV.eq (this.lp (l_c_2 F _ _ _ _ _)) ?_
    simp (disch := first | omega | (simp only [za, zb]; done) | (simp only [za, zb]; omega)) []) N 0 h2 (.slice none 0 0) (.slice none 0 0) [] [] none none (by omega) (.refl _) .nil .nil
    { l1 := rfl, l2 := rfl, lst := fun a ha => by omega, nd := by simp, ql := by simp, mat := by simp, ne := by simp, o1 := by simp, o2 := by simp }
  refine OkV.eq (this.lp (l_c_1 F _ _ _ _ _)) ?_
  simp (disch := first | omega | (simp only [za, zb]; done) | (simp only [za, zb]; omega)) [hv.clean, hv.take, ← eh2]
end Go.Ideal.J
namespace Go.Ideal.J
open Go Go.Ideal
inductive Fml where | mk (op lab : Int) (kids : List Fml)
mutual
def sz : Fml → Nat
  | .mk _ _ ks => 1 + szs ks
def szs : List Fml → Nat
  | [] => 0
  | k :: ks => sz k + szs ks
end
theorem fnd_none {es : List Ed} {N k : Nat} {n : Int} {a b : Int} (h : (a, b) ∈ fnd (rN es N k) es n N ∨ (b, a) ∈ fnd (rN es N k) es n N) : rN es N k a b = none := by
  rcases h with h | h
  · obtain ⟨c, d, e, _, _, h3⟩ := zc8.1 h
    cases e
    unfold zcu at h3
    simp only [Bool.and_eq_true] at h3
    simpa using h3.1
  · obtain ⟨c, d, e, _, _, h3⟩ := zc8.1 h
    cases e
    unfold zcu at h3
    simp only [Bool.and_eq_true] at h3
    rw [zfh]
    simpa using h3.1
theorem tells_succ (es : List Ed) (N k : Nat) (j : Int) (hj : j ≤ k) (u t : Int) : zbD (rN es N (k + 1)) j u t = zbD (rN es N k) j u t := by
  unfold zbD
  congr 1
  show (match zcF (rN es N k) ((k : Int) + 1) (fnd (rN es N k) es ((k : Int) + 1) N) u t with | some k => decide (k ≤ j) | none => false) = _
  rw [zbt]
  by_cases h : (u, t) ∈ fnd (rN es N k) es ((k : Int) + 1) N ∨ (t, u) ∈ fnd (rN es N k) es ((k : Int) + 1) N
  · rw [if_pos h, fnd_none h]
    simp; omega
  · rw [if_neg h]; cases rN es N k u t <;> rfl
theorem tells_stable (es : List Ed) (N : Nat) {j k : Nat} (h : j ≤ k) (u t : Int) : zbD (rN es N k) j u t = zbD (rN es N j) j u t := by
  induction k with
  | zero => have : j = 0 := by omega
            subst this; rfl
  | succ k ih =>
    by_cases e : j = k + 1
    · subst e; rfl
    · rw [tells_succ es N k j (by omega), ih (by omega)]
theorem zbR (es : List Ed) (N : Nat) {j k : Nat} (h : j ≤ k) (a b : Int) : zbf (rN es N k) es a b j = zbf (rN es N j) es a b j := by
  unfold zbf
  congr 1
  funext x
  unfold zft
  congr 1
  funext t
  exact tells_stable es N h x.2.1 t
theorem rN_found {es : List Ed} {N : Nat} : ∀ {k : Nat} {a b v : Int}, rN es N k a b = some v → (zbf (rN es N k) es a b (v - 1)).isSome = true ∨ (zbf (rN es N k) es b a (v - 1)).isSome = true
  | 0, a, b, v, h => by cases h
  | k + 1, a, b, v, h => by
    have h0 := h
    have h : zcF (rN es N k) ((k : Int) + 1) (fnd (rN es N k) es ((k : Int) + 1) N) a b = some v := h
    rw [zbt] at h
    have key : ∀ a b : Int, (a, b) ∈ fnd (rN es N k) es ((k : Int) + 1) N → (zbf (rN es N (k + 1)) es a b k).isSome = true ∨ (zbf (rN es N (k + 1)) es b a k).isSome = true := by
      intro a b hm
      obtain ⟨c, d, e, _, _, h3⟩ := zc8.1 hm
      cases e
      unfold zcu at h3
      simp only [Bool.and_eq_true, Bool.or_eq_true] at h3
      rw [show ((k : Int) + 1 - 1) = k by omega] at h3
      rw [zbR es N (by omega : k ≤ k + 1), zbR es N (by omega : k ≤ k + 1)]
      exact h3.2
    split at h
    · rename_i hm
      cases h
      rw [show ((k : Int) + 1 - 1) = k by omega]
      rcases hm with hm | hm
      · exact key a b hm
      · exact (key b a hm).symm
    · have := rN_found h
      have h1 := rN_pos h
      have h2 := (zc7 h).1
      obtain ⟨j, hj⟩ := Int.eq_ofNat_of_zero_le (show 0 ≤ v - 1 by omega)
      rw [hj] at this ⊢
      have hjk : j ≤ k := by omega
      rw [zbR es N (by omega : j ≤ k + 1), zbR es N (by omega : j ≤ k + 1)]
      rw [zbR es N hjk, zbR es N hjk] at this
      exact this
def tf (r : Int → Int → Option Int) (es : List Ed) : Nat → Int → Int → Fml
  | 0, _, _ => .mk 0 0 []
  | n + 1, a, b => match zbf r es a b ((r a b).getD 0 - 1) with
    | some x => .mk 4 x.2.2 [.mk 3 0 ((tos es b x.2.2).map fun t => tf r es n x.2.1 t)]
    | none => .mk 2 0 [tf r es n b a]
def Ok (es : List Ed) (N k : Nat) (n : Nat) (a b : Int) : Prop := ∃ v, rN es N k a b = some v ∧ 2 * v ≤ n ∧ (zbf (rN es N k) es a b (v - 1) = none → 2 * v + 1 ≤ n)
theorem Ok.mono {es : List Ed} {N k n m : Nat} {a b : Int} (h : Ok es N k n a b) (hm : n ≤ m) : Ok es N k m a b := by
  obtain ⟨v, h1, h2, h3⟩ := h
  exact ⟨v, h1, by omega, fun e => by have := h3 e; omega⟩
theorem Ok.not {es : List Ed} {N k n : Nat} {a b v : Int} (h : Ok es N k (n + 1) a b) (hv : rN es N k a b = some v) (hx : zbf (rN es N k) es a b (v - 1) = none) : Ok es N k n b a := by
  obtain ⟨v', h1, h2, h3⟩ := h
  rw [hv] at h1; cases h1
  refine ⟨v, by rw [zfh]; exact hv, by have := h3 hx; omega, fun e => ?_⟩
  rcases rN_found hv with h | h
  · rw [hx] at h; cases h
  · rw [e] at h; cases h
def TF (es : List Ed) (N k : Nat) (a b : Int) : Fml := tf (rN es N k) es (2 * k + 2) a b
end Go.Ideal.J
namespace Go.Ideal.J
open Go Go.Ideal
abbrev fmL (op lab : Int) (slv : Value) : List Value := [.int .i64 op, .int .i64 lab, slv]
mutual
def FV (B : Nat → Prop) (h : H) : Fml → List Value → Prop
  | .mk op lab ks, r => ∃ slv rows, r = fmL op lab slv ∧ Row h 3 slv rows ∧ (∀ b o n c, slv = .slice (some ⟨b, o, none⟩) n c → B b) ∧ rows.length ≤ 100000 ∧ FVs B h ks rows
def FVs (B : Nat → Prop) (h : H) : List Fml → List (List Value) → Prop
  | [], rows => rows = []
  | k :: ks, rows => ∃ r rs, rows = r :: rs ∧ FV B h k r ∧ FVs B h ks rs
end
mutual
theorem FV.mono {B C : Nat → Prop} {h : H} (hBC : ∀ b, b < h.next → B b → C b) : ∀ {f : Fml} {r : List Value}, FV B h f r → FV C h f r
  | .mk op lab ks, r, hf => by
    unfold FV at hf ⊢
    obtain ⟨slv, rows, h1, h2, h3, h4, h5⟩ := hf
    exact ⟨slv, rows, h1, h2, fun b o n c e => hBC b (h2.lt e) (h3 b o n c e), h4, FVs.mono hBC h5⟩
theorem FVs.mono {B C : Nat → Prop} {h : H} (hBC : ∀ b, b < h.next → B b → C b) : ∀ {fs : List Fml} {rs : List (List Value)}, FVs B h fs rs → FVs C h fs rs
  | [], rs, hf => by unfold FVs at hf ⊢; exact hf
  | f :: fs, rs, hf => by
    unfold FVs at hf ⊢
    obtain ⟨r, rs', h1, h2, h3⟩ := hf
    exact ⟨r, rs', h1, FV.mono hBC h2, FVs.mono hBC h3⟩
end
mutual
theorem FV.frD {B D : Nat → Prop} {h h' : H} (hf' : FrD D h h') (hBC : ∀ b, b < h.next → B b → ¬ D b) : ∀ {f : Fml} {r : List Value}, FV B h f r → FV B h' f r
  | .mk op lab ks, r, hf => by
    unfold FV at hf ⊢
    obtain ⟨slv, rows, h1, h2, h3, h4, h5⟩ := hf
    exact ⟨slv, rows, h1, h2.frD hf' (fun b o n c e => hBC b (h2.lt e) (h3 b o n c e)), h3, h4, FVs.frD hf' hBC h5⟩
theorem FVs.frD {B D : Nat → Prop} {h h' : H} (hf' : FrD D h h') (hBC : ∀ b, b < h.next → B b → ¬ D b) : ∀ {fs : List Fml} {rs : List (List Value)}, FVs B h fs rs → FVs B h' fs rs
  | [], rs, hf => by unfold FVs at hf ⊢; exact hf
  | f :: fs, rs, hf => by
    unfold FVs at hf ⊢
    obtain ⟨r, rs', h1, h2, h3⟩ := hf
    exact ⟨r, rs', h1, FV.frD hf' hBC h2, FVs.frD hf' hBC h3⟩
end
mutual
theorem FV.bnd {B : Nat → Prop} {h : H} : ∀ {f : Fml} {r : List Value}, FV B h f r → FV (fun b => B b ∧ b < h.next) h f r
  | .mk op lab ks, r, hf => by
    unfold FV at hf ⊢
    obtain ⟨slv, rows, h1, h2, h3, h4, h5⟩ := hf
    exact ⟨slv, rows, h1, h2, fun b o n c e => ⟨h3 b o n c e, h2.lt e⟩, h4, FVs.bnd h5⟩
theorem FVs.bnd {B : Nat → Prop} {h : H} : ∀ {fs : List Fml} {rs : List (List Value)}, FVs B h fs rs → FVs (fun b => B b ∧ b < h.next) h fs rs
  | [], rs, hf => by unfold FVs at hf ⊢; exact hf
  | f :: fs, rs, hf => by
    unfold FVs at hf ⊢
    obtain ⟨r, rs', h1, h2, h3⟩ := hf
    exact ⟨r, rs', h1, FV.bnd h2, FVs.bnd h3⟩
end
theorem FVs.append {B : Nat → Prop} {h : H} {g : Fml} {q : List Value} (hg : FV B h g q) : ∀ {fs : List Fml} {rs : List (List Value)}, FVs B h fs rs → FVs B h (fs ++ [g]) (rs ++ [q])
  | [], rs, hf => by
    unfold FVs at hf; subst hf
    show FVs B h [g] [q]
    unfold FVs
    exact ⟨q, [], rfl, hg, by unfold FVs; rfl⟩
  | f :: fs, rs, hf => by
    unfold FVs at hf
    obtain ⟨r, rs', rfl, h2, h3⟩ := hf
    show FVs B h (f :: (fs ++ [g])) (r :: (rs' ++ [q]))
    unfold FVs
    exact ⟨r, _, rfl, h2, FVs.append hg h3⟩
theorem FVs.len {B : Nat → Prop} {h : H} : ∀ {fs : List Fml} {rs : List (List Value)}, FVs B h fs rs → rs.length = fs.length
  | [], rs, hf => by unfold FVs at hf; rw [hf]; rfl
  | f :: fs, rs, hf => by
    unfold FVs at hf
    obtain ⟨r, rs', rfl, h2, h3⟩ := hf
    rw [List.length_cons, List.length_cons, FVs.len h3]
theorem FVs.at {B : Nat → Prop} {h : H} : ∀ {fs : List Fml} {rs : List (List Value)}, FVs B h fs rs → ∀ {i : Nat} {f : Fml}, fs[i]? = some f → ∃ r, rs[i]? = some r ∧ FV B h f r
  | [], rs, hf, i, f, hi => by simp at hi
  | g :: fs, rs, hf, i, f, hi => by
    unfold FVs at hf
    obtain ⟨r, rs', rfl, h2, h3⟩ := hf
    cases i with
    | zero => simp at hi; subst hi; exact ⟨r, rfl, h2⟩
    | succ i => exact FVs.at h3 (by simpa using hi)
theorem FV.cells {B : Nat → Prop} {h : H} {f : Fml} {r : List Value} (hf : FV B h f r) : ∃ op lab bs n c, r = fmL op lab (.slice bs n c) ∧ r.length = 3 ∧ r.all zX = true ∧ r.all zbn = true := by
  cases f with
  | mk op lab ks =>
    unfold FV at hf
    obtain ⟨slv, rows, rfl, h2, h3, h4, h5⟩ := hf
    obtain ⟨b, c, rfl⟩ := h2.len
    exact ⟨op, lab, b, _, c, rfl, rfl, rfl, rfl⟩
theorem FV.fr {B : Nat → Prop} {h h' : H} (hf' : Fr h h') {f : Fml} {r : List Value} (hf : FV B h f r) : FV B h' f r := FV.frD (D := fun _ => False) hf'.D (fun _ _ _ => id) hf
theorem FVs.fr {B : Nat → Prop} {h h' : H} (hf' : Fr h h') {f : List Fml} {r : List (List Value)} (hf : FVs B h f r) : FVs B h' f r := FVs.frD (D := fun _ => False) hf'.D (fun _ _ _ => id) hf
end Go.Ideal.J
namespace Go.Ideal.J
open Go Go.Ideal
end Go.Ideal.J
namespace Go.Ideal.J
open Go Go.Ideal
end Go.Ideal.J
namespace Go.Ideal.J
open Go Go.Ideal
theorem FV.one {B : Nat → Prop} {h : H} {op lab : Int} {f : Fml} {r : List Value} {b e : Nat} (hf : FV B h f r) (hg : h.get b = some (.cells r e)) (hlt : b < h.next) (hB : B b) : FV B h (.mk op lab [f]) (fmL op lab (.slice (some ⟨b, 0, none⟩) 1 1)) := by
  obtain ⟨_, _, _, _, _, _, h1, h2, _⟩ := hf.cells
  unfold FV
  refine ⟨_, [r], rfl, ?_, fun b' o n c e => by cases e; exact hB, by simp, ?_⟩
  · have := Grow.full (h := h) (sz := 3) (b := b) (e := e) (rows := [r]) hlt (by simpa using hg) (by intro x hx; rw [List.mem_singleton] at hx; subst hx; exact ⟨h1, h2⟩) (by show 1 < zG; decide)
    exact this.row (by omega)
  · unfold FVs
    exact ⟨r, [], rfl, hf, by unfold FVs; rfl⟩
end Go.Ideal.J
namespace Go.Ideal.J
open Go Go.Ideal
theorem min2 (a b : Int) (h : H) : bltV h .min [.int .i64 a, .int .i64 b] = some (.int .i64 (min a b), h) := by
  show (zbP false (.int .i64 a) [.int .i64 b]).map (·, h) = _
  by_cases h1 : b < a
  · simp [zbP, zcl, h1]; omega
  · simp [zbP, zcl, h1]; omega
def updF (f : Int → Int → Option Int) (a b n : Int) : Int → Int → Option Int := fun c d => if c = a ∧ d = b then some n else f c d
def SZ (es : List Ed) (N k : Nat) (a b : Int) : Int := min (sz (TF es N k a b) : Int) 3001
def Memo (es : List Ed) (N k : Nat) (f : Int → Int → Option Int) : Prop := ∀ a b u, f a b = some u → u = SZ es N k a b
theorem Memo.upd {es : List Ed} {N k : Nat} {f : Int → Int → Option Int} (hf : Memo es N k f) (a b : Int) : Memo es N k (updF f a b (SZ es N k a b)) := by
  intro c d u h
  unfold updF at h
  split at h
  · rename_i e; cases h; rw [e.1, e.2]
  · exact hf c d u h
end Go.Ideal.J
namespace Go.Ideal.J
open Go Go.Ideal
def zF : Fml := .mk 0 0 []
theorem FV.zero (B : Nat → Prop) (h : H) : FV B h zF (fmL 0 0 (.slice none 0 0)) := by
  unfold zF FV
  exact ⟨_, [], rfl, .nil, (fun b o n c e => by cases e), by simp, by unfold FVs; rfl⟩
end Go.Ideal.J
namespace Go.Ideal.J
open Go Go.Ideal
end Go.Ideal.J
namespace Go.Ideal.J
open Go Go.Ideal
theorem zds {o : Nat} {cs : List Value} {x y z : Int} (h : zY 3 (zbw o cs) = some [.int .i64 x, .int .i64 y, .int .i64 z]) : zY 1 (zbw o cs) = some [.int .i64 x] ∧ zY 1 (zbw (o + 1) cs) = some [.int .i64 y] ∧ zY 1 (zbw (o + 2) cs) = some [.int .i64 z] := by
  have h1 := (zca h).1
  rw [zcY, zcA] at h1
  split at h1
  · rename_i hl
    have h2 := Option.some.inj h1
    have e0 : cs[o]? = some (.int .i64 x) := by
      have := congrArg (fun l => l[0]?) h2
      simpa [List.getElem?_take, List.getElem?_drop] using this
    have e1 : cs[o + 1]? = some (.int .i64 y) := by
      have := congrArg (fun l => l[1]?) h2
      simpa [List.getElem?_take, List.getElem?_drop] using this
    have e2 : cs[o + 2]? = some (.int .i64 z) := by
      have := congrArg (fun l => l[2]?) h2
      simpa [List.getElem?_take, List.getElem?_drop] using this
    exact ⟨zcz e0 rfl, zcz e1 rfl, zcz e2 rfl⟩
  · cases h1
end Go.Ideal.J
namespace Go.Ideal.J
open Go Go.Ideal
end Go.Ideal.J
namespace Go.Ideal.J
open Go Go.Ideal
end Go.Ideal.J
namespace Go.Ideal.J
open Go Go.Ideal
end Go.Ideal.J
namespace Go.Ideal.J
open Go Go.Ideal
theorem append_all {h : H} {sz bytes b : Nat} {w : Value} {rows : List (List Value)} (hs : 0 < sz) (hsb : sz ≠ roE) (hb : b < h.next) (hgb : h.get b = some (.cells [] 0)) (hrow : Row h sz w rows) (hr : ∀ r ∈ rows, r.length = sz ∧ r.all zX = true) (hi : ∀ r ∈ rows, r.all zbn = true) (hsz : rows.length * bytes ≤ 1073741824) :
    ∃ h2 v ob, bltV h (.append sz bytes) [.slice (some ⟨b, 0, none⟩) 0 0, w] = some (v, h2) ∧ Grow h2 sz v rows ob ∧ FrD (fun j => j = b) h h2 ∧ (∀ q, ob = some q → q = b ∨ h.next ≤ q) := by
  have hfull : Grow h sz (.slice (some ⟨b, 0, none⟩) 0 0) [] (some b) := Grow.full (b := b) (e := 0) (rows := []) hb (by simpa using hgb) (by simp) (by decide)
  have hapx := zgR hrow hr
  by_cases hnil : rows = []
  · subst hnil
    refine ⟨h, _, some b, ?_, hfull, .refl _ _, fun q e => by cases e; exact .inl rfl⟩
    show (zb1 h sz w).bind _ = _
    rw [hapx]; rfl
  · obtain ⟨h2, v', ea, hg2, hn2, hf2⟩ := zfo (bytes := bytes) (news := rows) hs hsb hfull hnil hapx (by
      rw [List.all_flatten]; exact List.all_eq_true.2 hi) hr (by simpa using hsz)
    rw [List.nil_append] at hg2
    exact ⟨h2, v', some h.next, ea, hg2, hf2.mono fun i _ e => (Option.some.inj e).symm, fun q e => by cases e; exact .inr (Nat.le_refl _)⟩
theorem edL_ok (es : List Ed) : ∀ r ∈ es.map edL, r.length = 3 ∧ r.all zX = true := fun r hr => by obtain ⟨x, _, rfl⟩ := List.mem_map.1 hr; exact ⟨rfl, rfl⟩
theorem edL_cell (es : List Ed) : ∀ r ∈ es.map edL, r.all zbn = true := fun r hr => by obtain ⟨x, _, rfl⟩ := List.mem_map.1 hr; rfl
theorem rboth1 (N M : Nat) (hN : N ≤ 1000) (hM : M ≤ 1000) (lb lb' : Int) (es fs : List Ed) (hel : es.length ≤ 1000) (hfl : fs.length ≤ 1000) (hfin : inB (M : Int) fs) (sl sl' : Value) (q q' po pr : Nat) (h0 : H) (hrow : Row h0 3 sl' (fs.map edL)) (hsl : ∀ b o n c, sl' = .slice (some ⟨b, o, none⟩) n c → b < q) (hgg : h0.get q = some (.cells (gL (N : Int) lb sl) 0)) (hgg' : h0.get q' = some (.cells (gL (M : Int) lb' sl') 0)) (hq : q < po) (hq' : q' < po) (hpo : po < h0.next) (hpr : pr < h0.next) (lo : Nat) (hlo : q < lo) (hloq : q' < lo) (hlo' : lo ≤ po) (hprl : pr < lo) (hgr : ∃ l, h0.get pr = some (.cells l 0) ∧ l.length = 3) {P : Value → H → Prop}
    (hP : ∀ h' v ob, FrD (fun j => lo ≤ j) h0 h' → h'.get po = some (.cells [.int .i64 ((N : Int) + M), .int .i64 lb, v] 0) → Grow h' 3 v ((zbm N es fs).map edL) ob → (∀ b, ob = some b → lo ≤ b) → OkV (sh (rI F) zg0 (K_h_0 (rI F)) (setL [p4, p5] [ptr pr, ptr po]) h') P) :
    ∀ (k i : Nat) (h : H) (v : Value) (ob : Option Nat), i + k = fs.length → FrD (fun j => lo ≤ j) h0 h → h.get po = some (.cells [.int .i64 ((N : Int) + M), .int .i64 lb, v] 0) → Grow h 3 v ((zbm N es (fs.take i)).map edL) ob → (∀ b, ob = some b → lo ≤ b ∧ b ≠ po) →
    OkV (sh (rI F) zgZ (K_h_1 (rI F)) (setL [p2, p3, p4, p5, p6] [ptr q, ptr q', ptr pr, ptr po, .int .i64 (i : Int)]) h) P := by
  intro k
  induction k with
  | zero =>
    intro i h v ob hi hf hgp hg hob
    have e : i = fs.length := by omega
    subst e
    have gq' := (hf.get _ (by omega) (by omega)).trans hgg'
    have hsv' := hrow.slvM
    rw [List.take_length] at hg
    rw [s_h_1]
    simp (disch := first | omega | (simp only [za, zb]; done) | (simp only [za, zb]; omega)) [↓zL, ↓zA, ↓zt, gq', hsv'.take, hsv'.one, hsv'.len]
    exact hP h v ob hf hgp hg (fun b e => (hob b e).1)
  | succ k ih =>
    intro i h v ob hi hf hgp hg hob
    have hil : i < fs.length := by omega
    have hfn := hf.next
    have hx : (fs.map edL)[i]? = some (edL fs[i]) := by simp [hil]
    have htk : fs.take (i + 1) = fs.take i ++ [fs[i]] := by rw [List.take_add_one, List.getElem?_eq_getElem hil]; rfl
    have hxin := hfin _ (List.getElem_mem hil)
    obtain ⟨b, o, cs, e, hvi, hb, hgi, htc⟩ := (hrow.frD hf (fun b o n c e => by have := hsl b o n c e; omega)).index hx
    generalize fs[i] = x at *
    have hv := hg.slv
    have hsv' := hrow.slvM
    have gq := (hf.get _ (by omega) (by omega)).trans hgg
    have gq' := (hf.get _ (by omega) (by omega)).trans hgg'
    obtain ⟨h2, eh2⟩ : ∃ h2, h2 = (h.new (.cells (edL x) 0)).new (.cells (edL (shE N x)) 0) := ⟨_, rfl⟩
    have hf2 : Fr h h2 := by rw [eh2]; exact (Fr.new _ _).newR _
    have hn2 : h2.next = h.next + 2 := by rw [eh2]; simp
    obtain ⟨h3, v', ea, hg3, hn3, hf3⟩ := zcg (h := h2) (sz := 3) (bytes := 24) (r := edL (shE N x)) (b := h.next + 1) (e := 0) (by omega) (by decide) (hg.fr hf2) (by rw [eh2]; simp) rfl rfl rfl (by
      rw [List.length_map]; unfold zbm; rw [List.length_append, List.length_map, List.length_take]; omega)
    have hv3 := hg3.slv
    have gpo3 : h3.get po = some (.cells [.int .i64 ((N : Int) + M), .int .i64 lb, v] 0) := by
      rw [hf3.get _ (by omega) (fun e => (hob _ e).2 rfl), hf2.get _ (by omega)]; exact hgp
    have := ih (i + 1) (h3.put po (.cells [.int .i64 ((N : Int) + M), .int .i64 lb, v'] 0)) v' (some h2.next) (by omega) ⟨by simp; omega, fun j hj hd => by
        rw [zk (by omega), hf3.get _ (by omega) (fun e => hd (hob _ e).1), hf2.get _ (by omega)]; exact hf.get _ hj hd⟩ (zB rfl) (by
        have : zbm N es (fs.take (i + 1)) = zbm N es (fs.take i) ++ [shE N x] := by
          unfold zbm; rw [htk, List.map_append, List.append_assoc]; rfl
        rw [this, List.map_append]
        exact hg3.frD ((FrD.refl (fun j => j = po) _).put (.inr rfl) _) (fun b e => by cases e; omega)) (fun b e => by cases e; omega)
    rw [s_h_1]
    refine OkV.eq (this.lp (l_h_1 F _ _ _ _ _ _)) ?_
    obtain ⟨x1, x2, x3⟩ := x
    simp only at hxin
    simp only [shE] at eh2 ea gpo3
    simp (disch := first | omega | (simp only [za, zb]; done) | (simp only [za, zb]; omega)) [↓zL, ↓zA, ↓zt, hil, hvi, hgi, htc, hgp, hv.take, hv.one, gq, gq', hsv'.take, hsv'.one, hsv'.len, zn, zo, zH]
    rw [← eh2, ea]
    simp (disch := first | omega | (simp only [za, zb]; done) | (simp only [za, zb]; omega)) [↓zL, ↓zA, ↓zt, gpo3, hv3.cells, hv3.cell, zH]
theorem rBoth_ok (N M : Nat) (hN : N ≤ 60) (hM : M ≤ 60) (lb lb' : Int) (es fs : List Ed) (hel : es.length ≤ 400) (hfl : fs.length ≤ 400) (hfin : inB (M : Int) fs) (sl sl' : Value) (h : H) (hrow : Row h 3 sl (es.map edL)) (hrow' : Row h 3 sl' (fs.map edL)) :
    ∃ h' v ob, zbj F (fnV n_h) [gV (N : Int) lb sl, gV (M : Int) lb' sl'] h = some (gV ((N : Int) + M) lb v, h') ∧ Fr h h' ∧ Grow h' 3 v ((zbm N es fs).map edL) ob ∧ (∀ b, ob = some b → h.next ≤ b) := by
  suffices hs : Ret F (fnV n_h) [gV (N : Int) lb sl, gV (M : Int) lb' sl'] h fun u h' => ∃ v ob, u = gV ((N : Int) + M) lb v ∧ Fr h h' ∧ Grow h' 3 v ((zbm N es fs).map edL) ob ∧ (∀ b, ob = some b → h.next ≤ b) by
    obtain ⟨u, h', e, v, ob, rfl, q1, q2, q3⟩ := hs
    exact ⟨h', v, ob, e, q1, q2, q3⟩
  refine Ret.fn F_h 2 (by decide) ?_
  obtain ⟨P, hPd⟩ : ∃ P : Value → H → Prop, P = fun u h' => ∃ v ob, u = gV ((N : Int) + M) lb v ∧ Fr h h' ∧ Grow h' 3 v ((zbm N es fs).map edL) ob ∧ (∀ b, ob = some b → h.next ≤ b) := ⟨_, rfl⟩
  rw [← hPd]
  rw [s_h]
  have hv := hrow.slvM
  have hv' := hrow'.slvM
  obtain ⟨q, eq⟩ : ∃ q, q = h.next := ⟨_, rfl⟩
  obtain ⟨h2, eh2⟩ : ∃ h2, h2 = (((h.new (.cells (gL (N : Int) lb sl) 0)).new (.cells (gL (M : Int) lb' sl') 0)).new (.cells [.int .i64 0, .int .i64 0, .slice none 0 0] 0)).new (.cells [] 0) := ⟨_, rfl⟩
  have hf2 : Fr h h2 := by rw [eh2]; exact (((Fr.new _ _).newR _).newR _).newR _
  have hn2 : h2.next = q + 4 := by rw [eh2, eq]; simp
  have g0 : h2.get q = some (.cells (gL (N : Int) lb sl) 0) := by rw [eh2, eq]; simp (disch := first | omega | (simp only [za, zb]; omega))
  have g1 : h2.get (q + 1) = some (.cells (gL (M : Int) lb' sl') 0) := by rw [eh2, eq]; simp (disch := first | omega | (simp only [za, zb]; omega))
  have g2 : h2.get (q + 2) = some (.cells [.int .i64 0, .int .i64 0, .slice none 0 0] 0) := by rw [eh2, eq]; simp (disch := first | omega | (simp only [za, zb]; omega))
  have g3 : h2.get (q + 3) = some (.cells [] 0) := by rw [eh2, eq]; simp (disch := first | omega | (simp only [za, zb]; omega))
  obtain ⟨h3, v3, ob3, ea, hg3, hf3, hob3⟩ := append_all (bytes := 24) (by omega) (by decide) (by omega) g3 (hrow.fr hf2) (edL_ok es) (edL_cell es) (by rw [List.length_map]; omega)
  have hfn3 := hf3.next
  have g03 := (hf3.get _ (by omega) (by omega)).trans g0
  have g13 := (hf3.get _ (by omega) (by omega)).trans g1
  have g23 := (hf3.get _ (by omega) (by omega)).trans g2
  have hv3 := hg3.slvM
  have hobl : ∀ b, ob3 = some b → b < h3.next := fun b e => by subst e; exact hg3.lt
  obtain ⟨h4, eh4⟩ : ∃ h4, h4 = h3.new (.cells [.int .i64 ((N : Int) + M), .int .i64 lb, v3] 0) := ⟨_, rfl⟩
  have hf4 : Fr h3 h4 := by rw [eh4]; exact Fr.new _ _
  have hn4 : h4.next = h3.next + 1 := by rw [eh4]; simp
  have g04 := (hf4.get _ (by omega)).trans g03
  have g14 := (hf4.get _ (by omega)).trans g13
  have g24 := (hf4.get _ (by omega)).trans g23
  have g44 : h4.get h3.next = some (.cells [.int .i64 ((N : Int) + M), .int .i64 lb, v3] 0) := by rw [eh4]; simp
  have hA : FrD (fun j => q + 3 ≤ j) h h4 := ⟨by omega, fun i hi hd => by rw [hf4.get _ (by omega), hf3.get _ (by omega) (by omega), hf2.get _ hi]⟩
  have := rboth1 N M (by omega) (by omega) lb lb' es fs (by omega) (by omega) hfin sl sl' q (q + 1) h3.next (q + 2) h4 (hrow'.frD hA (fun b o n c e => by have := hrow'.lt e; omega)) (fun b o n c e => by have := hrow'.lt e; omega) g04 g14 (by omega) (by omega) (by omega) (by omega) (q + 3) (by omega) (by omega) (by omega) (by omega) ⟨_, g24, rfl⟩ (P := P)
    (fun h5 v5 ob5 hf5 gp5 hg5 hob5 => by
      have hfn5 := hf5.next
      have hv5 := hg5.slvM
      have g25 := (hf5.get _ (by omega) (by omega)).trans g24
      rw [s_h_0]
      have hfr : Fr h (h5.put (q + 2) (.cells (gL ((N : Int) + M) lb v5) 0)) := ⟨by simp; omega, fun i hi => by
        rw [zk (by omega), hf5.get _ (by omega) (by omega)]; exact hA.get _ hi (by omega)⟩
      refine OkV.eq (OkV.val (v := gV ((N : Int) + M) lb v5) (h := h5.put (q + 2) (.cells (gL ((N : Int) + M) lb v5) 0)) ?_) ?_
      · rw [hPd]
        refine ⟨v5, ob5, rfl, hfr, hg5.frD ((FrD.refl (fun j => j = q + 2) _).put (.inr rfl) _) (fun b e => by have := hob5 b e; omega), fun b e => by have := hob5 b e; omega⟩
      · simp (disch := first | omega | (simp only [za, zb]; done) | (simp only [za, zb]; omega)) [↓zL, ↓zA, ↓zt, gp5, g25, hv5.clean, hv5.take, hv5.eqc, hv5.cell, hv5.cells]) fs.length 0 h4 v3 ob3 (by omega) (.refl _ _) g44 (by simpa [zbm] using hg3.fr hf4) (fun b e => ⟨by have := hob3 b e; omega, by have := hobl b e; omega⟩)
  refine OkV.eq (this.lp (l_h_1 F _ _ _ _ _ _)) ?_
  simp (disch := first | omega | (simp only [za, zb]; done) | (simp only [za, zb]; omega)) [↓zL, ↓zA, ↓zt, hv.clean, hv.take, hv'.clean, hv'.take, hv.one, hv.eqc, ← eq, zn, zo]
  rw [← eh2]
  simp (disch := first | omega | (simp only [za, zb]; done) | (simp only [za, zb]; omega)) [↓zL, ↓zA, ↓zt, hv.clean, hv.take, hv'.clean, hv'.take, hv.one, hv.eqc, hv.eq, g0, ea, g03, g13, g1, zH, zn, hv3.cells, hv3.cell, ← eh4]
end Go.Ideal.J
namespace Go.Ideal.J
open Go Go.Ideal
theorem both_inB {N M : Nat} {es fs : List Ed} (h : inB (N : Int) es) (h' : inB (M : Int) fs) : inB ((N + M : Nat) : Int) (zbm N es fs) := by
  intro x hx
  rcases List.mem_append.1 hx with hx | hx
  · have := h x hx; omega
  · obtain ⟨y, hy, rfl⟩ := List.mem_map.1 hx
    have := h' y hy
    simp only [shE]; omega
def two (st lb : Int) (es : List Ed) (st' lb' : Int) (fs : List Ed) : Bool := chk st lb es && chk st' lb' fs && decide (lb = lb')
open Classical in
noncomputable def zem (st lb : Int) (es : List Ed) (st' lb' : Int) (fs : List Ed) : Value := if two st lb es st' lb' fs = true then zdS (.bool (decide (Bis (zbm st.toNat es fs) 0 st))) (.int .i64 0) else zdS (.bool false) (.int .i64 2)
theorem rAlike_ok (st lb st' lb' : Int) (es fs : List Ed) (sl sl' : Value) (h : H) (hrow : Row h 3 sl (es.map edL)) (hrow' : Row h 3 sl' (fs.map edL)) :
    ∃ h', zbj F (fnV n_K) [gV st lb sl, gV st' lb' sl'] h = some (zem st lb es st' lb' fs, h') ∧ Fr h h' := by
  have hv := hrow.slvM
  have hv' := hrow'.slvM
  obtain ⟨q, eq⟩ : ∃ q, q = h.next := ⟨_, rfl⟩
  obtain ⟨h2, eh2⟩ : ∃ h2, h2 = (h.new (.cells (gL st lb sl) 0)).new (.cells (gL st' lb' sl') 0) := ⟨_, rfl⟩
  have hf2 : Fr h h2 := by rw [eh2]; exact (Fr.new _ _).newR _
  have hn2 : h2.next = q + 2 := by rw [eh2, eq]; simp
  have g0 : h2.get q = some (.cells (gL st lb sl) 0) := by rw [eh2, eq]; simp (disch := omega)
  have g1 : h2.get (q + 1) = some (.cells (gL st' lb' sl') 0) := by rw [eh2, eq]; simp (disch := omega)
  obtain ⟨h3, e3, hf3⟩ := zdx st lb sl es h2 (hrow.fr hf2)
  have hfn3 := hf3.next
  have g03 := (hf3.get _ (by omega)).trans g0
  have g13 := (hf3.get _ (by omega)).trans g1
  cases hc : chk st lb es with
  | false =>
    rw [hc] at e3
    refine ⟨h3, zO F_K 2 (by decide) ?_, hf2.trans hf3⟩
    rw [s_K]
    simp (disch := first | omega | (simp only [za, zb]; done) | (simp only [za, zb]; omega)) [↓zL, ↓zA, ↓zt, hv.clean, hv.take, hv'.clean, hv'.take, ← eq, ← eh2, g0, g1, e3, erk, zem, two, hc]
  | true =>
    rw [hc] at e3
    obtain ⟨h4, e4, hf4⟩ := zdx st' lb' sl' fs h3 ((hrow'.fr hf2).fr hf3)
    have hfn4 := hf4.next
    have g04 := (hf4.get _ (by omega)).trans g03
    have g14 := (hf4.get _ (by omega)).trans g13
    have hF4 : Fr h h4 := (hf2.trans hf3).trans hf4
    cases hc' : chk st' lb' fs with
    | false =>
      rw [hc'] at e4
      refine ⟨h4, zO F_K 2 (by decide) ?_, hF4⟩
      rw [s_K]
      simp (disch := first | omega | (simp only [za, zb]; done) | (simp only [za, zb]; omega)) [↓zL, ↓zA, ↓zt, hv.clean, hv.take, hv'.clean, hv'.take, ← eq, ← eh2, g0, g1, e3, erk, g03, g13, e4, zem, two, hc, hc']
    | true =>
      rw [hc'] at e4
      by_cases hl : lb = lb'
      · subst hl
        have fm := (zek st lb es).1 hc
        have fm' := (zek st' lb fs).1 hc'
        obtain ⟨N, rfl⟩ := Int.eq_ofNat_of_zero_le (show 0 ≤ st by have := fm.st1; omega)
        obtain ⟨M, rfl⟩ := Int.eq_ofNat_of_zero_le (show 0 ≤ st' by have := fm'.st1; omega)
        have a1 := fm.st1; have a2 := fm.st2; have a3 := fm'.st1; have a4 := fm'.st2
        have a5 := fm.len; have a6 := fm'.len
        obtain ⟨h5, v5, ob5, e5, hf5, hg5, hob5⟩ := rBoth_ok N M (by omega) (by omega) lb lb es fs (by omega) (by omega) fm'.inB sl sl' h4 (hrow.fr hF4) (hrow'.fr hF4)
        have hfn5 := hf5.next
        have g05 := (hf5.get _ (by omega)).trans g04
        have hin := both_inB fm.inB fm'.inB
        have hel : (zbm N es fs).length ≤ 1000 := by unfold zbm; rw [List.length_append, List.length_map]; omega
        obtain ⟨tr, h6, e6, k, tlR, lvsR, qs, hf6, hrA⟩ := Rounds_ok (zbm N es fs) hel (N + M) (by omega) hin lb v5 h5 (hg5.row (by omega))
        have hfn6 := hf6.next
        have g06 := (hf6.get _ (by omega)).trans g05
        have eNM : ((N : Int) + M) = ((N + M : Nat) : Int) := by omega
        rw [← eNM] at e6
        have hr6 := hrA.r3.two
        obtain ⟨qa, is, m1, m2, m3, m4, m5⟩ := hr6.mat 0 (by omega)
        obtain ⟨b3, o3, cs3, e3', hv3', hb3, hg3, ht3⟩ := hr6.rr.index (i := 0) (r := [slF qa (N + M)]) (by rw [List.getElem?_map, m1]; rfl)
        have hv30 : ∀ h', zr 1 tr (.int .i64 0) h' = some (.pointer (some ⟨b3, o3, none⟩), h') := hv3'
        have rq : zY 1 (zbw N (is.map fun i => Value.int .i64 i)) = some [.int .i64 (RZ (zbm N es fs) (N + M) k 0 N)] := zcz (by rw [List.getElem?_map, m4 N (by omega)]; rfl) rfl
        have hiff : RZ (zbm N es fs) (N + M) k 0 (N : Int) = 0 ↔ Bis (zbm N es fs) 0 (N : Int) := by
          have h1 := rN_none hin hrA.fin (a := 0) (b := (N : Int)) (by omega) (by omega)
          rw [← h1]
          exact ziA.trans Option.isNone_iff_eq_none.symm
        have hNNM : N < N + M := by omega
        have h0NM : 0 < N + M := by omega
        refine ⟨h6, zO F_K 2 (by decide) ?_, (hF4.trans hf5).trans hf6⟩
        rw [s_K]
        simp (disch := first | omega | (simp only [za, zb]; done) | (simp only [za, zb]; omega)) [↓zL, ↓zA, ↓zt, hv.clean, hv.take, hv'.clean, hv'.take, ← eq, ← eh2, g0, g1, e3, erk, g03, g13, e4, zem, two, hc, hc', g04, g14, e5, g05, e6, hv30, hg3, ht3, g06, m2, rq, hNNM, hv.eqc, hv'.eqc]
        exact hiff
      · have hl' : decide (lb = lb') = false := by simp [hl]
        refine ⟨h4, zO F_K 2 (by decide) ?_, hF4⟩
        rw [s_K]
        simp (disch := first | omega | (simp only [za, zb]; done) | (simp only [za, zb]; omega)) [↓zL, ↓zA, ↓zt, hv.clean, hv.take, hv'.clean, hv'.take, ← eq, ← eh2, g0, g1, e3, erk, g03, g13, e4, zem, two, hc, hc', g04, g14, hl, hl']
end Go.Ideal.J
set_option linter.unusedSectionVars false
namespace Go.Ideal.J
open Go Go.Ideal
def inP (ps : List (Int × Int)) (a b : Int) : Bool := ps.any fun p => decide (p.1 = a ∧ p.2 = b)
theorem has_loop (ps : List (Int × Int)) (hsz : ps.length ≤ 100000) (a b : Int) (v : Value) (h : H) (hrow : Row h 2 v (ps.map prL)) {P : Value → H → Prop} : ∀ (k i : Nat), i + k = ps.length → P (.bool (inP (ps.drop i) a b)) h →
    OkV (sh (rI F) c_A_1 (K_A_1 (rI F)) (setL [p0, p1, p2, p7] [v, .int .i64 a, .int .i64 b, .int .i64 (i : Int)]) h) P := by
  have hv := hrow.slvM
  intro k
  induction k with
  | zero =>
    intro i hi hP
    have e : i = ps.length := by omega
    subst e
    rw [List.drop_length] at hP
    refine OkV.eq (OkV.val hP) ?_
    rw [s_A_1]
    simp [hv.len, s_A_0, inP]
  | succ k ih =>
    intro i hi hP
    have hil : i < ps.length := by omega
    have hx : (ps.map prL)[i]? = some (prL ps[i]) := by simp [hil]
    obtain ⟨b', o, cs, e, hvi, hb, hg, ht⟩ := hrow.index hx
    have hdr : ps.drop i = ps[i] :: ps.drop (i + 1) := by rw [← List.getElem_cons_drop hil]
    rw [hdr] at hP
    generalize ps[i] = p at *
    have hr : h.readN b' o 2 = some (prL p) := readN_at hg ht
    have hP' : P (.bool (decide (p.1 = a ∧ p.2 = b) || inP (ps.drop (i + 1)) a b)) h := hP
    by_cases c : p.1 = a ∧ p.2 = b
    · have e1 : (decide (p.1 = a ∧ p.2 = b) || inP (ps.drop (i + 1)) a b) = true := by simp [c]
      rw [e1] at hP'
      refine OkV.eq (OkV.val hP') ?_
      rw [s_A_1]
      simp (disch := omega) [hv.len, hil, hvi, hg, ht, zn, zdb, c]
    · have e1 : (decide (p.1 = a ∧ p.2 = b) || inP (ps.drop (i + 1)) a b) = inP (ps.drop (i + 1)) a b := by simp [c]
      rw [e1] at hP'
      have := ih (i + 1) (by omega) hP'
      rw [s_A_1]
      refine OkV.eq (this.lp (l_A_1 F _ _ _ _ _)) ?_
      simp (disch := omega) [hv.len, hil, hvi, hg, ht, zn, zdb, c, zH]
theorem has_ok (ps : List (Int × Int)) (hsz : ps.length ≤ 100000) (a b : Int) (v : Value) (h : H) (hrow : Row h 2 v (ps.map prL)) : zbj F (fnV n_A) [v, .int .i64 a, .int .i64 b] h = some (.bool (inP ps a b), h) := by
  have h1 : Ret F (fnV n_A) [v, .int .i64 a, .int .i64 b] h fun u h' => u = .bool (inP ps a b) ∧ h' = h := by
    refine Ret.fn F_A 3 (by decide) ?_
    rw [s_A]
    have := has_loop ps hsz a b v h hrow (P := fun u h' => u = .bool (inP ps a b) ∧ h' = h) ps.length 0 (by omega) ⟨rfl, rfl⟩
    refine OkV.eq (this.lp (l_A_1 F _ _ _ _ _)) ?_
    simp
  obtain ⟨u, h', e1, rfl, rfl⟩ := h1
  exact e1
def ansA (lb : List Ed) (ps : List (Int × Int)) (x : Ed) : Bool := lb.any fun y => decide (x.2.2 = y.2.2) && inP ps x.2.1 y.2.1
def ansB (la : List Ed) (ps : List (Int × Int)) (y : Ed) : Bool := la.any fun x => decide (x.2.2 = y.2.2) && inP ps x.2.1 y.2.1
section
variable (la lb : List Ed) (hla : la.length ≤ 1000) (hlb : lb.length ≤ 1000) (ps : List (Int × Int)) (hsz : ps.length ≤ 100000) (v2 t3 t4 t9 va vb : Value) (h : H) (hr2 : Row h 2 v2 (ps.map prL)) (hra : Row h 3 va (la.map edL)) (hrb : Row h 3 vb (lb.map edL)) {P : Value → H → Prop}
include hla hlb hsz hr2 hra hrb
theorem bis9 (i : Nat) (x : Ed) (hx : la[i]? = some x) : ∀ (k j : Nat) (okb : Bool), j + k = lb.length → OkV (sh (rI F) ziV (K_a_8 (rI F)) (setL [p2, p3, p4, p9, p10, p11, p12, p13] [v2, t3, t4, t9, va, vb, .int .i64 (i : Int), .bool (okb || ansA (lb.drop j) ps x)]) h) P →
    OkV (sh (rI F) c_a_9 (K_a_9 (rI F)) (setL [p2, p3, p4, p9, p10, p11, p12, p13, p14] [v2, t3, t4, t9, va, vb, .int .i64 (i : Int), .bool okb, .int .i64 (j : Int)]) h) P := by
  have hva := hra.slvM
  have hvb := hrb.slvM
  obtain ⟨b1, o1, cs1, e1, hv1, hb1, hg1, ht1⟩ := hra.index (i := i) (r := edL x) (by rw [List.getElem?_map, hx]; rfl)
  obtain ⟨q1, q2, q3⟩ := zds ht1
  intro k
  induction k with
  | zero =>
    intro j okb hj hP
    have e : j = lb.length := by omega
    subst e
    rw [List.drop_length] at hP
    have e2 : (okb || ansA [] ps x) = okb := by simp [ansA]
    rw [e2] at hP
    rw [s_a_9]
    simp [hvb.len]
    exact hP
  | succ k ih =>
    intro j okb hj hP
    have hjl : j < lb.length := by omega
    obtain ⟨b2, o2, cs2, e2, hv2, hb2, hg2, ht2⟩ := hrb.index (i := j) (r := edL lb[j]) (by simp [hjl])
    obtain ⟨r1, r2, r3⟩ := zds ht2
    have hdr : lb.drop j = lb[j] :: lb.drop (j + 1) := by rw [← List.getElem_cons_drop hjl]
    rw [hdr] at hP
    generalize lb[j] = y at *
    have hP' : OkV (sh (rI F) ziV (K_a_8 (rI F)) (setL [p2, p3, p4, p9, p10, p11, p12, p13] [v2, t3, t4, t9, va, vb, .int .i64 (i : Int), .bool ((okb || (decide (x.2.2 = y.2.2) && inP ps x.2.1 y.2.1)) || ansA (lb.drop (j + 1)) ps x)]) h) P := by
      rw [Bool.or_assoc]; exact hP
    have := ih (j + 1) _ (by omega) hP'
    rw [s_a_9]
    refine OkV.eq (this.lp (l_a_9 F _ _ _ _ _ _ _ _ _ _)) ?_
    have hh := has_ok ps hsz x.2.1 y.2.1 v2 h hr2
    cases okb with
    | true => simp (disch := omega) [hvb.len, hjl, zH]
    | false =>
      by_cases c : x.2.2 = y.2.2
      · simp (disch := omega) [hvb.len, hjl, hv1, hv2, hg1, hg2, q1, q2, q3, r1, r2, r3, hh, c, zH]
      · simp (disch := omega) [hvb.len, hjl, hv1, hv2, hg1, hg2, q1, q2, q3, r1, r2, r3, hh, c, zH]
theorem bis6 (hF : la.all (ansA lb ps) = false → P (zdS (.bool false) (.int .i64 0)) h) (hT : la.all (ansA lb ps) = true → OkV (sh (rI F) c_a_5 (zhb (rI F)) (setL [p2, p3, p4, p9, p10, p11] [v2, t3, t4, t9, va, vb]) h) P) :
    ∀ (k i : Nat), i + k = la.length → (la.take i).all (ansA lb ps) = true →
    OkV (sh (rI F) c_a_6 (K_a_6 (rI F)) (setL [p2, p3, p4, p9, p10, p11, p12] [v2, t3, t4, t9, va, vb, .int .i64 (i : Int)]) h) P := by
  have hva := hra.slvM
  intro k
  induction k with
  | zero =>
    intro i hi hall
    have e : i = la.length := by omega
    subst e
    rw [List.take_length] at hall
    rw [s_a_6]
    simp [hva.len]
    exact hT hall
  | succ k ih =>
    intro i hi hall
    have hil : i < la.length := by omega
    have hx : la[i]? = some la[i] := List.getElem?_eq_getElem hil
    have htk : la.take (i + 1) = la.take i ++ [la[i]] := by rw [List.take_add_one, hx]; rfl
    have hmem : la[i] ∈ la := List.getElem_mem hil
    generalize la[i] = x at *
    rw [s_a_6]
    have h8 : OkV (sh (rI F) ziV (K_a_8 (rI F)) (setL [p2, p3, p4, p9, p10, p11, p12, p13] [v2, t3, t4, t9, va, vb, .int .i64 (i : Int), .bool (false || ansA (lb.drop 0) ps x)]) h) P := by
      rw [List.drop_zero, Bool.false_or]
      rw [s_a_8]
      cases c : ansA lb ps x with
      | false =>
        refine OkV.eq (OkV.val (hF ?_)) ?_
        · rw [List.all_eq_false]; exact ⟨x, hmem, by simp [c]⟩
        · simp
      | true =>
        have := ih (i + 1) (by omega) (by rw [htk, List.all_append, hall]; simp [c])
        simp
        rw [s_a_7]
        refine OkV.eq (this.lp (l_a_6 F _ _ _ _ _ _ _ _)) ?_
        simp (disch := omega) [zH]
    have := bis9 la lb hla hlb ps hsz v2 t3 t4 t9 va vb h hr2 hra hrb i x hx lb.length 0 false (by omega) h8
    refine OkV.eq (this.lp (l_a_9 F _ _ _ _ _ _ _ _ _ _)) ?_
    simp (disch := omega) [hva.len, hil]
theorem bis13 (j : Nat) (y : Ed) (hy : lb[j]? = some y) : ∀ (k i : Nat) (okb : Bool), i + k = la.length → OkV (sh (rI F) ze0 (zf4 (rI F)) (setL [p2, p3, p4, p9, p10, p11, p15, p16] [v2, t3, t4, t9, va, vb, .int .i64 (j : Int), .bool (okb || ansB (la.drop i) ps y)]) h) P →
    OkV (sh (rI F) zgO (K_a_13 (rI F)) (setL [p2, p3, p4, p9, p10, p11, p15, p16, p17] [v2, t3, t4, t9, va, vb, .int .i64 (j : Int), .bool okb, .int .i64 (i : Int)]) h) P := by
  have hva := hra.slvM
  have hvb := hrb.slvM
  obtain ⟨b2, o2, cs2, e2, hv2, hb2, hg2, ht2⟩ := hrb.index (i := j) (r := edL y) (by rw [List.getElem?_map, hy]; rfl)
  obtain ⟨r1, r2, r3⟩ := zds ht2
  intro k
  induction k with
  | zero =>
    intro i okb hi hP
    have e : i = la.length := by omega
    subst e
    rw [List.drop_length] at hP
    have e2 : (okb || ansB [] ps y) = okb := by simp [ansB]
    rw [e2] at hP
    rw [s_a_13]
    simp [hva.len]
    exact hP
  | succ k ih =>
    intro i okb hi hP
    have hil : i < la.length := by omega
    obtain ⟨b1, o1, cs1, e1, hv1, hb1, hg1, ht1⟩ := hra.index (i := i) (r := edL la[i]) (by simp [hil])
    obtain ⟨q1, q2, q3⟩ := zds ht1
    have hdr : la.drop i = la[i] :: la.drop (i + 1) := by rw [← List.getElem_cons_drop hil]
    rw [hdr] at hP
    generalize la[i] = x at *
    have hP' : OkV (sh (rI F) ze0 (zf4 (rI F)) (setL [p2, p3, p4, p9, p10, p11, p15, p16] [v2, t3, t4, t9, va, vb, .int .i64 (j : Int), .bool ((okb || (decide (x.2.2 = y.2.2) && inP ps x.2.1 y.2.1)) || ansB (la.drop (i + 1)) ps y)]) h) P := by
      rw [Bool.or_assoc]; exact hP
    have := ih (i + 1) _ (by omega) hP'
    rw [s_a_13]
    refine OkV.eq (this.lp (l_a_13 F _ _ _ _ _ _ _ _ _ _)) ?_
    have hh := has_ok ps hsz x.2.1 y.2.1 v2 h hr2
    cases okb with
    | true => simp (disch := omega) [hva.len, hil, zH]
    | false =>
      by_cases c : x.2.2 = y.2.2
      · simp (disch := omega) [hva.len, hil, hv1, hv2, hg1, hg2, q1, q2, q3, r1, r2, r3, hh, c, zH]
      · simp (disch := omega) [hva.len, hil, hv1, hv2, hg1, hg2, q1, q2, q3, r1, r2, r3, hh, c, zH]
theorem bis10 (hF : lb.all (ansB la ps) = false → P (zdS (.bool false) (.int .i64 0)) h) (hT : lb.all (ansB la ps) = true → OkV (sh (rI F) c_a_4 (K_a_4 (rI F)) (setL [p2, p3, p4, p9] [v2, t3, t4, t9]) h) P) :
    ∀ (k j : Nat), j + k = lb.length → (lb.take j).all (ansB la ps) = true →
    OkV (sh (rI F) zgP (K_a_10 (rI F)) (setL [p2, p3, p4, p9, p10, p11, p15] [v2, t3, t4, t9, va, vb, .int .i64 (j : Int)]) h) P := by
  have hvb := hrb.slvM
  intro k
  induction k with
  | zero =>
    intro j hj hall
    have e : j = lb.length := by omega
    subst e
    rw [List.take_length] at hall
    rw [s_a_10]
    simp [hvb.len]
    exact hT hall
  | succ k ih =>
    intro j hj hall
    have hjl : j < lb.length := by omega
    have hy : lb[j]? = some lb[j] := List.getElem?_eq_getElem hjl
    have htk : lb.take (j + 1) = lb.take j ++ [lb[j]] := by rw [List.take_add_one, hy]; rfl
    have hmem : lb[j] ∈ lb := List.getElem_mem hjl
    generalize lb[j] = y at *
    rw [s_a_10]
    have h8 : OkV (sh (rI F) ze0 (zf4 (rI F)) (setL [p2, p3, p4, p9, p10, p11, p15, p16] [v2, t3, t4, t9, va, vb, .int .i64 (j : Int), .bool (false || ansB (la.drop 0) ps y)]) h) P := by
      rw [List.drop_zero, Bool.false_or]
      rw [s_a_12]
      cases c : ansB la ps y with
      | false =>
        refine OkV.eq (OkV.val (hF ?_)) ?_
        · rw [List.all_eq_false]; exact ⟨y, hmem, by simp [c]⟩
        · simp
      | true =>
        have := ih (j + 1) (by omega) (by rw [htk, List.all_append, hall]; simp [c])
        simp
        rw [s_a_11]
        refine OkV.eq (this.lp (l_a_10 F _ _ _ _ _ _ _ _)) ?_
        simp (disch := omega) [zH]
    have := bis13 la lb hla hlb ps hsz v2 t3 t4 t9 va vb h hr2 hra hrb j y hy la.length 0 false (by omega) h8
    refine OkV.eq (this.lp (l_a_13 F _ _ _ _ _ _ _ _ _ _)) ?_
    simp (disch := omega) [hvb.len, hjl]
end
end Go.Ideal.J
namespace Go.Ideal.J
open Go Go.Ideal
def bisQ (es fs : List Ed) (ps : List (Int × Int)) (p : Int × Int) : Bool := (outs es p.1).all (ansA (outs fs p.2) ps) && (outs fs p.2).all (ansB (outs es p.1) ps)
def rngQ (st st' : Int) (p : Int × Int) : Bool := decide (0 ≤ p.1) && decide (p.1 < st) && decide (0 ≤ p.2) && decide (p.2 < st')
def bisA (st lb : Int) (es : List Ed) (st' lb' : Int) (fs : List Ed) (ps : List (Int × Int)) : Value :=
  if two st lb es st' lb' fs = true then (if ps.all (rngQ st st') = true then zdS (.bool (ps.all (bisQ es fs ps))) (.int .i64 0) else zdS (.bool false) (.int .i64 2)) else zdS (.bool false) (.int .i64 2)
section
variable (st lb st' lb' : Int) (es fs : List Ed) (hes : es.length ≤ 1000) (hfs : fs.length ≤ 1000) (ps : List (Int × Int)) (hsz : ps.length ≤ 100000) (v sl sl' : Value) (pg pg' : Nat) (h0 : H) (hr2 : Row h0 2 v (ps.map prL)) (hrow : Row h0 3 sl (es.map edL)) (hrow' : Row h0 3 sl' (fs.map edL))
  (hg : h0.get pg = some (.cells (gL st lb sl) 0)) (hg' : h0.get pg' = some (.cells (gL st' lb' sl') 0)) (hpg : pg < h0.next) (hpg' : pg' < h0.next) {P : Value → H → Prop}
include hes hfs hsz hr2 hrow hrow' hg hg' hpg hpg'
theorem bis3 (hF : ps.all (bisQ es fs ps) = false → ∀ h', Fr h0 h' → P (zdS (.bool false) (.int .i64 0)) h') (hT : ps.all (bisQ es fs ps) = true → ∀ h', Fr h0 h' → P (zdS (.bool true) (.int .i64 0)) h') :
    ∀ (k i : Nat) (h : H), i + k = ps.length → Fr h0 h → (ps.take i).all (bisQ es fs ps) = true →
    OkV (sh (rI F) c_a_3 (K_a_3 (rI F)) (setL [p2, p3, p4, p9] [v, ptr pg, ptr pg', .int .i64 (i : Int)]) h) P := by
  have hv := hr2.slvM
  intro k
  induction k with
  | zero =>
    intro i h hi hf hall
    have e : i = ps.length := by omega
    subst e
    rw [List.take_length] at hall
    refine OkV.eq (OkV.val (hT hall h hf)) ?_
    rw [s_a_3]
    simp [hv.len, s_a_2]
  | succ k ih =>
    intro i h hi hf hall
    have hil : i < ps.length := by omega
    have hfn := hf.next
    have hx : ps[i]? = some ps[i] := List.getElem?_eq_getElem hil
    have htk : ps.take (i + 1) = ps.take i ++ [ps[i]] := by rw [List.take_add_one, hx]; rfl
    have hmem : ps[i] ∈ ps := List.getElem_mem hil
    obtain ⟨b, o, cs, e, hvi, hb, hgb, ht⟩ := (hr2.fr hf).index (i := i) (r := prL ps[i]) (by rw [List.getElem?_map, hx]; rfl)
    generalize ps[i] = p at *
    obtain ⟨t1, t2⟩ := zhn ht
    have g0 := (hf.get _ hpg).trans hg
    have g1 := (hf.get _ hpg').trans hg'
    have hsv := hrow.slvM
    have hsv' := hrow'.slvM
    obtain ⟨va, h1, ea, oa, hf1, hga, hoa⟩ : ∃ v h', zbj F (fnV n_q) [gV st lb sl, .int .i64 p.1] h = some (v, h') ∧ ∃ ov, Fr h h' ∧ Grow h' 3 v ((outs es p.1).map edL) ov ∧ (∀ b, ov = some b → h.next ≤ b) :=
      zhx es hes p.1 st lb sl h (hrow.fr hf) (P := fun v h' => ∃ ov, Fr h h' ∧ Grow h' 3 v ((outs es p.1).map edL) ov ∧ (∀ b, ov = some b → h.next ≤ b)) (fun h' v ob q1 q2 q3 => ⟨ob, q1, q2, q3⟩)
    have hfn1 := hf1.next
    have g01 := (hf1.get _ (by omega)).trans g0
    have g11 := (hf1.get _ (by omega)).trans g1
    have gb1 := (hf1.get _ hb).trans hgb
    obtain ⟨vb, h2, eb, ob, hf2, hgb2, hob⟩ : ∃ v h', zbj F (fnV n_q) [gV st' lb' sl', .int .i64 p.2] h1 = some (v, h') ∧ ∃ ov, Fr h1 h' ∧ Grow h' 3 v ((outs fs p.2).map edL) ov ∧ (∀ b, ov = some b → h1.next ≤ b) :=
      zhx fs hfs p.2 st' lb' sl' h1 (hrow'.fr (hf.trans hf1)) (P := fun v h' => ∃ ov, Fr h1 h' ∧ Grow h' 3 v ((outs fs p.2).map edL) ov ∧ (∀ b, ov = some b → h1.next ≤ b)) (fun h' v ob q1 q2 q3 => ⟨ob, q1, q2, q3⟩)
    have hF2 : Fr h0 h2 := (hf.trans hf1).trans hf2
    have hl1 : (outs es p.1).length ≤ 1000 := Nat.le_trans (List.length_filter_le _ _) hes
    have hl2 : (outs fs p.2).length ≤ 1000 := Nat.le_trans (List.length_filter_le _ _) hfs
    have h5 : (outs es p.1).all (ansA (outs fs p.2) ps) = true → OkV (sh (rI F) c_a_5 (zhb (rI F)) (setL [p2, p3, p4, p9, p10, p11] [v, ptr pg, ptr pg', .int .i64 (i : Int), va, vb]) h2) P := by
      intro hA
      rw [s_a_5]
      have := bis10 (outs es p.1) (outs fs p.2) hl1 hl2 ps hsz v (ptr pg) (ptr pg') (.int .i64 (i : Int)) va vb h2 (hr2.fr hF2) ((hga.fr hf2).row (by omega)) (hgb2.row (by omega)) (P := P)
        (fun hB => hF (by rw [List.all_eq_false]; exact ⟨p, hmem, by unfold bisQ; simp [hB]⟩) h2 hF2) (fun hB => by
          rw [s_a_4]
          have := ih (i + 1) h2 (by omega) hF2 (by rw [htk, List.all_append, hall]; simp [bisQ, hA, hB])
          refine OkV.eq (this.lp (l_a_3 F _ _ _ _ _)) ?_
          simp (disch := omega) [zH]) (outs fs p.2).length 0 (by omega) (by simp)
      refine OkV.eq (this.lp (l_a_10 F _ _ _ _ _ _ _ _)) ?_
      simp
    have := bis6 (outs es p.1) (outs fs p.2) hl1 hl2 ps hsz v (ptr pg) (ptr pg') (.int .i64 (i : Int)) va vb h2 (hr2.fr hF2) ((hga.fr hf2).row (by omega)) (hgb2.row (by omega)) (P := P)
      (fun hA => hF (by rw [List.all_eq_false]; exact ⟨p, hmem, by unfold bisQ; simp [hA]⟩) h2 hF2) h5 (outs es p.1).length 0 (by omega) (by simp)
    have a1 : ∀ h' : H, zI 2 1 (.pointer (some ⟨b, o, none⟩)) (.int .i64 1) h' = some (.pointer (some ⟨b, o + 1 * 1, none⟩), h') := fun h' => rfl
    have a0 : ∀ h' : H, zI 2 1 (.pointer (some ⟨b, o, none⟩)) (.int .i64 0) h' = some (.pointer (some ⟨b, o + 0 * 1, none⟩), h') := fun h' => rfl
    rw [s_a_3]
    refine OkV.eq (this.lp (l_a_6 F _ _ _ _ _ _ _ _)) ?_
    simp (disch := omega) [↓zL, ↓zA, ↓zt, hv.len, hil, hvi, hgb, gb1, ht, t1, t2, hsv.take, hsv.clean, hsv'.take, hsv'.clean, hsv.eqc, hsv'.eqc, g0, g1, g01, g11, ea, eb, a0, a1]
end
end Go.Ideal.J
namespace Go.Ideal.J
open Go Go.Ideal
theorem rBis1 (st lb st' lb' : Int) (ps : List (Int × Int)) (hsz : ps.length ≤ 100000) (v sl sl' : Value) (pg pg' : Nat) (h : H) (hr2 : Row h 2 v (ps.map prL)) (hg : h.get pg = some (.cells (gL st lb sl) 0)) (hg' : h.get pg' = some (.cells (gL st' lb' sl') 0)) (hsl : ∃ n, SlV sl n) (hsl' : ∃ n, SlV sl' n) {P : Value → H → Prop}
    (hF : ps.all (rngQ st st') = false → P (zdS (.bool false) (.int .i64 2)) h) (hT : ps.all (rngQ st st') = true → OkV (sh (rI F) c_a_0 (K_a_0 (rI F)) (setL [p2, p3, p4] [v, ptr pg, ptr pg']) h) P) :
    ∀ (k i : Nat), i + k = ps.length → (ps.take i).all (rngQ st st') = true →
    OkV (sh (rI F) c_a_1 (K_a_1 (rI F)) (setL [p2, p3, p4, p8] [v, ptr pg, ptr pg', .int .i64 (i : Int)]) h) P := by
  have hv := hr2.slvM
  obtain ⟨n1, hs1⟩ := hsl
  obtain ⟨n2, hs2⟩ := hsl'
  intro k
  induction k with
  | zero =>
    intro i hi hall
    have e : i = ps.length := by omega
    subst e
    rw [List.take_length] at hall
    rw [s_a_1]
    simp [hv.len]
    exact hT hall
  | succ k ih =>
    intro i hi hall
    have hil : i < ps.length := by omega
    have hx : ps[i]? = some ps[i] := List.getElem?_eq_getElem hil
    have htk : ps.take (i + 1) = ps.take i ++ [ps[i]] := by rw [List.take_add_one, hx]; rfl
    have hmem : ps[i] ∈ ps := List.getElem_mem hil
    obtain ⟨b, o, cs, e, hvi, hb, hgb, ht⟩ := hr2.index (i := i) (r := prL ps[i]) (by rw [List.getElem?_map, hx]; rfl)
    generalize ps[i] = p at *
    obtain ⟨t1, t2⟩ := zhn ht
    have a1 : ∀ h' : H, zI 2 1 (.pointer (some ⟨b, o, none⟩)) (.int .i64 1) h' = some (.pointer (some ⟨b, o + 1 * 1, none⟩), h') := fun h' => rfl
    have a0 : ∀ h' : H, zI 2 1 (.pointer (some ⟨b, o, none⟩)) (.int .i64 0) h' = some (.pointer (some ⟨b, o + 0 * 1, none⟩), h') := fun h' => rfl
    rw [s_a_1]
    by_cases c : rngQ st st' p = true
    · have := ih (i + 1) (by omega) (by rw [htk, List.all_append, hall]; simp [c])
      refine OkV.eq (this.lp (l_a_1 F _ _ _ _ _)) ?_
      unfold rngQ at c
      simp only [Bool.and_eq_true, decide_eq_true_eq] at c
      obtain ⟨⟨⟨c1, c2⟩, c3⟩, c4⟩ := c
      have d1 : ¬ p.1 < 0 := by omega
      have d2 : ¬ st ≤ p.1 := by omega
      have d3 : ¬ p.2 < 0 := by omega
      have d4 : ¬ st' ≤ p.2 := by omega
      simp (disch := omega) [↓zL, ↓zA, ↓zt, hv.len, hil, hvi, hgb, ht, t1, t2, hg, hg', hs1.clean, hs1.take, hs2.clean, hs2.take, a0, a1, d1, d2, d3, d4, zH]
    · have hF' := hF (by rw [List.all_eq_false]; exact ⟨p, hmem, c⟩)
      refine OkV.eq (OkV.val hF') ?_
      by_cases d1 : p.1 < 0
      · simp (disch := omega) [↓zL, ↓zA, ↓zt, hv.len, hil, hvi, hgb, ht, t1, t2, hg, hg', hs1.clean, hs1.take, hs2.clean, hs2.take, a0, a1, d1]
      · by_cases d2 : st ≤ p.1
        · simp (disch := omega) [↓zL, ↓zA, ↓zt, hv.len, hil, hvi, hgb, ht, t1, t2, hg, hg', hs1.clean, hs1.take, hs2.clean, hs2.take, a0, a1, d1, d2]
        · by_cases d3 : p.2 < 0
          · simp (disch := omega) [↓zL, ↓zA, ↓zt, hv.len, hil, hvi, hgb, ht, t1, t2, hg, hg', hs1.clean, hs1.take, hs2.clean, hs2.take, a0, a1, d1, d2, d3]
          · by_cases d4 : st' ≤ p.2
            · simp (disch := omega) [↓zL, ↓zA, ↓zt, hv.len, hil, hvi, hgb, ht, t1, t2, hg, hg', hs1.clean, hs1.take, hs2.clean, hs2.take, a0, a1, d1, d2, d3, d4]
            · exact absurd (by unfold rngQ; simp; omega) c
theorem rBis_ok (st lb st' lb' : Int) (es fs : List Ed) (ps : List (Int × Int)) (hsz : ps.length ≤ 100000) (v sl sl' : Value) (h : H) (hrow : Row h 3 sl (es.map edL)) (hrow' : Row h 3 sl' (fs.map edL)) (hr2 : Row h 2 v (ps.map prL)) :
    ∃ h', zbj F (fnV n_a) [gV st lb sl, gV st' lb' sl', v] h = some (bisA st lb es st' lb' fs ps, h') ∧ Fr h h' := by
  have hv := hrow.slvM
  have hv' := hrow'.slvM
  obtain ⟨q, eq⟩ : ∃ q, q = h.next := ⟨_, rfl⟩
  obtain ⟨h2, eh2⟩ : ∃ h2, h2 = (h.new (.cells (gL st lb sl) 0)).new (.cells (gL st' lb' sl') 0) := ⟨_, rfl⟩
  have hf2 : Fr h h2 := by rw [eh2]; exact (Fr.new _ _).newR _
  have hn2 : h2.next = q + 2 := by rw [eh2, eq]; simp
  have g0 : h2.get q = some (.cells (gL st lb sl) 0) := by rw [eh2, eq]; simp (disch := omega)
  have g1 : h2.get (q + 1) = some (.cells (gL st' lb' sl') 0) := by rw [eh2, eq]; simp (disch := omega)
  obtain ⟨h3, e3, hf3⟩ := zdx st lb sl es h2 (hrow.fr hf2)
  have hfn3 := hf3.next
  have g03 := (hf3.get _ (by omega)).trans g0
  have g13 := (hf3.get _ (by omega)).trans g1
  cases hc : chk st lb es with
  | false =>
    rw [hc] at e3
    refine ⟨h3, zO F_a 3 (by decide) ?_, hf2.trans hf3⟩
    rw [s_a]
    simp (disch := first | omega | (simp only [za, zb]; done) | (simp only [za, zb]; omega)) [↓zL, ↓zA, ↓zt, hv.clean, hv.take, hv'.clean, hv'.take, ← eq, ← eh2, g0, g1, e3, erk, bisA, two, hc]
  | true =>
    rw [hc] at e3
    obtain ⟨h4, e4, hf4⟩ := zdx st' lb' sl' fs h3 ((hrow'.fr hf2).fr hf3)
    have hfn4 := hf4.next
    have g04 := (hf4.get _ (by omega)).trans g03
    have g14 := (hf4.get _ (by omega)).trans g13
    have hF4 : Fr h h4 := (hf2.trans hf3).trans hf4
    cases hc' : chk st' lb' fs with
    | false =>
      rw [hc'] at e4
      refine ⟨h4, zO F_a 3 (by decide) ?_, hF4⟩
      rw [s_a]
      simp (disch := first | omega | (simp only [za, zb]; done) | (simp only [za, zb]; omega)) [↓zL, ↓zA, ↓zt, hv.clean, hv.take, hv'.clean, hv'.take, ← eq, ← eh2, g0, g1, e3, erk, g03, g13, e4, bisA, two, hc, hc']
    | true =>
      rw [hc'] at e4
      by_cases hl : lb = lb'
      · subst hl
        have fm := (zek st lb es).1 hc
        have fm' := (zek st' lb fs).1 hc'
        have a5 := fm.len; have a6 := fm'.len
        have h2w : two st lb es st' lb fs = true := by simp [two, hc, hc']
        obtain ⟨u, h', e, q1⟩ : Ret F (fnV n_a) [gV st lb sl, gV st' lb sl', v] h fun u h' => u = bisA st lb es st' lb fs ps ∧ Fr h h' := by
          refine Ret.fn F_a 3 (by decide) ?_
          obtain ⟨P, hPd⟩ : ∃ P : Value → H → Prop, P = fun u h' => u = bisA st lb es st' lb fs ps ∧ Fr h h' := ⟨_, rfl⟩
          rw [← hPd, s_a]
          have := rBis1 st lb st' lb ps hsz v sl sl' q (q + 1) h4 (hr2.fr hF4) g04 g14 ⟨_, hv⟩ ⟨_, hv'⟩ (P := P) (fun hr => by
            rw [hPd]; exact ⟨by unfold bisA; rw [if_pos h2w, if_neg (by simp [hr])], hF4⟩) (fun hr => by
              rw [s_a_0]
              have := bis3 st lb st' lb es fs (by omega) (by omega) ps hsz v sl sl' q (q + 1) h4 (hr2.fr hF4) (hrow.fr hF4) (hrow'.fr hF4) g04 g14 (by omega) (by omega) (P := P)
                (fun hq h' hf' => by rw [hPd]; exact ⟨by unfold bisA; rw [if_pos h2w, if_pos hr, hq], hF4.trans hf'⟩)
                (fun hq h' hf' => by rw [hPd]; exact ⟨by unfold bisA; rw [if_pos h2w, if_pos hr, hq], hF4.trans hf'⟩) ps.length 0 h4 (by omega) (.refl _) (by simp)
              refine OkV.eq (this.lp (l_a_3 F _ _ _ _ _)) ?_
              simp) ps.length 0 (by omega) (by simp)
          refine OkV.eq (this.lp (l_a_1 F _ _ _ _ _)) ?_
          simp (disch := first | omega | (simp only [za, zb]; done) | (simp only [za, zb]; omega)) [↓zL, ↓zA, ↓zt, hv.clean, hv.take, hv'.clean, hv'.take, ← eq, ← eh2, g0, g1, e3, erk, g03, g13, e4, g04, g14]
        obtain ⟨rfl, q2⟩ := q1
        exact ⟨h', e, q2⟩
      · have hl' : decide (lb = lb') = false := by simp [hl]
        refine ⟨h4, zO F_a 3 (by decide) ?_, hF4⟩
        rw [s_a]
        simp (disch := first | omega | (simp only [za, zb]; done) | (simp only [za, zb]; omega)) [↓zL, ↓zA, ↓zt, hv.clean, hv.take, hv'.clean, hv'.take, ← eq, ← eh2, g0, g1, e3, erk, g03, g13, e4, bisA, two, hc, hc', g04, g14, hl, hl']
end Go.Ideal.J
namespace Go.Ideal.J
open Go Go.Ideal
abbrev sV (R : Int → Int → Bool) : Int → Int → Option Value := fun a b => if R a b then some (.bool true) else none
def swR (turned : Bool) (R : Int → Int → Bool) (u t : Int) : Bool := if turned then R t u else R u t
def folX (R : Int → Int → Bool) (turned : Bool) (fs : List Ed) (b : Int) (x : Ed) : Bool := (tos fs b x.2.2).any fun t => swR turned R x.2.1 t
def folA (R : Int → Int → Bool) (turned : Bool) (es fs : List Ed) (a b : Int) : Bool := (outs es a).all (folX R turned fs b)
noncomputable abbrev slI (m4 m5 x : Nat) : zf := setL [p10, p11, p13] [ptr m4, ptr m5, ptr x]
theorem fol_in (R : Int → Int → Bool) (turned : Bool) (m : Nat) (x : Ed) (t : Int) (L pm pt px : Nat) (h1 : H) (hm : MapM h1 m (sV R)) (hml : m < h1.next) (hL : h1.get L = some (.loop .ready none (slI pm pt px) zff))
    (hpm : h1.get pm = some (.cells [.map (some m)] 0)) (hpt : h1.get pt = some (.cells [.bool turned] 0)) (hpx : h1.get px = some (.cells (edL x) 0)) (l0 : L < h1.next) (l1 : pm < h1.next) (l2 : pt < h1.next) (l3 : px < h1.next) (n1 : pm ≠ L) (n2 : pt ≠ L) (n3 : px ≠ L) (n5 : m ≠ L) {P : Value → H → Prop}
    (hP1 : swR turned R x.2.1 t = false → ∀ h', FrD (fun j => j = L) h1 h' → h'.get L = some (.loop .ready none (slI pm pt px) zff) → P (.bool true) h')
    (hP2 : swR turned R x.2.1 t = true → ∀ h', FrD (fun j => j = L) h1 h' → h'.get L = some (.loop .done (some (.exit 1)) (slI pm pt px) zff) → P (.bool false) h') :
    Ret F (.func (.yield L) #[] #[]) [.int .i64 t] h1 P := by
  refine Ret.round hL ?_
  rw [s_j_4]
  simp (disch := first | omega | (simp only [za, zb]; done) | (simp only [za, zb]; omega)) [↓zL, ↓zA, ↓zt]
  rw [zfT hL, s_j_5]
  obtain ⟨pr, epr⟩ : ∃ pr : List Value, pr = if turned then [.int .i64 t, .int .i64 x.2.1] else [.int .i64 x.2.1, .int .i64 t] := ⟨_, rfl⟩
  obtain ⟨h2, eh2⟩ : ∃ h2, h2 = (h1.put L (.loop .busy none (slI pm pt px) zff)).new (.cells pr 0) := ⟨_, rfl⟩
  have hf2 : FrD (fun j => j = L) h1 h2 := by rw [eh2]; exact ((FrD.refl (fun j => j = L) _).put (.inr rfl) _).new _
  have hn2 : h2.next = h1.next + 1 := by rw [eh2]; simp
  have gL : h2.get L = some (.loop .busy none (slI pm pt px) zff) := by rw [eh2, zbg (by simp; omega), zB rfl]
  have hm2 : MapM h2 m (sV R) := hm.fr hf2 hml n5
  have gm := (hf2.get _ l1 n1).trans hpm
  have gt := (hf2.get _ l2 n2).trans hpt
  have gx := (hf2.get _ l3 n3).trans hpx
  have gp : h2.get h1.next = some (.cells pr 0) := by rw [eh2, zdh (by simp)]
  have hf3 : ∀ o, FrD (fun j => j = L) h1 (h2.put L o) := fun o => hf2.put (.inr rfl) _
  have h6 : OkV (sh (rI F) c_j_6 (K_j_6 (rI F) L) (setL [p10, p15] [ptr pm, ptr h1.next]) h2) P := by
    rw [s_j_6]
    have hlk : zbM (.leaves [0, 1]) (.bool false) false (.map (some m)) (.agg ⟨pr⟩) h2 = some (.bool (swR turned R x.2.1 t), h2) := by
      have hb : ∀ a b : Int, ((sV R a b).getD (.bool false)) = .bool (R a b) := fun a b => by simp only [sV]; cases R a b <;> rfl
      cases turned with
      | false =>
        have := look1_ok hm2 (.bool false) x.2.1 t
        rw [hb] at this
        rw [epr]; exact this
      | true =>
        have := look1_ok hm2 (.bool false) t x.2.1
        rw [hb] at this
        rw [epr]; exact this
    have tp : zY 2 pr = some pr := by rw [epr]; cases turned <;> rfl
    cases hs : swR turned R x.2.1 t with
    | true =>
      rw [hs] at hlk
      have : OkV (fin L (some (.exit 1)) h2) P := by
        rw [zfN gL]
        exact OkV.val (hP2 hs _ (hf3 _) (zB rfl))
      refine OkV.eq this ?_
      simp (disch := first | omega | (simp only [za, zb]; done) | (simp only [za, zb]; omega)) [↓zL, ↓zA, ↓zt, gm, gp, tp, hlk]
    | false =>
      rw [hs] at hlk
      have : OkV (fin L none h2) P := by
        rw [zeN gL]
        exact OkV.val (hP1 hs _ (hf3 _) (zB rfl))
      refine OkV.eq this ?_
      simp (disch := first | omega | (simp only [za, zb]; done) | (simp only [za, zb]; omega)) [↓zL, ↓zA, ↓zt, gm, gp, tp, hlk]
  refine OkV.eq h6 ?_
  rw [epr] at eh2
  cases turned with
  | false =>
    simp only [Bool.false_eq_true, if_false] at eh2
    simp (disch := first | omega | (simp only [za, zb]; done) | (simp only [za, zb]; omega)) [↓zL, ↓zA, ↓zt, hpx, hpt, n3, n2, zn, ← eh2, gt]
  | true =>
    simp only [if_true] at eh2
    simp (disch := first | omega | (simp only [za, zb]; done) | (simp only [za, zb]; omega)) [↓zL, ↓zA, ↓zt, hpx, hpt, n3, n2, zn, gt, ← eh2]
end Go.Ideal.J
namespace Go.Ideal.J
open Go Go.Ideal
noncomputable abbrev slO (q : Nat) : zf := setL [p7, p9, p10, p11, p12] [ptr (q + 1), ptr (q + 1 + 1), ptr (q + 1 + 1 + 1), ptr (q + 1 + 1 + 1 + 1), ptr (q + 1 + 1 + 1 + 1 + 1)]
theorem fol_round (R : Int → Int → Bool) (turned : Bool) (fs : List Ed) (hs : zZ fs) (hsz : fs.length ≤ 1000) (st' lb' : Int) (sl' : Value) (m : Nat) (x : Ed) (b : Int) (L q : Nat) (h1 : H) (hrow : Row h1 3 sl' (fs.map edL)) (hsl : ∀ b o n c, sl' = .slice (some ⟨b, o, none⟩) n c → b ≠ L) (hm : MapM h1 m (sV R)) (hml : m < q) (hL : h1.get L = some (.loop .ready none (slO q) zfg)) (hLq : q + 6 ≤ L)
    (g1 : h1.get (q + 1) = some (.cells (gL st' lb' sl') 0)) (g2 : h1.get (q + 1 + 1) = some (.cells [.int .i64 b] 0)) (g3 : h1.get (q + 1 + 1 + 1) = some (.cells [.map (some m)] 0)) (g4 : h1.get (q + 1 + 1 + 1 + 1) = some (.cells [.bool turned] 0)) (g5 : h1.get (q + 1 + 1 + 1 + 1 + 1) = some (.cells [.bool false] 0)) (hl : L < h1.next) {P : Value → H → Prop}
    (hP1 : folX R turned fs b x = true → ∀ h', FrD (fun j => j = L ∨ j = q + 5) h1 h' → h'.get L = some (.loop .ready none (slO q) zfg) → h'.get (q + 5) = some (.cells [.bool false] 0) → P (.bool true) h')
    (hP2 : folX R turned fs b x = false → ∀ h', FrD (fun j => j = L ∨ j = q + 5) h1 h' → h'.get L = some (.loop .done (some .ret) (slO q) zfg) → h'.get (q + 5) = some (.cells [.bool false] 0) → P (.bool false) h') :
    Ret F (.func (.yield L) #[] #[]) [edV x] h1 P := by
  refine Ret.round hL ?_
  rw [s_j_1]
  simp (disch := first | omega | (simp only [za, zb]; done) | (simp only [za, zb]; omega)) [↓zL, ↓zA, ↓zt]
  obtain ⟨h2, eh2⟩ : ∃ h2, h2 = (h1.new (.cells (edL x) 0)).put L (.loop .busy none (slO q) zfg) := ⟨_, rfl⟩
  rw [zfT (by rw [zbg (by omega)]; exact hL), s_j_2]
  have hf2 : FrD (fun j => j = L) h1 h2 := by rw [eh2]; exact ((FrD.refl (fun j => j = L) _).new _).put (.inr rfl) _
  have hn2 : h2.next = h1.next + 1 := by rw [eh2]; simp
  have gL2 : h2.get L = some (.loop .busy none (slO q) zfg) := by rw [eh2, zB rfl]
  have gx2 : h2.get h1.next = some (.cells (edL x) 0) := by rw [eh2, zk (by omega), zdh rfl]
  have k1 := (hf2.get _ (by omega) (by omega)).trans g1
  have k2' := (hf2.get _ (by omega) (by omega)).trans g2
  have k3 := (hf2.get _ (by omega) (by omega)).trans g3
  have k4 := (hf2.get _ (by omega) (by omega)).trans g4
  have k5 := (hf2.get _ (by omega) (by omega)).trans g5
  have hv := hrow.slvM
  obtain ⟨n, en⟩ : ∃ n, n = h1.next := ⟨_, rfl⟩
  rw [← en] at gx2 hn2
  obtain ⟨h4, eh4⟩ : ∃ h4, h4 = (((h2.new (.cells (gL st' lb' sl') 0)).new (.cells [.int .i64 b] 0)).new (.cells [.int .i64 x.2.2] 0)).new (.loop .ready none (slI (q + 1 + 1 + 1) (q + 1 + 1 + 1 + 1) n) zff) := ⟨_, rfl⟩
  have hf4 : Fr h2 h4 := by rw [eh4]; exact (((Fr.new _ _).newR _).newR _).newR _
  have hn4 : h4.next = n + 5 := by rw [eh4]; simp [hn2]
  have gg4 : h4.get (n + 1) = some (.cells (gL st' lb' sl') 0) := by rw [eh4]; simp (disch := first | omega | (simp only [za, zb]; omega)) [hn2]
  have gf4 : h4.get (n + 1 + 1) = some (.cells [.int .i64 b] 0) := by rw [eh4]; simp (disch := first | omega | (simp only [za, zb]; omega)) [hn2]
  have gl4 : h4.get (n + 1 + 1 + 1) = some (.cells [.int .i64 x.2.2] 0) := by rw [eh4]; simp (disch := first | omega | (simp only [za, zb]; omega)) [hn2]
  have gI4 : h4.get (n + 4) = some (.loop .ready none (slI (q + 1 + 1 + 1) (q + 1 + 1 + 1 + 1) n) zff) := by rw [eh4]; simp (disch := first | omega | (simp only [za, zb]; omega)) [hn2]
  have hfD : FrD (fun j => j = L) h1 h4 := hf2.trans hf4.D
  have hrow4 := hrow.frD hfD hsl
  have hm4 := hm.fr hfD (by omega) (by omega)
  have gx4 := (hf4.get _ (by omega)).trans gx2
  have j3 := (hf4.get _ (by omega)).trans k3
  have j4 := (hf4.get _ (by omega)).trans k4
  have j5 := (hf4.get _ (by omega)).trans k5
  have gL4 := (hf4.get _ (by omega)).trans gL2
  have hcall : Ret F (leadsV (n + 1) (n + 1 + 1) (n + 1 + 1 + 1)) [.func (.yield (n + 4)) #[] #[]] h4 fun _ h' => FrD (fun j => j = n + 4) h4 h' ∧ ((h'.get (n + 4) = some (.loop .ready none (slI (q + 1 + 1 + 1) (q + 1 + 1 + 1 + 1) n) zff) ∧ folX R turned fs b x = false) ∨ (h'.get (n + 4) = some (.loop .done (some (.exit 1)) (slI (q + 1 + 1 + 1) (q + 1 + 1 + 1 + 1) n) zff) ∧ folX R turned fs b x = true)) := by
    refine leads_run fs hs hsz b x.2.2 st' lb' (.func (.yield (n + 4)) #[] #[]) rfl rfl rfl sl' (n + 1) (n + 1 + 1) (n + 1 + 1 + 1) h4 (M := fun j => j = n + 4) (fun i hi => by omega) hrow4 (by omega) (by omega) (by omega) (fun b o n' c e => by have := hrow.lt e; omega) (by omega) gg4 (by omega) gf4 (by omega) gl4
      (fun i h5 => h5.get (n + 4) = some (.loop .ready none (slI (q + 1 + 1 + 1) (q + 1 + 1 + 1 + 1) n) zff) ∧ FrD (fun j => j = n + 4) h4 h5 ∧ ∀ t ∈ (tos fs b x.2.2).take i, swR turned R x.2.1 t = false)
      (fun h5 => h5.get (n + 4) = some (.loop .done (some (.exit 1)) (slI (q + 1 + 1 + 1) (q + 1 + 1 + 1 + 1) n) zff) ∧ h4.next ≤ h5.next ∧ ∃ t ∈ tos fs b x.2.2, swR turned R x.2.1 t = true) ?_ ?_ ?_ ?_ ?_
    · rintro i a1 a2 ⟨q1, q2, q3⟩ hf
      have := q2.next
      exact ⟨(hf.get _ (by omega) (by omega)).trans q1, ⟨Nat.le_trans q2.next hf.next, fun j hj hd => (hf.get _ (by omega) (by omega)).trans (q2.get _ hj hd)⟩, q3⟩
    · rintro a1 a2 ⟨q1, q2, q3⟩ hf
      exact ⟨(hf.get _ (by omega) (by omega)).trans q1, Nat.le_trans q2 hf.next, q3⟩
    · rintro i v a1 hvv ⟨q1, q2, q3⟩ hnn
      rw [List.getElem?_map] at hvv
      obtain ⟨t, ht, rfl⟩ := Option.map_eq_some_iff.1 hvv
      refine fol_in R turned m x t (n + 4) (q + 1 + 1 + 1) (q + 1 + 1 + 1 + 1) n a1 (hm4.fr q2 (by omega) (by omega)) (by omega) q1 ((q2.get _ (by omega) (by omega)).trans j3) ((q2.get _ (by omega) (by omega)).trans j4) ((q2.get _ (by omega) (by omega)).trans gx4) (by omega) (by omega) (by omega) (by omega) (by omega) (by omega) (by omega) (by omega) ?_ ?_
      · intro e h' r1 r2
        refine ⟨r1, .inl ⟨rfl, r2, q2.trans r1, fun u hu => ?_⟩⟩
        rw [List.take_add_one, ht] at hu
        rcases List.mem_append.1 hu with hu | hu
        · exact q3 u hu
        · simp at hu; subst hu; exact e
      · intro e h' r1 r2
        exact ⟨r1, .inr ⟨rfl, r2, by have := r1.next; omega, t, List.mem_of_getElem? ht, e⟩⟩
    · exact ⟨gI4, .refl _ _, by simp⟩
    · intro h' hf hvv
      refine ⟨hf, ?_⟩
      rcases hvv with ⟨q1, q2, q3⟩ | ⟨q1, q2, t, ht, e⟩
      · refine .inl ⟨q1, ?_⟩
        rw [List.take_length] at q3
        unfold folX
        rw [List.any_eq_false]
        intro t ht; rw [q3 t ht]; simp
      · exact .inr ⟨q1, by unfold folX; rw [List.any_eq_true]; exact ⟨t, ht, e⟩⟩
  rw [← eh2]
  simp (disch := first | omega | (simp only [za, zb]; done) | (simp only [za, zb]; omega)) [↓zL, ↓zA, ↓zt, ← en, k1, k2', gx2, hv.clean, hv.take, leads_ok, hn2]
  rw [← eh4]
  refine OkV.call hcall ?_
  rintro v h5 ⟨hf5, hv5⟩
  have hfn5 := hf5.next
  have gL5 := (hf5.get _ (by omega) (by omega)).trans gL4
  have j55 := (hf5.get _ (by omega) (by omega)).trans j5
  have hF : ∀ o, FrD (fun j => j = L ∨ j = q + 5) h1 (h5.put (n + 4) o) := fun o => ⟨by simp; omega, fun i hi hd => by
    rw [zk (by omega), hf5.get _ (by omega) (by omega)]; exact hfD.get _ hi (by omega)⟩
  rcases hv5 with ⟨q1, q2⟩ | ⟨q1, q2⟩
  · rw [zd6 q1, s_j_3]
    have : OkV (fin L (some .ret) ((h5.put (n + 4) (.loop .exhausted none (slI (q + 1 + 1 + 1) (q + 1 + 1 + 1 + 1) n) zff)).put (q + 1 + 1 + 1 + 1 + 1) (.cells [.bool false] 0))) P := by
      rw [zfN (by rw [zk (by omega), zk (by omega)]; exact gL5)]
      exact OkV.val (hP2 q2 _ (((hF _).put (.inr (.inr rfl)) _).put (.inr (.inl rfl)) _) (zB rfl) (by rw [zk (by omega), zB rfl]))
    refine OkV.eq this ?_
    simp (disch := first | omega | (simp only [za, zb]; done) | (simp only [za, zb]; omega)) [↓zL, ↓zA, ↓zt, j55]
  · rw [rgP_exit q1]
    have : OkV (fin L none (h5.put (n + 4) (.loop .exhausted (some (.exit 1)) (slI (q + 1 + 1 + 1) (q + 1 + 1 + 1 + 1) n) zff))) P := by
      rw [zeN (by rw [zk (by omega)]; exact gL5)]
      exact OkV.val (hP1 q2 _ ((hF _).put (.inr (.inl rfl)) _) (zB rfl) (by rw [zk (by omega), zk (by omega)]; exact j55))
    exact this
theorem zjg (R : Int → Int → Bool) (turned : Bool) (es fs : List Ed) (hes : zZ es) (hfs : zZ fs) (hsz : es.length ≤ 1000) (hszf : fs.length ≤ 1000) (st lb st' lb' : Int) (sl sl' : Value) (m : Nat) (a b : Int) (h : H) (hrow : Row h 3 sl (es.map edL)) (hrow' : Row h 3 sl' (fs.map edL)) (hm : MapM h m (sV R)) (hml : m < h.next) :
    ∃ h', zbj F (fnV n_j) [gV st lb sl, gV st' lb' sl', .int .i64 a, .int .i64 b, .map (some m), .bool turned] h = some (.bool (folA R turned es fs a b), h') ∧ Fr h h' := by
  suffices hr : Ret F (fnV n_j) [gV st lb sl, gV st' lb' sl', .int .i64 a, .int .i64 b, .map (some m), .bool turned] h fun v h' => v = .bool (folA R turned es fs a b) ∧ Fr h h' by
    obtain ⟨v, h', e, rfl, hf⟩ := hr; exact ⟨h', e, hf⟩
  obtain ⟨P, hPd⟩ : ∃ P : Value → H → Prop, P = fun v h' => v = .bool (folA R turned es fs a b) ∧ Fr h h' := ⟨_, rfl⟩
  rw [← hPd]
  refine Ret.fn F_j 6 (by decide) ?_
  rw [s_j]
  have hv := hrow.slvM
  have hv' := hrow'.slvM
  obtain ⟨q, eq⟩ : ∃ q, q = h.next := ⟨_, rfl⟩
  obtain ⟨h2, eh2⟩ : ∃ h2, h2 = ((((((((h.new (.cells (gL st lb sl) 0)).new (.cells (gL st' lb' sl') 0)).new (.cells [.int .i64 b] 0)).new (.cells [.map (some m)] 0)).new (.cells [.bool turned] 0)).new (.cells [.bool false] 0)).new (.cells (gL st lb sl) 0)).new (.cells [.int .i64 a] 0)).new (.loop .ready none (slO q) zfg) := ⟨_, rfl⟩
  have hf2 : Fr h h2 := by rw [eh2]; exact ((((((((Fr.new _ _).newR _).newR _).newR _).newR _).newR _).newR _).newR _).newR _
  have hn2 : h2.next = q + 9 := by rw [eh2, eq]; simp
  have k1 : h2.get (q + 1) = some (.cells (gL st' lb' sl') 0) := by rw [eh2, eq]; simp (disch := first | omega | (simp only [za, zb]; done) | (simp only [za, zb]; omega)) []
  have k2' : h2.get (q + 1 + 1) = some (.cells [.int .i64 b] 0) := by rw [eh2, eq]; simp (disch := first | omega | (simp only [za, zb]; done) | (simp only [za, zb]; omega)) []
  have k3 : h2.get (q + 1 + 1 + 1) = some (.cells [.map (some m)] 0) := by rw [eh2, eq]; simp (disch := first | omega | (simp only [za, zb]; done) | (simp only [za, zb]; omega)) []
  have k4 : h2.get (q + 1 + 1 + 1 + 1) = some (.cells [.bool turned] 0) := by rw [eh2, eq]; simp (disch := first | omega | (simp only [za, zb]; done) | (simp only [za, zb]; omega)) []
  have k5 : h2.get (q + 1 + 1 + 1 + 1 + 1) = some (.cells [.bool false] 0) := by rw [eh2, eq]; simp (disch := first | omega | (simp only [za, zb]; done) | (simp only [za, zb]; omega)) []
  have gg2 : h2.get (q + 1 + 1 + 1 + 1 + 1 + 1) = some (.cells (gL st lb sl) 0) := by rw [eh2, eq]; simp (disch := first | omega | (simp only [za, zb]; done) | (simp only [za, zb]; omega)) []
  have gf2 : h2.get (q + 1 + 1 + 1 + 1 + 1 + 1 + 1) = some (.cells [.int .i64 a] 0) := by rw [eh2, eq]; simp (disch := first | omega | (simp only [za, zb]; done) | (simp only [za, zb]; omega)) []
  have gL2 : h2.get (q + 1 + 1 + 1 + 1 + 1 + 1 + 1 + 1) = some (.loop .ready none (slO q) zfg) := by rw [eh2, eq]; simp (disch := first | omega | (simp only [za, zb]; done) | (simp only [za, zb]; omega)) []
  obtain ⟨L, eL⟩ : ∃ L, L = q + 1 + 1 + 1 + 1 + 1 + 1 + 1 + 1 := ⟨_, rfl⟩
  rw [← eL] at gL2
  have hm2 := hm.fr (D := fun _ => False) hf2.D hml (by simp)
  have hcall : Ret F (stepsV (q + 1 + 1 + 1 + 1 + 1 + 1) (q + 1 + 1 + 1 + 1 + 1 + 1 + 1)) [.func (.yield L) #[] #[]] h2 fun _ h' => FrD (fun j => j = L ∨ j = q + 5) h2 h' ∧ ((h'.get L = some (.loop .ready none (slO q) zfg) ∧ h'.get (q + 5) = some (.cells [.bool false] 0) ∧ folA R turned es fs a b = true) ∨ (h'.get L = some (.loop .done (some .ret) (slO q) zfg) ∧ h'.get (q + 5) = some (.cells [.bool false] 0) ∧ folA R turned es fs a b = false)) := by
    refine zhp es hes hsz a st lb (.func (.yield L) #[] #[]) sl (q + 1 + 1 + 1 + 1 + 1 + 1) (q + 1 + 1 + 1 + 1 + 1 + 1 + 1) h2 (M := fun j => j = L ∨ j = q + 5) (hrow.fr hf2) (by omega) (by omega) (fun b o n c e => by have := hrow.lt e; omega) (by omega) gg2 (by omega) gf2
      (fun i h1 => h1.get L = some (.loop .ready none (slO q) zfg) ∧ h1.get (q + 5) = some (.cells [.bool false] 0) ∧ FrD (fun j => j = L ∨ j = q + 5) h2 h1 ∧ ∀ x ∈ (outs es a).take i, folX R turned fs b x = true)
      (fun h1 => ∃ x ∈ outs es a, h1.get L = some (.loop .done (some .ret) (slO q) zfg) ∧ h1.get (q + 5) = some (.cells [.bool false] 0) ∧ folX R turned fs b x = false) h2.next (Nat.le_refl _) ?_ ?_ ?_ ?_
    · rintro i h1 h3 ⟨q1, q2, q4, q5⟩ hf
      have := q4.next
      exact ⟨(hf.get _ (by omega)).trans q1, (hf.get _ (by omega)).trans q2, q4.trans hf.D, q5⟩
    · rintro i v h1 hvv ⟨q1, q2, q4, q5⟩ hn
      rw [List.getElem?_map] at hvv
      obtain ⟨x, hx, rfl⟩ := Option.map_eq_some_iff.1 hvv
      refine fol_round R turned fs hfs hszf st' lb' sl' m x b L q h1 ((hrow'.fr hf2).frD q4 (fun b o n c e => by have := hrow'.lt e; omega)) (fun b o n c e => by have := hrow'.lt e; omega) (hm2.fr q4 (by omega) (by omega)) (by omega) q1 (by omega) ((q4.get _ (by omega) (by omega)).trans k1) ((q4.get _ (by omega) (by omega)).trans k2') ((q4.get _ (by omega) (by omega)).trans k3) ((q4.get _ (by omega) (by omega)).trans k4) q2 (by omega) ?_ ?_
      · intro e h' r1 r2 r3
        refine ⟨r1, .inl ⟨rfl, r2, r3, q4.trans r1, fun y hy => ?_⟩⟩
        rw [List.take_add_one, hx] at hy
        rcases List.mem_append.1 hy with hy | hy
        · exact q5 y hy
        · simp at hy; subst hy; exact e
      · intro e h' r1 r2 r3
        exact ⟨r1, .inr ⟨rfl, x, List.mem_of_getElem? hx, r2, r3, e⟩⟩
    · exact ⟨gL2, k5, .refl _ _, by simp⟩
    · intro h' hf hvv
      refine ⟨hf, ?_⟩
      rcases hvv with ⟨q1, q2, q4, q5⟩ | ⟨x, hx, q1, q2, q3⟩
      · rw [List.take_length] at q5
        exact .inl ⟨q1, q2, List.all_eq_true.2 q5⟩
      · exact .inr ⟨q1, q2, List.all_eq_false.2 ⟨x, hx, by simp [q3]⟩⟩
  have hfin : ∀ h', FrD (fun j => j = L ∨ j = q + 5) h2 h' → ∀ o, Fr h (h'.put L o) := fun h' hf o => ⟨by simp; have := hf2.next; have := hf.next; omega, fun i hi => by
    rw [zk (by omega), hf.get _ (by have := hf2.next; omega) (by omega)]; exact hf2.get _ hi⟩
  have hb : ∀ X, X = q + 1 + 1 + 1 + 1 + 1 + 1 + 1 + 1 → X = L := fun X e => by omega
  simp (disch := first | omega | (simp only [za, zb]; done) | (simp only [za, zb]; omega)) [↓zL, ↓zA, ↓zt, hv.clean, hv.take, steps_ok, ← eq]
  rw [← eh2, ← eL]
  refine OkV.call hcall ?_
  rintro v h' ⟨hf, hvv⟩
  have hfn := hf.next
  rcases hvv with ⟨q1, q2, q3⟩ | ⟨q1, q2, q3⟩
  · rw [zd6 q1, s_j_0]
    have q2' : h'.get (q + 1 + 1 + 1 + 1 + 1) = some (.cells [.bool false] 0) := q2
    refine OkV.eq (OkV.val (v := .bool true) (h := (h'.put L (.loop .exhausted none (slO q) zfg)).put (q + 1 + 1 + 1 + 1 + 1) (.cells [.bool true] 0)) (by rw [hPd]; exact ⟨by rw [q3], (hfin h' hf _).put (by omega) _⟩)) ?_
    simp (disch := first | omega | (simp only [za, zb]; done) | (simp only [za, zb]; omega)) [↓zL, ↓zA, ↓zt, q2']
  · rw [rgP_ret q1]
    have q2' : h'.get (q + 1 + 1 + 1 + 1 + 1) = some (.cells [.bool false] 0) := q2
    refine OkV.eq (OkV.val (v := .bool false) (h := h'.put L (.loop .exhausted (some .ret) (slO q) zfg)) (by rw [hPd]; exact ⟨by rw [q3], hfin h' hf _⟩)) ?_
    simp (disch := first | omega | (simp only [za, zb]; done) | (simp only [za, zb]; omega)) [↓zL, ↓zA, ↓zt, q2']
end Go.Ideal.J
namespace Go.Ideal.J
open Go Go.Ideal
structure zfa (es : List (Value × Value × Nat)) (c : Nat) : Prop where
  lt : ∀ e ∈ es, e.2.2 < c
  nd : (es.map (·.2.2)).Nodup
  kv : ∀ e ∈ es, ∃ a b, e.1 = key2 a b ∧ e.2.1 = .bool true
theorem zfa.nil : zfa [] 0 := ⟨by simp, by simp, by simp⟩
theorem zfa.set {k : Value} (hk : ∃ a b, k = key2 a b) {clock : Nat} : ∀ {es : List (Value × Value × Nat)} {c0 : Nat}, zfa es c0 → ∀ {es' c'}, setE kk2 k (.bool true) clock es = some (es', c') → c0 ≤ clock → zfa es' c' ∧ clock ≤ c' ∧ ∀ e ∈ es', e.2.2 = clock ∨ ∃ d ∈ es, d.2.2 = e.2.2
  | [], c0, h, es', c', hs, hc => by
    cases hs
    exact ⟨⟨by simp, by simp, fun e he => by rw [List.mem_singleton] at he; subst he; obtain ⟨a, b, rfl⟩ := hk; exact ⟨a, b, rfl, rfl⟩⟩, by omega, by simp⟩
  | (key, w, b) :: es, c0, h, es', c', hs, hc => by
    rw [setE_cons] at hs
    obtain ⟨s, h1, hs⟩ := aof hs
    have hnd := List.nodup_cons.1 h.nd
    have hr : zfa es c0 := ⟨fun e he => h.lt e (by simp [he]), hnd.2, fun e he => h.kv e (by simp [he])⟩
    have hb : b < c0 := h.lt (key, w, b) (by simp)
    cases s with
    | true =>
      dsimp only at hs
      split at hs
      · cases hs
        refine ⟨⟨fun e he => ?_, h.nd, fun e he => ?_⟩, Nat.le_refl _, fun e he => ?_⟩
        · rcases List.mem_cons.1 he with rfl | he
          · show b < clock; omega
          · have := hr.lt e he; omega
        · rcases List.mem_cons.1 he with rfl | he
          · obtain ⟨a, b, rfl⟩ := hk; exact ⟨a, b, rfl, rfl⟩
          · exact hr.kv e he
        · rcases List.mem_cons.1 he with rfl | he
          · exact .inr ⟨_, List.mem_cons_self, rfl⟩
          · exact .inr ⟨e, List.mem_cons_of_mem _ he, rfl⟩
      · cases hs
    | false =>
      dsimp only at hs
      obtain ⟨⟨es2, c2⟩, h2, e2⟩ := amf hs
      cases e2
      obtain ⟨q1, q2, q3⟩ := zfa.set hk hr h2 hc
      refine ⟨⟨fun e he => ?_, ?_, fun e he => ?_⟩, q2, fun e he => ?_⟩
      · rcases List.mem_cons.1 he with rfl | he
        · show b < c2; omega
        · exact q1.lt e he
      · refine List.nodup_cons.2 ⟨fun hm => ?_, q1.nd⟩
        obtain ⟨e, he, heb⟩ := List.mem_map.1 hm
        rcases q3 e he with hx | ⟨d, hd, hdb⟩
        · have heb : e.2.2 = b := heb
          omega
        · have heb : e.2.2 = b := heb
          exact hnd.1 (List.mem_map.2 ⟨d, hd, hdb.trans heb⟩)
      · rcases List.mem_cons.1 he with rfl | he
        · exact h.kv (key, w, b) (by simp)
        · exact q1.kv e he
      · rcases List.mem_cons.1 he with rfl | he
        · exact .inr ⟨_, List.mem_cons_self, rfl⟩
        · rcases q3 e he with hx | ⟨d, hd, hdb⟩
          · exact .inl hx
          · exact .inr ⟨d, List.mem_cons_of_mem _ hd, hdb⟩
def SetM (h : H) (m : Nat) (R : Int → Int → Bool) : Prop := ∃ es c, h.get m = some (.map es c) ∧ zgy es (sV R) ∧ zfa es c
theorem SetM.map {h : H} {m : Nat} {R : Int → Int → Bool} (s : SetM h m R) : MapM h m (sV R) := let ⟨es, c, h1, h2, _⟩ := s; ⟨es, c, h1, h2⟩
theorem SetM.fr {D : Nat → Prop} {h h' : H} {m : Nat} {R : Int → Int → Bool} (hm : SetM h m R) (hf : FrD D h h') (hl : m < h.next) (hd : ¬ D m) : SetM h' m R := by
  obtain ⟨es, c, h1, h2⟩ := hm
  exact ⟨es, c, (hf.get _ hl hd).trans h1, h2⟩
theorem zjd {es : List (Value × Value × Nat)} {r r' : Int → Int → Option Value} (h : zgy es r) (e : ∀ a b, r a b = r' a b) : zgy es r' := ⟨fun a b => by rw [h.look, e], h.keys⟩
theorem SetM.upd {h : H} {m : Nat} {R R' : Int → Int → Bool} (hm : SetM h m R) (a b : Int) (hR : ∀ c d, R' c d = (R c d || decide (c = a ∧ d = b))) : ∃ o, zdN kk2 h (key2 a b) (.bool true) (.map (some m)) = some (zM, h.put m o) ∧ SetM (h.put m o) m R' := by
  obtain ⟨es, c, h1, h2, h3⟩ := hm
  obtain ⟨es', c', e1, e2⟩ := h2.set a b (.bool true) c
  obtain ⟨q1, q2, q3⟩ := h3.set ⟨a, b, rfl⟩ e1 (Nat.le_refl _)
  refine ⟨.map es' c', ?_, ⟨es', c', zB rfl, zjd e2 fun p q => ?_, q1⟩⟩
  · show (h.get m).bind (mapSet kk2 h (key2 a b) (.bool true) m) = _
    rw [h1, Option.bind_some]
    show ((zbc kk2 (key2 a b) (key2 a b)).bind fun _ => (setE kk2 (key2 a b) (.bool true) c es).map fun y => (zM, h.put m (.map y.1 y.2))) = _
    rw [zbE, Option.bind_some, e1]; rfl
  · unfold upd2 sV
    rw [hR]
    by_cases e : p = a ∧ q = b
    · simp [e]
    · rw [if_neg e]; simp [e]
theorem inP_snoc (l : List (Int × Int)) (p : Int × Int) (c d : Int) : inP (l ++ [p]) c d = (inP l c d || decide (c = p.1 ∧ d = p.2)) := by
  unfold inP
  rw [List.any_append]
  congr 1
  simp only [List.any_cons, List.any_nil, Bool.or_false]
  exact decide_eq_decide.2 ⟨fun h => ⟨h.1.symm, h.2.symm⟩, fun h => ⟨h.1.symm, h.2.symm⟩⟩
theorem bisA_loop (st lb st' lb' : Int) (ps : List (Int × Int)) (hsz : ps.length ≤ 100000) (v sl sl' : Value) (q m : Nat) (h0 : H) (hr2 : Row h0 2 v (ps.map prL)) (hg : h0.get q = some (.cells (gL st lb sl) 0)) (hg' : h0.get (q + 1) = some (.cells (gL st' lb' sl') 0)) (hq : q + 1 < m) (hm : m < h0.next) (hv2 : ∀ b o n c, v = .slice (some ⟨b, o, none⟩) n c → b < m) (hsl : ∃ n, SlV sl n) (hsl' : ∃ n, SlV sl' n) {P : Value → H → Prop}
    (hF : ps.all (rngQ st st') = false → ∀ h', FrD (fun j => j = m) h0 h' → P (.tuple ⟨[.bool false, .bool false, .int .i64 2]⟩) h')
    (hT : ps.all (rngQ st st') = true → ∀ h', FrD (fun j => j = m) h0 h' → SetM h' m (inP ps) → P (.tuple ⟨[.bool true, ptr q, ptr (q + 1), .map (some m)]⟩) h') :
    ∀ (k i : Nat) (h : H), i + k = ps.length → FrD (fun j => j = m) h0 h → SetM h m (inP (ps.take i)) → (ps.take i).all (rngQ st st') = true →
    OkV (sh (rI F) zc6 (K_bisA_0 (rI F)) (setL [p3, p4, p8, p17, p18, p19] [ptr q, ptr (q + 1), .map (some m), v, .int .i64 (ps.length : Int), .int .i64 (i : Int)]) h) P := by
  have hv := hr2.slvM
  obtain ⟨n1, hs1⟩ := hsl
  obtain ⟨n2, hs2⟩ := hsl'
  intro k
  induction k with
  | zero =>
    intro i h hi hf hmm hall
    have e : i = ps.length := by omega
    subst e
    rw [List.take_length] at hall hmm
    refine OkV.eq (OkV.val (hT hall h hf hmm)) ?_
    rw [s_bisA_0]
    simp
  | succ k ih =>
    intro i h hi hf hmm hall
    have hil : i < ps.length := by omega
    have hfn := hf.next
    have hx : ps[i]? = some ps[i] := List.getElem?_eq_getElem hil
    have htk : ps.take (i + 1) = ps.take i ++ [ps[i]] := by rw [List.take_add_one, hx]; rfl
    have hmem : ps[i] ∈ ps := List.getElem_mem hil
    obtain ⟨b, o, cs, e, hvi, hb, hgb, ht⟩ := (hr2.frD hf (fun b o n c e => by have := hv2 b o n c e; omega)).index (i := i) (r := prL ps[i]) (by rw [List.getElem?_map, hx]; rfl)
    generalize ps[i] = p at *
    have g0 := (hf.get _ (by omega) (by omega)).trans hg
    have g1 := (hf.get _ (by omega) (by omega)).trans hg'
    obtain ⟨h2, eh2⟩ : ∃ h2, h2 = h.new (.cells (prL p) 0) := ⟨_, rfl⟩
    have hf2 : Fr h h2 := by rw [eh2]; exact .new _ _
    have hn2 : h2.next = h.next + 1 := by rw [eh2]; simp
    have gp : h2.get h.next = some (.cells (prL p) 0) := by rw [eh2]; simp
    have g02 := (hf2.get _ (by omega)).trans g0
    have g12 := (hf2.get _ (by omega)).trans g1
    have a1 : ∀ h' : H, zI 2 1 (.pointer (some ⟨h.next, 0, none⟩)) (.int .i64 1) h' = some (.pointer (some ⟨h.next, 0 + 1 * 1, none⟩), h') := fun h' => rfl
    have a0 : ∀ h' : H, zI 2 1 (.pointer (some ⟨h.next, 0, none⟩)) (.int .i64 0) h' = some (.pointer (some ⟨h.next, 0 + 0 * 1, none⟩), h') := fun h' => rfl
    by_cases c : rngQ st st' p = true
    · obtain ⟨om, em, hm2⟩ := (hmm.fr (D := fun _ => False) hf2.D (by omega) (by simp)).upd (R' := inP (ps.take (i + 1))) p.1 p.2 (fun c d => by rw [htk, inP_snoc])
      have hfp : FrD (fun j => j = m) h0 (h2.put m om) := (hf.trans hf2.D).put (.inr rfl) _
      have := ih (i + 1) (h2.put m om) (by omega) hfp hm2 (by rw [htk, List.all_append, hall]; simp [c])
      rw [s_bisA_0]
      refine OkV.eq (this.lp (l_bisA_0 F _ _ _ _ _ _ _)) ?_
      unfold rngQ at c
      simp only [Bool.and_eq_true, decide_eq_true_eq] at c
      obtain ⟨⟨⟨c1, c2⟩, c3⟩, c4⟩ := c
      have d0 : ¬ min p.1 p.2 < 0 := by omega
      have d2 : ¬ st ≤ p.1 := by omega
      have d4 : ¬ st' ≤ p.2 := by omega
      simp (disch := first | omega | (simp only [za, zb]; done) | (simp only [za, zb]; omega)) [↓zL, ↓zA, ↓zt, hil, hvi, hgb, ht, ← eh2, gp, a0, a1, min2, d0, d2, d4, g02, g12, hs1.clean, hs1.take, hs2.clean, hs2.take, em, zH]
    · have hF' := hF (by rw [List.all_eq_false]; exact ⟨p, hmem, c⟩) h2 (hf.trans hf2.D)
      refine OkV.eq (OkV.val hF') ?_
      rw [s_bisA_0]
      by_cases d0 : min p.1 p.2 < 0
      · simp (disch := first | omega | (simp only [za, zb]; done) | (simp only [za, zb]; omega)) [↓zL, ↓zA, ↓zt, hil, hvi, hgb, ht, ← eh2, gp, a0, a1, min2, d0]
      · by_cases d2 : st ≤ p.1
        · simp (disch := first | omega | (simp only [za, zb]; done) | (simp only [za, zb]; omega)) [↓zL, ↓zA, ↓zt, hil, hvi, hgb, ht, ← eh2, gp, a0, a1, min2, d0, d2, g02, g12, hs1.clean, hs1.take, hs2.clean, hs2.take]
        · by_cases d4 : st' ≤ p.2
          · simp (disch := first | omega | (simp only [za, zb]; done) | (simp only [za, zb]; omega)) [↓zL, ↓zA, ↓zt, hil, hvi, hgb, ht, ← eh2, gp, a0, a1, min2, d0, d2, d4, g02, g12, hs1.clean, hs1.take, hs2.clean, hs2.take]
          · exact absurd (by unfold rngQ; simp; omega) c
theorem bisA_ok (st lb st' lb' : Int) (es fs : List Ed) (ps : List (Int × Int)) (hsz : ps.length ≤ 100000) (v sl sl' : Value) (h : H) (hrow : Row h 3 sl (es.map edL)) (hrow' : Row h 3 sl' (fs.map edL)) (hr2 : Row h 2 v (ps.map prL)) {P : Value → H → Prop}
    (hF : (two st lb es st' lb' fs && ps.all (rngQ st st')) = false → ∀ h', Fr h h' → P (.tuple ⟨[.bool false, .bool false, .int .i64 2]⟩) h')
    (hT : (two st lb es st' lb' fs && ps.all (rngQ st st')) = true → ∀ h' q m, Fr h h' → h.next ≤ q → q + 1 < m → m < h'.next → h'.get q = some (.cells (gL st lb sl) 0) → h'.get (q + 1) = some (.cells (gL st' lb' sl') 0) → SetM h' m (inP ps) → P (.tuple ⟨[.bool true, ptr q, ptr (q + 1), .map (some m)]⟩) h') :
    OkV (sh (rI F) c_bisA (pK [p3, p4, p8] [p6, p7]) (setL [p0, p1, p2] [gV st lb sl, gV st' lb' sl', v]) h) P := by
  have hv := hrow.slvM
  have hv' := hrow'.slvM
  have hv2 := hr2.slvM
  obtain ⟨q, eq⟩ : ∃ q, q = h.next := ⟨_, rfl⟩
  obtain ⟨h2, eh2⟩ : ∃ h2, h2 = (h.new (.cells (gL st lb sl) 0)).new (.cells (gL st' lb' sl') 0) := ⟨_, rfl⟩
  have hf2 : Fr h h2 := by rw [eh2]; exact (Fr.new _ _).newR _
  have hn2 : h2.next = q + 2 := by rw [eh2, eq]; simp
  have g0 : h2.get q = some (.cells (gL st lb sl) 0) := by rw [eh2, eq]; simp (disch := omega)
  have g1 : h2.get (q + 1) = some (.cells (gL st' lb' sl') 0) := by rw [eh2, eq]; simp (disch := omega)
  obtain ⟨h3, e3, hf3⟩ := both_ok st lb st' lb' es fs sl sl' h2 (hrow.fr hf2) (hrow'.fr hf2)
  have hfn3 := hf3.next
  have g03 := (hf3.get _ (by omega)).trans g0
  have g13 := (hf3.get _ (by omega)).trans g1
  have hF3 := hf2.trans hf3
  cases hc : two st lb es st' lb' fs with
  | false =>
    have e3' := e3
    unfold two at hc
    rw [hc] at e3'
    refine OkV.eq (OkV.val (hF (by unfold two; rw [hc]; rfl) h3 hF3)) ?_
    rw [s_bisA]
    simp (disch := first | omega | (simp only [za, zb]; done) | (simp only [za, zb]; omega)) [↓zL, ↓zA, ↓zt, hv.clean, hv.take, hv'.clean, hv'.take, ← eq, ← eh2, g0, g1, e3']
  | true =>
    have e3' := e3
    have hc2 := hc
    unfold two at hc
    rw [hc] at e3'
    obtain ⟨h4, eh4⟩ : ∃ h4, h4 = h3.new (.map [] 0) := ⟨_, rfl⟩
    have hf4 : Fr h3 h4 := by rw [eh4]; exact .new _ _
    have hn4 : h4.next = h3.next + 1 := by rw [eh4]; simp
    have g04 := (hf4.get _ (by omega)).trans g03
    have g14 := (hf4.get _ (by omega)).trans g13
    have gm4 : h4.get h3.next = some (.map [] 0) := by rw [eh4]; simp
    have hF4 := hF3.trans hf4
    have hset : SetM h4 h3.next (inP (ps.take 0)) := ⟨[], 0, gm4, zjd zgy.nil fun a b => by simp [sV, inP], .nil⟩
    have := bisA_loop st lb st' lb' ps hsz v sl sl' q h3.next h4 (hr2.fr hF4) g04 g14 (by omega) (by omega) (fun b o n c e => by have := hr2.lt e; omega) ⟨_, hv⟩ ⟨_, hv'⟩ (P := P)
      (fun hr h' hf => hF (by rw [hc2, hr]; rfl) h' (hF4.transD hf (fun i hi e => by omega)))
      (fun hr h' hf hs => hT (by rw [hc2, hr]; rfl) h' q h3.next (hF4.transD hf (fun i hi e => by omega)) (by omega) (by omega) (by have := hf.next; omega) ((hf.get _ (by omega) (by omega)).trans g04) ((hf.get _ (by omega) (by omega)).trans g14) hs) ps.length 0 h4 (by omega) (.refl _ _) hset (by simp)
    rw [s_bisA]
    refine OkV.eq (this.lp (l_bisA_0 F _ _ _ _ _ _ _)) ?_
    simp (disch := first | omega | (simp only [za, zb]; done) | (simp only [za, zb]; omega)) [↓zL, ↓zA, ↓zt, hv.clean, hv.take, hv'.clean, hv'.take, ← eq, ← eh2, g0, g1, e3', ← eh4, hv2.len]
def okQ (R : Int → Int → Bool) (es fs : List Ed) (p : Int × Int) : Bool := folA R false es fs p.1 p.2 && folA R true fs es p.2 p.1
theorem bisB_ok (R : Int → Int → Bool) (es fs : List Ed) (hes : zZ es) (hfs : zZ fs) (hsz : es.length ≤ 1000) (hszf : fs.length ≤ 1000) (st lb st' lb' : Int) (sl sl' : Value) (m q x : Nat) (p : Int × Int) (h : H) (hrow : Row h 3 sl (es.map edL)) (hrow' : Row h 3 sl' (fs.map edL)) (hm : MapM h m (sV R)) (hml : m < h.next)
    (hg : h.get q = some (.cells (gL st lb sl) 0)) (hg' : h.get (q + 1) = some (.cells (gL st' lb' sl') 0)) (hx : h.get x = some (.cells (prL p) 0)) (l1 : q + 1 < h.next) (l2 : x < h.next) :
    ∃ h', Fr h h' ∧ sh (rI F) c_bisB (pK [p3, p4, p8] [p6, p7]) (setL [p3, p4, p8, p11] [ptr q, ptr (q + 1), .map (some m), ptr x]) h = some (.val (if okQ R es fs p = true then .tuple ⟨[.bool true, ptr q, ptr (q + 1), .map (some m)]⟩ else .tuple ⟨[.bool false, .bool false, .int .i64 0]⟩) h') := by
  have hv := hrow.slvM
  have hv' := hrow'.slvM
  have a1 : ∀ h' : H, zI 2 1 (ptr x) (.int .i64 1) h' = some (.pointer (some ⟨x, 0 + 1 * 1, none⟩), h') := fun h' => rfl
  have a0 : ∀ h' : H, zI 2 1 (ptr x) (.int .i64 0) h' = some (.pointer (some ⟨x, 0 + 0 * 1, none⟩), h') := fun h' => rfl
  obtain ⟨h1, e1, hf1⟩ := zjg R false es fs hes hfs hsz hszf st lb st' lb' sl sl' m p.1 p.2 h hrow hrow' hm hml
  have g01 := (hf1.get _ (by omega)).trans hg
  have g11 := (hf1.get _ (by omega)).trans hg'
  have gx1 := (hf1.get _ l2).trans hx
  cases c1 : folA R false es fs p.1 p.2 with
  | false =>
    rw [c1] at e1
    refine ⟨h1, hf1, ?_⟩
    rw [s_bisB]
    simp (disch := first | omega | (simp only [za, zb]; done) | (simp only [za, zb]; omega)) [↓zL, ↓zA, ↓zt, hg, hg', hx, hv.clean, hv.take, hv'.clean, hv'.take, a0, a1, e1, okQ, c1]
  | true =>
    rw [c1] at e1
    obtain ⟨h2, e2, hf2⟩ := zjg R true fs es hfs hes hszf hsz st' lb' st lb sl' sl m p.2 p.1 h1 (hrow'.fr hf1) (hrow.fr hf1) (hm.fr (D := fun _ => False) hf1.D hml (by simp)) (by have := hf1.next; omega)
    refine ⟨h2, hf1.trans hf2, ?_⟩
    rw [s_bisB]
    cases c2 : folA R true fs es p.2 p.1 with
    | false =>
      rw [c2] at e2
      simp (disch := first | omega | (simp only [za, zb]; done) | (simp only [za, zb]; omega)) [↓zL, ↓zA, ↓zt, hg, hg', hx, hv.clean, hv.take, hv'.clean, hv'.take, a0, a1, e1, okQ, c1, c2, g01, g11, gx1, e2]
    | true =>
      rw [c2] at e2
      simp (disch := first | omega | (simp only [za, zb]; done) | (simp only [za, zb]; omega)) [↓zL, ↓zA, ↓zt, hg, hg', hx, hv.clean, hv.take, hv'.clean, hv'.take, a0, a1, e1, okQ, c1, c2, g01, g11, gx1, e2]
theorem okQ_bisQ (es fs : List Ed) (ps : List (Int × Int)) (p : Int × Int) : okQ (inP ps) es fs p = bisQ es fs ps p := by
  have h1 : ∀ x, folX (inP ps) false fs p.2 x = ansA (outs fs p.2) ps x := by
    intro x
    unfold folX ansA tos swR
    rw [List.any_map, List.any_filter]
    congr 1
    funext y
    simp only [Bool.false_eq_true, if_false, Function.comp]
    congr 1
    exact decide_eq_decide.2 ⟨Eq.symm, Eq.symm⟩
  have h2 : ∀ y, folX (inP ps) true es p.1 y = ansB (outs es p.1) ps y := by
    intro y
    unfold folX ansB tos swR
    rw [List.any_map, List.any_filter]
    congr 1
  unfold okQ bisQ folA
  rw [funext h1, funext h2]
end Go.Ideal.J
set_option maxRecDepth 100000
set_option maxHeartbeats 4000000
namespace Go.Ideal.J
open Go Go.Ideal Go.Proofs
section
def sqL : Code → Code
  | .seq a _ => a
  | c => c
def sqR : Code → Code
  | .seq _ b => b
  | c => c
def inn : Code → Code
  | .block _ b => b
  | .loop b => b
  | c => c
def rgO : Code → Array Oper
  | .region _ o _ => o
  | _ => #[]
def takeSq : Nat → Code → Code
  | k + 1, .seq a b => .seq a (takeSq k b)
  | 0, .seq a _ => a
  | _, c => c
end
noncomputable section
def bC : Code := Try.f22.body.getD .skip
def bTail : Code := sqR (sqR (sqR (sqR bC)))
def bLoop : Code := inn (inn (sqR (sqL bTail)))
def ops11 : Array Oper := rgO (sqL (sqL bTail))
def ops12 : Array Oper := rgO (sqL bLoop)
def bRound : Code := inn (sqR (sqR bLoop))
def zga : Array Oper := rgO (sqL bRound)
def bB : Code := sqR bRound
def bA : Code := takeSq 3 bC
def bE : Code := sqR bTail
theorem bC_eq : Try.f22.body = some (appC 3 bA (.seq (.seq (.region 11 ops11 false) (.block 2 (.loop (.seq (.region 12 ops12 false) (.seq (.cond (.tmp 49) .skip (.exit 2)) (.block 3 (.seq (.region 13 zga false) bB))))))) bE)) := by kernel_rfl
theorem bA_comp : zw Try.prog 72 bA = some (zS c_bisA) := by kernel_rfl
def cEnd : CC := .seq (.ops [⟨some p6, .mv (.c (.bool true)), none, 0⟩, ⟨some p7, .mv (.c (.int .i64 0)), none, 0⟩]) [p6, p7] .ret
theorem bE_comp : zw Try.prog 72 bE = some (zS cEnd) := by kernel_rfl
def o11a : Oper := ops11[0]'(of_decide_eq_true (by kernel_rfl))
def o11b : Oper := ops11[1]'(of_decide_eq_true (by kernel_rfl))
def o12a : Oper := ops12[0]'(of_decide_eq_true (by kernel_rfl))
def o12b : Oper := ops12[1]'(of_decide_eq_true (by kernel_rfl))
def o13a : Oper := zga[0]'(of_decide_eq_true (by kernel_rfl))
def o13b : Oper := zga[1]'(of_decide_eq_true (by kernel_rfl))
theorem s11 : ops11.size = 2 := by kernel_rfl
theorem s12 : ops12.size = 2 := by kernel_rfl
theorem s13 : zga.size = 4 := by kernel_rfl
theorem e11a : ops11[0]? = some o11a := by kernel_rfl
theorem e11b : ops11[1]? = some o11b := by kernel_rfl
theorem e12a : ops12[0]? = some o12a := by kernel_rfl
theorem e12b : ops12[1]? = some o12b := by kernel_rfl
theorem e13a : zga[0]? = some o13a := by kernel_rfl
theorem e13b : zga[1]? = some o13b := by kernel_rfl
theorem f11a : o11a.op = .move (.tmp 8) ∧ o11a.dst = some 46 ∧ o11a.guard = none := ⟨by kernel_rfl, by kernel_rfl, by kernel_rfl⟩
theorem f11b : o11b.op = .range 81 (.tmp 46) ∧ o11b.dst = some 47 ∧ o11b.guard = none := ⟨by kernel_rfl, by kernel_rfl, by kernel_rfl⟩
theorem f12a : o12a.op = .next (.tmp 47) false ∧ o12a.dst = some 48 ∧ o12a.guard = none := ⟨by kernel_rfl, by kernel_rfl, by kernel_rfl⟩
theorem f12b : o12b.op = .extract (.tmp 48) 0 ∧ o12b.dst = some 49 ∧ o12b.guard = none := ⟨by kernel_rfl, by kernel_rfl, by kernel_rfl⟩
theorem f13a : o13a.op = .entry (.tmp 47) ∧ o13a.dst = some 50 ∧ o13a.guard = none := ⟨by kernel_rfl, by kernel_rfl, by kernel_rfl⟩
theorem f13b : o13b.op = .extract (.tmp 50) 0 ∧ o13b.dst = some 51 ∧ o13b.guard = none := ⟨by kernel_rfl, by kernel_rfl, by kernel_rfl⟩
def o13c : Oper := zga[2]'(of_decide_eq_true (by kernel_rfl))
def o13d : Oper := zga[3]'(of_decide_eq_true (by kernel_rfl))
theorem e13c : zga[2]? = some o13c := by kernel_rfl
theorem e13d : zga[3]? = some o13d := by kernel_rfl
theorem f13c : o13c.dst = some 11 ∧ o13c.guard = none := ⟨by kernel_rfl, by kernel_rfl⟩
theorem f13d : o13d.dst = none ∧ o13d.guard = none := ⟨by kernel_rfl, by kernel_rfl⟩
theorem c13c : zK Try.prog 72 zga o13c = some ⟨some p11, .alloc [.int .i64 0, .int .i64 0], none, 0⟩ := by kernel_rfl
theorem c13d : zK Try.prog 72 zga o13d = some ⟨none, .store 2 (.t p11) (.t p51), none, 0⟩ := by kernel_rfl
theorem u81 : ∃ k e, Try.prog.underlying 81 = some (.map k e) := ⟨_, _, Try.underlying81⟩
def c14 : CC := .cond (.t p71) (.seq (.ops [⟨some p6, .mv (.c (.bool false)), none, 0⟩, ⟨some p7, .mv (.c (.int .i64 0)), none, 0⟩]) [p6, p7] .ret) .skip
theorem bB_parts : ∃ x, c_bisB = .seq (.ops x) [p3, p4, p8, p71] c14 ∧ allO (zK Try.prog 72 (rgO (sqL bB))) (rgO (sqL bB)).toList = some x := ⟨_, rfl, by kernel_rfl⟩
theorem bB_eq : bB = .seq (.region 14 (rgO (sqL bB)) false) (sqR bB) := by kernel_rfl
def bX : Code := match sqR bB with
  | .cond _ x _ => x
  | c => c
def cX : CC := .seq (.ops [⟨some p6, .mv (.c (.bool false)), none, 0⟩, ⟨some p7, .mv (.c (.int .i64 0)), none, 0⟩]) [p6, p7] .ret
theorem bX_eq : sqR bB = .cond (.tmp 71) bX .skip := by kernel_rfl
theorem cX_comp : zw Try.prog 72 bX = some (zS cX) := by kernel_rfl
theorem hmixT : Try.prog.follows .mixedOrders = true := by kernel_rfl
theorem d14 : (rgO (sqL bB)).toList.all (fun o => !(o.dst == some 47)) = true := by kernel_rfl
theorem zjc {P : Program} {o : Oper} {a : Act} {w w' : World} {v : Value} {next : Act → World → Prop} {Q : Exit → Act → World → Prop} (hnd : ∀ c, o.op ≠ .defer c) (hrun : (execOp a.eval o).run P w = .ok (.value v) w') (hn : next (a.put o.dst v) w') : o.wpIn Fence.wide 0 P a w next Q :=
  ⟨fun f _ => trivial, by rw [Oper.semAt_eq _ _ _ hnd, hrun]; exact hn⟩
theorem zc2 {P : Program} {ops : Array Oper} {i : Nat} {o : Oper} {rest : List Nat} {a : Act} {w : World} {Q : Exit → Act → World → Prop} (hi : ops[i]? = some o) (hg : o.guard = none) (h : o.wpIn Fence.wide 0 P a w (wpOpsIn Fence.wide 0 P ops Q rest) Q) : wpOpsIn Fence.wide 0 P ops Q (i :: rest) a w := by
  simp only [wpOpsIn, hi, Region.wanted, hg]
  exact h
theorem zfH {P : Program} {fn : Func} {rs : List CR} (hc : allO (zbp P) fn.results.toList = some rs) {s : zf} {tmps : Array Value} {h : H} {v : Value} (ho : ziP rs s h = some (.val v h)) {ρ0 : Rho} {w0 : World} {σ : Rho} (hs : SR σ s tmps) {R : Ending → World → Prop} (hR : ∀ v' w, VR σ v v' → HR P σ h w → Ext ρ0 w0 σ w → R (.returned v') w) :
    ∀ (Ds : List Nat) (w : World), zb4 σ w Ds → (∀ D ∈ Ds, w0.heap.size ≤ D) → HR P σ h w → Ext ρ0 w0 σ w → LeavesInM Fence.wide 0 P fn tmps R (Ds.map zbi) .returning w
  | [], w, hD, hds, hr, he => by
    obtain ⟨v1, v', e, h1, h2⟩ := zhB hc hr hs ho
    cases e
    exact ⟨v', h1, hR v' w h2 hr he⟩
  | D :: Ds, w, hD, hds, hr, he => by
    obtain ⟨q1, q2, q3⟩ := hD.ok D (by simp)
    obtain ⟨g1, g2⟩ := hr.shut he (o := .deferred none) (zbZ _) q3 (zbZ _) (hds D (by simp)) q2
    refine ⟨by simp, .inl ⟨D, _, rfl, run_takeDeferred q3, ?_⟩⟩
    exact zfH hc ho hs hR Ds _ (hD.tail_put _) (fun D' h => hds D' (by simp [h])) g1 g2
def zeR (es : List (Value × Value × Nat)) : Array MapEntry := (es.map fun e => ({ key := e.1, val := e.2.1, born := e.2.2 } : MapEntry)).toArray
theorem vr_key2 {σ : Rho} {a b : Int} {y : Value} (h : VR σ (key2 a b) y) : y = key2 a b := by
  obtain ⟨ys, rfl, hl⟩ := h.inv_agg
  obtain ⟨y1, r1, e1, h1, h2⟩ := hl.cons_left
  obtain ⟨y2, r2, e2, h3, h4⟩ := h2.cons_left
  have := h4.nil_left
  subst this
  rw [h1.inv_int] at e1
  rw [h3.inv_int] at e2
  subst e2
  have : ys = ⟨[.int .i64 a, .int .i64 b]⟩ := by rw [← Array.toList_inj, e1]
  rw [this]
theorem real_of {σ : Rho} {es : List (Value × Value × Nat)} {es' : Array MapEntry} (hlen : es.length = es'.size) (hrel : ∀ (j : Nat) e, es[j]? = some e → ∃ e', es'[j]? = some e' ∧ VR σ e.1 e'.key ∧ VR σ e.2.1 e'.val ∧ e'.born = e.2.2) (hkv : ∀ e ∈ es, ∃ a b, e.1 = key2 a b ∧ e.2.1 = .bool true) : es' = zeR es := by
  apply Array.ext'
  apply List.ext_getElem?
  intro j
  show es'.toList[j]? = (es.map _)[j]?
  rw [List.getElem?_map]
  by_cases hj : j < es.length
  · have he : es[j]? = some es[j] := List.getElem?_eq_getElem hj
    obtain ⟨e', h1, h2, h3, h4⟩ := hrel j _ he
    obtain ⟨a, b, hk, hv⟩ := hkv es[j] (List.getElem_mem hj)
    rw [he, Array.getElem?_toList, h1]
    rw [hk] at h2; rw [hv] at h3
    have k1 := vr_key2 h2
    have k2 := h3.inv_bool
    show some e' = some ({ key := es[j].1, val := es[j].2.1, born := es[j].2.2 } : MapEntry)
    rw [hk, hv]
    congr 1
    obtain ⟨k, v, n⟩ := e'
    simp only at k1 k2 h4
    subst k1 k2 h4
    rfl
  · rw [List.getElem?_eq_none (l := es) (by omega), List.getElem?_eq_none (by rw [Array.length_toList]; omega)]; rfl
noncomputable abbrev s3 (q m : Nat) : zf := setL [p3, p4, p8] [ptr q, ptr (q + 1), .map (some m)]
def BInv (ρ0 : Rho) (w0 : World) (hA : H) (q m bm it clk : Nat) (seen : Array Nat) (a : Act) (w : World) : Prop :=
  ∃ σ h Ds R, Ext ρ0 w0 σ w ∧ a.tmps.size = 72 ∧ a.defers = Ds.map zbi ∧ (zb4 σ w Ds ∧ ∀ D ∈ Ds, w0.heap.size ≤ D) ∧ SR σ (s3 q m) a.tmps ∧ HR Try.prog σ h w ∧ Fr hA h ∧ a.tmps[47]? = some (.pointer (some ⟨it, 0, none⟩)) ∧ w.heap[it]? = some (.mapIter (some bm) clk seen clk) ∧ (∀ i S, σ i = some S → S.blk ≠ it) ∧ σ m = some R ∧ R.blk = bm ∧ w0.heap.size ≤ it
theorem zh6 (m : Option Nat) (a : Nat) (s : Array Nat) (b : Nat) : Calm (.mapIter m a s b) := fun _ _ _ h => by cases h
def zfV : Code := .seq (.region 12 ops12 false) (.seq (.cond (.tmp 49) .skip (.exit 2)) (.block 3 (.seq (.region 13 zga false) bB)))
theorem zdw {q m t : Nat} (h3 : t ≠ 3) (h4 : t ≠ 4) (h8 : t ≠ 8) : (s3 q m).get (bits t) = none := by
  have e : s3 q m = ((PT.nil.set (bits 8) (.map (some m))).set (bits 4) (ptr (q + 1))).set (bits 3) (ptr q) := rfl
  rw [e, PT.get_set_bits, if_neg (Ne.symm h3), PT.get_set_bits, if_neg (Ne.symm h4), PT.get_set_bits, if_neg (Ne.symm h8)]
  exact PT.get_nil _
theorem zc4 {a : Act} {t : Nat} {v : Value} (h : a.tmps[t]? = some v) : a.eval (.tmp t) = v := by
  show a.tmps.getD t undef = v
  rw [Array.getD_eq_getD_getElem?, h]; rfl
section
variable {ρ0 : Rho} {w0 : World} {hA : H} {q m bm it clk : Nat} {es : List (Value × Value × Nat)} {R : Int → Int → Bool} {eg fg : List Ed} {st lb st' lb' : Int} {sl sl' : Value}
theorem bis_step (heg : zZ eg) (hfg : zZ fg) (hez : eg.length ≤ 1000) (hfz : fg.length ≤ 1000) (hrow : Row hA 3 sl (eg.map edL)) (hrow' : Row hA 3 sl' (fg.map edL)) (hgm : hA.get m = some (.map es clk)) (hmi : zgy es (sV R)) (hok : zfa es clk) (hqm : q + 1 < m) (hml : m < hA.next) (hg : hA.get q = some (.cells (gL st lb sl) 0)) (hg' : hA.get (q + 1) = some (.cells (gL st' lb' sl') 0))
    {Q : Exit → Act → World → Prop}
    (hend : (∀ e ∈ es, ∀ a b, e.1 = key2 a b → okQ R eg fg (a, b) = true) → ∀ seen a w, BInv ρ0 w0 hA q m bm it clk seen a w → bE.wpIn Fence.wide 0 Try.prog Q a w)
    (hret : (∃ e ∈ es, ∃ a b, e.1 = key2 a b ∧ okQ R eg fg (a, b) = false) → ∀ σ h Ds a w, Ext ρ0 w0 σ w → a.tmps.size = 72 → a.defers = Ds.map zbi → zb4 σ w Ds → (∀ D ∈ Ds, w0.heap.size ≤ D) → HR Try.prog σ h w → Fr hA h → ∀ s, SR σ s a.tmps → s.get p6 = some (.bool false) → s.get p7 = some (.int .i64 0) → Q .ret a w)
    (n : Nat) (ih : ∀ n', n = n' + 1 → ∀ seen a w, (leftOf (zeR es) seen).size ≤ n' → BInv ρ0 w0 hA q m bm it clk seen a w → (∀ e ∈ es, seen.contains e.2.2 = true → ∀ a b, e.1 = key2 a b → okQ R eg fg (a, b) = true) →
      Code.roundsIn Fence.wide 0 Try.prog zfV (Exit.inBlock 2 (Exit.then (bE.wpIn Fence.wide 0 Try.prog Q) Q)) (n' + 1) a w) : ∀ seen a w, (leftOf (zeR es) seen).size ≤ n → BInv ρ0 w0 hA q m bm it clk seen a w → (∀ e ∈ es, seen.contains e.2.2 = true → ∀ a b, e.1 = key2 a b → okQ R eg fg (a, b) = true) →
      Code.roundsIn Fence.wide 0 Try.prog zfV (Exit.inBlock 2 (Exit.then (bE.wpIn Fence.wide 0 Try.prog Q) Q)) (n + 1) a w := by
    intro seen a w hsz hI hgood
    rw [roundsIn_succ]
    have hI0 := hI
    obtain ⟨σ, h, Ds, Rm, hx, hN, hd, ⟨hD, hDs⟩, hs, hr, hf, hit, hiter, hun, hm, hbm, hitn⟩ := hI
    have hfn := hf.next
    have hgmh : h.get m = some (.map es clk) := (hf.get _ hml).trans hgm
    obtain ⟨es', hb, hlen, hrel⟩ := hr.obj m Rm _ hm hgmh
    obtain rfl := real_of hlen hrel hok.kv
    rw [hbm] at hb
    have hold : ∀ x ∈ (zeR es).toList, x.born < clk := fun x hx => by
      obtain ⟨e, he, rfl⟩ := List.mem_map.1 (show x ∈ es.map _ from hx)
      exact hok.lt e he
    have hnd : ((zeR es).toList.map (·.born)).Nodup := by
      have : (zeR es).toList.map (·.born) = es.map (·.2.2) := by
        show (es.map _).map _ = _
        rw [List.map_map]; rfl
      rw [this]; exact hok.nd
    refine wpIn_seq ?_
    have hne : ∀ c, o12a.op ≠ .defer c := fun c => by rw [f12a.1]; nofun
    have hne2 : ∀ c, o12b.op ≠ .defer c := fun c => by rw [f12b.1]; nofun
    have hev47 : a.eval (.tmp 47) = .pointer (some ⟨it, 0, none⟩) := zc4 hit
    have reg12 : ∀ {Q' : Exit → Act → World → Prop} {v b : Value} {w1 : World}, (Instr.next (.pointer (some ⟨it, 0, none⟩)) false o12a.type).run Try.prog w = .ok v w1 → (Instr.extract v 0).run Try.prog w1 = .ok b w1 →
        Q' .normal ⟨(a.tmps.setIfInBounds 48 v).setIfInBounds 49 b, a.defers⟩ w1 → (Code.region 12 ops12 false).wpIn Fence.wide 0 Try.prog Q' a w := by
      intro Q' v b w1 h1 h2 hq
      refine wpIn_region ?_
      rw [s12]
      refine zc2 e12a f12a.2.2 (zjc hne (v := v) (w' := w1) ?_ ?_)
      · simp only [execOp, f12a.1, Sem.run_bind, hev47, h1, Result.andThen_ok, Sem.run_pure]
      · refine zc2 e12b f12b.2.2 (zjc hne2 (v := b) (w' := w1) ?_ ?_)
        · have : (a.put o12a.dst v).eval (.tmp 48) = v := by
            rw [f12a.2.1]
            refine zc4 ?_
            show (a.tmps.setIfInBounds 48 v)[48]? = _
            rw [Array.getElem?_setIfInBounds, if_pos rfl, if_pos (by omega)]
          simp only [execOp, f12b.1, Sem.run_bind, this, h2, Result.andThen_ok, Sem.run_pure]
        · rw [f12b.2.1, f12a.2.1]
          exact hq
    rcases run_next_at (P := Try.prog) w o12a.type it bm clk clk seen (zeR es) clk hiter hb hold (Nat.le_refl _) with ⟨h0, hrun⟩ | ⟨e, he, w1, hw1, hrun⟩
    ·
      refine reg12 hrun (b := .bool false) (by simp [Instr.extract]) ?_
      show (Code.seq _ _).wpIn _ _ _ _ _ _
      refine wpIn_seq (wpIn_cond_false (zc4 ?_) (wpIn_exit ?_))
      · show ((a.tmps.setIfInBounds 48 _).setIfInBounds 49 (.bool false))[49]? = _
        rw [Array.getElem?_setIfInBounds, if_pos rfl, if_pos (by simp; omega)]
      · show Exit.inBlock 2 (Exit.then (bE.wpIn Fence.wide 0 Try.prog Q) Q) (.exit 2) _ _
        simp only [Exit.inBlock, if_true]
        show bE.wpIn Fence.wide 0 Try.prog Q _ _
        refine hend (fun e he a b hk => hgood e he ?_ a b hk) seen _ w ⟨σ, h, Ds, Rm, hx, by simpa using hN, hd, ⟨hD, hDs⟩, (hs.skip (zdw (by decide) (by decide) (by decide)) _).skip (zdw (by decide) (by decide) (by decide)) _, hr, hf, ?_, hiter, hun, hm, hbm, hitn⟩
        · exact all_seen (zeR es) seen h0 ⟨e.1, e.2.1, e.2.2⟩ (List.mem_map.2 ⟨e, he, rfl⟩)
        · show ((a.tmps.setIfInBounds 48 _).setIfInBounds 49 (.bool false))[47]? = _
          rw [Array.getElem?_setIfInBounds, if_neg (by decide), Array.getElem?_setIfInBounds, if_neg (by decide)]; exact hit
    ·
      obtain ⟨n', rfl⟩ : ∃ n', n = n' + 1 := by
        have := left_shrinks (zeR es) seen e he
        exact ⟨n - 1, by omega⟩
      have hshr := left_shrinks (zeR es) seen e he
      obtain ⟨hmem, hfresh⟩ := mem_left he
      obtain ⟨e0, he0, rfl⟩ := List.mem_map.1 (show e ∈ es.map _ from hmem)
      obtain ⟨ka, kb, hk, hv⟩ := hok.kv e0 he0
      simp only at hrun hfresh hshr hmem
      rw [hk] at hrun
      refine reg12 hrun (b := .bool true) (by simp [Instr.extract]) ?_
      have hr1 : HR Try.prog σ h w1 := by rcases hw1 with rfl | rfl; exact hr; exact hr.drew
      have hx1 : Ext ρ0 w0 σ w1 := by rcases hw1 with rfl | rfl; exact hx; exact hx.trans (.drew _ _)
      have hi1 : w1.heap[it]? = some (.mapIter (some bm) clk seen clk) := by rcases hw1 with rfl | rfl <;> exact hiter
      have hD1 : zb4 σ w1 Ds := by rcases hw1 with rfl | rfl; exact hD; exact hD.ext (.drew _ _)
      obtain ⟨w2, ew2⟩ : ∃ w2, w2 = w1.putObj it (.mapIter (some bm) clk (seen.push e0.2.2) clk) := ⟨_, rfl⟩
      have hset : Go.ChangeMaps.setBlock w1 it (.mapIter (some bm) clk (seen.push e0.2.2) clk) = w2 := by rw [ew2]; rfl
      rw [hset]
      obtain ⟨hr2, hx2⟩ := hr1.shut hx1 (o := .mapIter (some bm) clk (seen.push e0.2.2) clk) (zh6 _ _ _ _) hi1 (zh6 _ _ _ _) hitn hun
      rw [← ew2] at hr2 hx2
      have hlt1 : it < w1.heap.size := (Array.getElem?_eq_some_iff.1 hi1).1
      have hi2 : w2.heap[it]? = some (.mapIter (some bm) clk (seen.push e0.2.2) clk) := by rw [ew2]; exact World.putObj_heap_same hlt1
      have hD2 : zb4 σ w2 Ds := ⟨hD1.nodup, fun D hDm => by
        obtain ⟨d1, d2, d3⟩ := hD1.ok D hDm
        have hne : D ≠ it := by rintro rfl; rw [hi1] at d3; cases d3
        exact ⟨by rw [ew2]; simpa using d1, d2, by rw [ew2, World.putObj_heap_other hne]; exact d3⟩⟩
      have hb2 : w2.heap[bm]? = some (.map (zeR es) clk) := by
        obtain ⟨es2, k1, k2, k3⟩ := hr2.obj m Rm _ hm hgmh
        rw [real_of k2 k3 hok.kv, hbm] at k1
        exact k1
      obtain ⟨a2, ea2⟩ : ∃ a2 : Act, a2 = ⟨(a.tmps.setIfInBounds 48 (.tuple #[.bool true, key2 ka kb, e0.2.1])).setIfInBounds 49 (.bool true), a.defers⟩ := ⟨_, rfl⟩
      rw [← ea2]
      have hN2 : a2.tmps.size = 72 := by rw [ea2]; simpa using hN
      have hs2 : SR σ (s3 q m) a2.tmps := by rw [ea2]; exact (hs.skip (zdw (by decide) (by decide) (by decide)) _).skip (zdw (by decide) (by decide) (by decide)) _
      have hit2 : a2.tmps[47]? = some (.pointer (some ⟨it, 0, none⟩)) := by
        rw [ea2]
        show ((a.tmps.setIfInBounds 48 _).setIfInBounds 49 (.bool true))[47]? = _
        rw [Array.getElem?_setIfInBounds, if_neg (by decide), Array.getElem?_setIfInBounds, if_neg (by decide)]; exact hit
      have hd2 : a2.defers = Ds.map zbi := by rw [ea2]; exact hd
      show (Code.seq _ _).wpIn _ _ _ _ _ _
      refine wpIn_seq (wpIn_cond_true (zc4 ?_) (wpIn_skip ?_))
      · rw [ea2]
        show ((a.tmps.setIfInBounds 48 _).setIfInBounds 49 (.bool true))[49]? = _
        rw [Array.getElem?_setIfInBounds, if_pos rfl, if_pos (by simp; omega)]
      show (Code.block _ _).wpIn _ _ _ _ _ _
      refine wpIn_block (wpIn_seq (wpIn_region ?_))
      rw [s13]
      have hne3 : ∀ c, o13a.op ≠ .defer c := fun c => by rw [f13a.1]; nofun
      have hne4 : ∀ c, o13b.op ≠ .defer c := fun c => by rw [f13b.1]; nofun
      have hent := run_entry_at (P := Try.prog) w2 it bm clk seen (zeR es) clk ⟨e0.1, e0.2.1, e0.2.2⟩ hi2 hb2 hmem hnd
      simp only at hent
      rw [hk] at hent
      refine zc2 e13a f13a.2.2 (zjc hne3 (v := .tuple #[key2 ka kb, e0.2.1]) (w' := w2) ?_ ?_)
      · simp only [execOp, f13a.1, Sem.run_bind, zc4 hit2, hent, Result.andThen_ok, Sem.run_pure]
      refine zc2 e13b f13b.2.2 (zjc hne4 (v := key2 ka kb) (w' := w2) ?_ ?_)
      · have : (a2.put o13a.dst (.tuple #[key2 ka kb, e0.2.1])).eval (.tmp 50) = .tuple #[key2 ka kb, e0.2.1] := by
          rw [f13a.2.1]
          refine zc4 ?_
          show (a2.tmps.setIfInBounds 50 _)[50]? = _
          rw [Array.getElem?_setIfInBounds, if_pos rfl, if_pos (by omega)]
        simp only [execOp, f13b.1, Sem.run_bind, this, Result.andThen_ok, Sem.run_pure]
        simp [Instr.extract]
      rw [f13b.2.1, f13a.2.1]
      obtain ⟨a3, ea3⟩ : ∃ a3 : Act, a3 = (a2.put (some 50) (.tuple #[key2 ka kb, e0.2.1])).put (some 51) (key2 ka kb) := ⟨_, rfl⟩
      rw [← ea3]
      have hN3 : a3.tmps.size = 72 := by rw [ea3]; simpa [Act.put] using hN2
      have hd3 : a3.defers = Ds.map zbi := by rw [ea3]; exact hd2
      have hit3 : a3.tmps[47]? = some (.pointer (some ⟨it, 0, none⟩)) := by
        rw [ea3]
        show ((a2.tmps.setIfInBounds 50 _).setIfInBounds 51 _)[47]? = _
        rw [Array.getElem?_setIfInBounds, if_neg (by decide), Array.getElem?_setIfInBounds, if_neg (by decide)]; exact hit2
      have hs3' : SR σ (s3 q m) a3.tmps := by rw [ea3]; exact (hs2.skip (zdw (by decide) (by decide) (by decide)) _).skip (zdw (by decide) (by decide) (by decide)) _
      have hkr : VR σ (key2 ka kb) (key2 ka kb) := VR.agg_of (.cons (.int _ _) (.cons (.int _ _) (.nil _)))
      have hs4 : SR σ ((s3 q m).set p51 (key2 ka kb)) a3.tmps := by
        have : a3.tmps = ((a2.put (some 50) (.tuple #[key2 ka kb, e0.2.1])).tmps).setIfInBounds 51 (key2 ka kb) := by rw [ea3]; rfl
        rw [this]
        exact SR.set (t := 51) (hs2.skip (t := 50) (zdw (by decide) (by decide) (by decide)) _) (by simp; omega) hkr
      have hih : ∀ tt o, E F 0 tt = some o → zgx Try.prog 0 tt o := fun tt o he => by cases he
      refine zc2 e13c f13c.2 (zgb (s := (s3 q m).set p51 (key2 ka kb)) hih c13c none hr2 hs4 (v := ptr h.next) (h' := h.new (.cells [.int .i64 0, .int .i64 0] 0)) rfl ?_)
      intro v4 w4 σ4 hv4 hr4 hx4
      rw [f13c.1]
      obtain ⟨a4, ea4⟩ : ∃ a4 : Act, a4 = a3.put (some 11) v4 := ⟨_, rfl⟩
      rw [← ea4]
      have hN4 : a4.tmps.size = 72 := by rw [ea4]; simpa [Act.put] using hN3
      have hd4 : a4.defers = Ds.map zbi := by rw [ea4]; exact hd3
      have hit4 : a4.tmps[47]? = some (.pointer (some ⟨it, 0, none⟩)) := by
        rw [ea4]
        show (a3.tmps.setIfInBounds 11 _)[47]? = _
        rw [Array.getElem?_setIfInBounds, if_neg (by decide)]; exact hit3
      have hs5 : SR σ4 (((s3 q m).set p51 (key2 ka kb)).set p11 (ptr h.next)) a4.tmps := by
        rw [ea4]
        exact SR.set (t := 11) (hs4.mono hx4.le) (by omega) hv4
      have hg5 : (h.new (.cells [.int .i64 0, .int .i64 0] 0)).get h.next = some (.cells [.int .i64 0, .int .i64 0] 0) := by simp
      refine zc2 e13d f13d.2 (zgb (s := ((s3 q m).set p51 (key2 ka kb)).set p11 (ptr h.next)) hih c13d none hr4 hs5 (v := zM) (h' := h.new (.cells [.int .i64 ka, .int .i64 kb] 0)) ?_ ?_)
      · have e1 : (CO.t p11).ev (((s3 q m).set p51 (key2 ka kb)).set p11 (ptr h.next)) = some (ptr h.next) := rfl
        have e2 : (CO.t p51).ev (((s3 q m).set p51 (key2 ka kb)).set p11 (ptr h.next)) = some (key2 ka kb) := rfl
        show zfU 2 (.t p11) (.t p51) (((s3 q m).set p51 (key2 ka kb)).set p11 (ptr h.next)) (h.new (.cells [.int .i64 0, .int .i64 0] 0)) = _
        unfold zfU
        rw [e1, Option.bind_some, e2, Option.bind_some]
        simp (disch := first | omega | (simp only [za, zb]; done)) [zd9]
      intro v6 w6 σ6 hv6 hr6 hx6
      rw [f13d.1]
      show bB.wpIn Fence.wide 0 Try.prog _ a4 w6
      obtain ⟨h6, eh6⟩ : ∃ h6, h6 = h.new (.cells [.int .i64 ka, .int .i64 kb] 0) := ⟨_, rfl⟩
      rw [← eh6] at hr6
      have hf6 : Fr h h6 := by rw [eh6]; exact .new _ _
      have hn6 : h6.next = h.next + 1 := by rw [eh6]; simp
      have hfA := hf.trans hf6
      have gp6 : h6.get h.next = some (.cells (prL (ka, kb)) 0) := by rw [eh6]; simp
      have hx46 := hx4.trans hx6
      have hX6 : Ext ρ0 w0 σ6 w6 := hx2.trans hx46
      have hD6 := hD2.ext hx46
      obtain ⟨hi6, hun6⟩ := hx46.keeps hi2 hun
      have hs6 : SR σ6 (setL [p3, p4, p8, p11] [ptr q, ptr (q + 1), .map (some m), ptr h.next]) a4.tmps := (hs5.mono hx6.le).keep [p3, p4, p8, p11]
      obtain ⟨hB, hfB, eB⟩ := bisB_ok R eg fg heg hfg hez hfz st lb st' lb' sl sl' m q h.next (ka, kb) h6 (hrow.fr hfA) (hrow'.fr hfA) ⟨es, clk, (hfA.get _ hml).trans hgm, hmi⟩ (by omega) ((hfA.get _ (by omega)).trans hg) ((hfA.get _ (by omega)).trans hg') gp6 (by omega) (by omega)
      obtain ⟨nB, oB, hEB, hapB⟩ := piece_run eB
      obtain ⟨x14, hcB, hxc⟩ := bB_parts
      rw [hcB] at hEB
      obtain ⟨nB', rfl⟩ : ∃ k, nB = k + 1 := by cases nB with | zero => cases hEB | succ k => exact ⟨k, rfl⟩
      rw [zf5] at hEB
      obtain ⟨o14, hE1, hE2⟩ := aof (show (E F nB' (.code (.ops x14) _ h6)).bind (thenK (E F nB') _ c14) = some oB from hEB)
      obtain ⟨nB, rfl⟩ : ∃ k, nB' = k + 1 := by cases nB' with | zero => cases hE1 | succ k => exact ⟨k, rfl⟩
      rw [zf5] at hE1
      obtain ⟨⟨sF, hF14⟩, hrun14, rfl⟩ := amf (show (zdc (E F nB) x14 _ h6).map nrmOf = some o14 from hE1)
      have hE2 : E F (nB + 1) (.code c14 (zJ [p3, p4, p8, p71] sF) hF14) = some oB := hE2
      rw [bB_eq]
      refine wpIn_seq (wpIn_region ?_)
      rw [List.range_eq_range']
      refine zhF (E_sound hmixT okFs nB) none (aI := a4) ?_ _ 0 x14 σ6 _ h6 a4 w6 (by omega) (by rw [List.drop_zero]; exact hxc) hrun14 hr6 hs6 hN4 hd4 hD6 (.refl _ _) (fun t _ => rfl)
      rintro a7 w7 ⟨σ7, Ds7, s7, h7, hx7, hN7, hd7, ⟨hD7, hDs7⟩, hs7, hr7, hcase⟩ hkeep
      obtain ⟨rfl, rfl⟩ : s7 = sF ∧ h7 = hF14 := by
        rcases hcase with ⟨e, -⟩ | ⟨i, e, -⟩ | ⟨e, -⟩
        · cases e; exact ⟨rfl, rfl⟩
        · cases e
        · cases e
      have hit7 : a7.tmps[47]? = some (.pointer (some ⟨it, 0, none⟩)) := by
        rw [hkeep 47 (fun o ho => by have := List.all_eq_true.1 d14 o ho; intro e; rw [e] at this; simp at this)]; exact hit4
      have hDsA : ∀ D ∈ Ds7, w0.heap.size ≤ D := fun D hDm => (hDs7 D hDm).elim (fun h => hDs D h) (fun h => Nat.le_trans hX6.size h)
      obtain ⟨hi7, hun7⟩ := hx7.keeps hi6 hun6
      have hX7 := hX6.trans hx7
      show (sqR bB).wpIn Fence.wide 0 Try.prog _ a7 w7
      rw [bX_eq]
      rw [zf5] at hE2
      obtain ⟨vc, hvc, hE3⟩ := aof (show ((CO.t p71).ev (zJ [p3, p4, p8, p71] s7)).bind (fun v => (condV cX .skip v).bind fun x => E F nB (.code x (zJ [p3, p4, p8, p71] s7) h7)) = some oB from hE2)
      obtain ⟨xc, hxcc, hE4⟩ := aof hE3
      have hsk := hs7.keep [p3, p4, p8, p71]
      have hcv := zbr (a := a7) (x := .tmp 71) (c := .t p71) rfl hsk hvc
      unfold condV at hxcc
      split at hxcc
      ·
        cases hxcc
        have hoB : oB = .ret (zJ [p6, p7] (((zJ [p3, p4, p8, p71] s7).set p6 (.bool false)).set p7 (.int .i64 0))) h7 := E_det hE4 (m := 2) rfl
        subst hoB
        obtain ⟨v6', g6, hap⟩ := aof hapB
        obtain ⟨v7', g7, hap⟩ := aof hap
        have hap := Option.some.inj hap
        cases hq : okQ R eg fg (ka, kb) with
        | true => rw [hq, if_pos rfl] at hap; simp at hap
        | false =>
          rw [hq, if_neg (by simp)] at hap
          simp only [Out.val.injEq, Value.tuple.injEq, Array.mk.injEq, List.cons.injEq, and_true, true_and] at hap
          obtain ⟨⟨rfl, rfl⟩, rfl⟩ := hap
          refine wpIn_cond_true hcv.inv_bool (wpIn_mono (zh3 hmixT okFs hE4 cX_comp hN7 hsk hr7 hd7 hD7) ?_)
          rintro e8 a8 w8 ⟨σ8, Ds8, s8, h8, hx8, hN8, hd8, ⟨hD8, hDs8⟩, hs8, hr8, hcase8⟩
          rcases hcase8 with ⟨e, -⟩ | ⟨i, e, -⟩ | ⟨e, rfl⟩
          · cases e
          · cases e
          · cases e
            show Q .ret a8 w8
            exact hret ⟨e0, he0, ka, kb, hk, hq⟩ σ8 h7 Ds8 a8 w8 (hX7.trans hx8) hN8 hd8 hD8 (fun D hDm => (hDs8 D hDm).elim (hDsA D) (fun h => Nat.le_trans hX7.size h)) hr8 (hfA.trans hfB) _ hs8 g6 g7
      ·
        cases hxcc
        have hoB : oB = .nrm (zJ [p3, p4, p8, p71] s7) h7 := E_det hE4 (m := 1) rfl
        subst hoB
        obtain ⟨v3', g3, hap⟩ := aof hapB
        obtain ⟨v4', g4, hap⟩ := aof hap
        obtain ⟨v8', g8, hap⟩ := aof hap
        have hap := Option.some.inj hap
        cases hq : okQ R eg fg (ka, kb) with
        | false => rw [hq, if_neg (by simp)] at hap; simp at hap
        | true =>
          rw [hq, if_pos rfl] at hap
          simp only [Out.val.injEq, Value.tuple.injEq, Array.mk.injEq, List.cons.injEq, and_true, true_and] at hap
          obtain ⟨⟨rfl, rfl, rfl⟩, rfl⟩ := hap
          refine wpIn_cond_false hcv.inv_bool (wpIn_skip ?_)
          show Code.roundsIn Fence.wide 0 Try.prog zfV _ (n' + 1) a7 w7
          have hs37 : SR σ7 (s3 q m) a7.tmps := by
            have e : zJ [p3, p4, p8] (zJ [p3, p4, p8, p71] s7) = s3 q m := keepS_of rfl (fun i p v hp hv => by
              match i with
              | 0 => cases hp; cases hv; exact g3
              | 1 => cases hp; cases hv; exact g4
              | 2 => cases hp; cases hv; exact g8
              | i + 3 => simp at hp)
            rw [← e]; exact hsk.keep _
          refine ih n' rfl (seen.push e0.2.2) a7 w7 (by omega) ⟨σ7, h7, Ds7, Rm, hX7, hN7, hd7, ⟨hD7, hDsA⟩, hs37, hr7, hfA.trans hfB, hit7, hi7, hun7, hx7.le _ _ (hx46.le _ _ hm), hbm, hitn⟩ ?_
          intro e he hse a b hkk
          by_cases heq : e.2.2 = e0.2.2
          · have hee : e = e0 := by
              have h1 := find_born (⟨e.1, e.2.1, e.2.2⟩ : MapEntry) (zeR es).toList hnd (List.mem_map.2 ⟨e, he, rfl⟩)
              have h2 := find_born (⟨e0.1, e0.2.1, e0.2.2⟩ : MapEntry) (zeR es).toList hnd (List.mem_map.2 ⟨e0, he0, rfl⟩)
              simp only at h1 h2
              rw [heq, h2] at h1
              have h3 := Option.some.inj h1
              simp only [MapEntry.mk.injEq] at h3
              exact Prod.ext h3.1.symm (Prod.ext h3.2.1.symm heq)
            subst hee
            rw [hk] at hkk
            cases hkk
            exact hq
          · refine hgood e he ?_ a b hkk
            rw [Array.contains_push] at hse
            simp only [Bool.or_eq_true, beq_iff_eq] at hse
            rcases hse with h | h
            · exact h
            · exact absurd h.symm (fun h => heq (by omega))
      · cases hxcc
theorem bis_loop (heg : zZ eg) (hfg : zZ fg) (hez : eg.length ≤ 1000) (hfz : fg.length ≤ 1000) (hrow : Row hA 3 sl (eg.map edL)) (hrow' : Row hA 3 sl' (fg.map edL)) (hgm : hA.get m = some (.map es clk)) (hmi : zgy es (sV R)) (hok : zfa es clk) (hqm : q + 1 < m) (hml : m < hA.next) (hg : hA.get q = some (.cells (gL st lb sl) 0)) (hg' : hA.get (q + 1) = some (.cells (gL st' lb' sl') 0))
    {Q : Exit → Act → World → Prop}
    (hend : (∀ e ∈ es, ∀ a b, e.1 = key2 a b → okQ R eg fg (a, b) = true) → ∀ seen a w, BInv ρ0 w0 hA q m bm it clk seen a w → bE.wpIn Fence.wide 0 Try.prog Q a w)
    (hret : (∃ e ∈ es, ∃ a b, e.1 = key2 a b ∧ okQ R eg fg (a, b) = false) → ∀ σ h Ds a w, Ext ρ0 w0 σ w → a.tmps.size = 72 → a.defers = Ds.map zbi → zb4 σ w Ds → (∀ D ∈ Ds, w0.heap.size ≤ D) → HR Try.prog σ h w → Fr hA h → ∀ s, SR σ s a.tmps → s.get p6 = some (.bool false) → s.get p7 = some (.int .i64 0) → Q .ret a w) :
    ∀ n seen a w, (leftOf (zeR es) seen).size ≤ n → BInv ρ0 w0 hA q m bm it clk seen a w → (∀ e ∈ es, seen.contains e.2.2 = true → ∀ a b, e.1 = key2 a b → okQ R eg fg (a, b) = true) →
      Code.roundsIn Fence.wide 0 Try.prog zfV (Exit.inBlock 2 (Exit.then (bE.wpIn Fence.wide 0 Try.prog Q) Q)) (n + 1) a w := by
  intro n
  induction n with
  | zero =>
    intro seen a w hsz hI hgood
    exact bis_step heg hfg hez hfz hrow hrow' hgm hmi hok hqm hml hg hg' hend hret 0 (fun _ h => by omega) seen a w hsz hI hgood
  | succ n ih =>
    exact bis_step heg hfg hez hfz hrow hrow' hgm hmi hok hqm hml hg hg' hend hret (n + 1) fun n' hn' => by
      have : n' = n := by omega
      subst this; exact ih
end
theorem Row_det {h : H} {sz : Nat} {v : Value} {rows rows' : List (List Value)} (h1 : Row h sz v rows) (h2 : Row h sz v rows') : rows = rows' := by
  cases h1 with
  | nil => obtain ⟨b, c, e⟩ := h2.len; cases rows' with | nil => rfl | cons _ _ => cases e
  | hole _ => obtain ⟨b, c, e⟩ := h2.len; cases rows' with | nil => rfl | cons _ _ => cases e
  | @cells b off cap e cs rows hlt hg hrd hcap =>
    have hl : rows'.length = rows.length := by
      obtain ⟨b', c', e'⟩ := h2.len
      simp only [Value.slice.injEq] at e'
      exact e'.2.1.symm
    apply List.ext_getElem?
    intro i
    by_cases hi : i < rows.length
    · have e1 : rows[i]? = some rows[i] := List.getElem?_eq_getElem hi
      have e2 : rows'[i]? = some (rows'[i]'(by omega)) := List.getElem?_eq_getElem _
      obtain ⟨b2, o2, cs2, x2, k1, k2, k3, k4⟩ := h2.index e2
      have k0 := hrd i _ e1
      have hb : b2 = b ∧ o2 = off + i * sz := by
        have := k1 h
        rw [zhl (by omega)] at this
        simp only [Option.some.injEq, Prod.mk.injEq, Value.pointer.injEq, Addr.mk.injEq, and_true] at this
        exact ⟨this.1.symm, this.2.symm⟩
      obtain ⟨rfl, rfl⟩ := hb
      rw [hg] at k3
      cases k3
      rw [k0] at k4
      rw [e1, e2, Option.some.inj k4]
    · rw [List.getElem?_eq_none (by omega), List.getElem?_eq_none (by omega)]
theorem zfj : ∀ {es fs : List Ed}, es.map edL = fs.map edL → es = fs
  | [], [], _ => rfl
  | [], _ :: _, h => by simp at h
  | _ :: _, [], h => by simp at h
  | x :: es, y :: fs, h => by
    obtain ⟨h1, h2⟩ := List.cons.inj h
    simp only [edL, List.cons.injEq, Value.int.injEq, true_and, and_true] at h1
    rw [zfj h2, Prod.ext h1.1 (Prod.ext h1.2.1 h1.2.2)]
theorem zhK : ∀ {es fs : List (Int × Int)}, es.map prL = fs.map prL → es = fs
  | [], [], _ => rfl
  | [], _ :: _, h => by simp at h
  | _ :: _, [], h => by simp at h
  | x :: es, y :: fs, h => by
    obtain ⟨h1, h2⟩ := List.cons.inj h
    simp only [prL, List.cons.injEq, Value.int.injEq, true_and, and_true] at h1
    rw [zhK h2, Prod.ext h1.1 h1.2]
def zjx (args : List Value) (h : H) (r : Value) : Prop := ∃ st lb sl es st' lb' sl' fs v ps, args = [gV st lb sl, gV st' lb' sl', v] ∧ Row h 3 sl (es.map edL) ∧ Row h 3 sl' (fs.map edL) ∧ Row h 2 v (ps.map prL) ∧ ps.length ≤ 100000 ∧ r = bisA st lb es st' lb' fs ps
theorem zjx.det {args : List Value} {h : H} {r r' : Value} (h1 : zjx args h r) (h2 : zjx args h r') : r = r' := by
  obtain ⟨st, lb, sl, es, st', lb', sl', fs, v, ps, rfl, q1, q2, q3, q4, rfl⟩ := h1
  obtain ⟨_, _, _, es2, _, _, _, fs2, _, ps2, e, k1, k2, k3, k4, rfl⟩ := h2
  simp only [List.cons.injEq, Value.agg.injEq, Array.mk.injEq, Value.int.injEq, true_and, and_true] at e
  obtain ⟨⟨rfl, rfl, rfl⟩, ⟨rfl, rfl, rfl⟩, rfl⟩ := e
  rw [zfj (Row_det q1 k1), zfj (Row_det q2 k2), zhK (Row_det q3 k3)]
open Classical in
def bisP (args : List Value) (h : H) : Option (Value × H) := if hx : ∃ r, zjx args h r then some (Classical.choose hx, h) else none
theorem bisP_some {args : List Value} {h : H} {r : Value} (hx : zjx args h r) : bisP args h = some (r, h) := by
  unfold bisP
  rw [dif_pos ⟨r, hx⟩]
  rw [(Classical.choose_spec (⟨r, hx⟩ : ∃ r, zjx args h r)).det hx]
theorem findE_mem {k v : Value} : ∀ {es : List (Value × Value × Nat)}, zdT kk2 k es = some (some v) → ∃ e ∈ es, zbc kk2 k e.1 = some true
  | [], h => by cases h
  | (key, w, n) :: es, h => by
    rw [zcc] at h
    obtain ⟨s, h1, h⟩ := aof h
    cases s with
    | true => exact ⟨_, List.mem_cons_self, h1⟩
    | false => obtain ⟨e, he, h2⟩ := findE_mem h; exact ⟨e, List.mem_cons_of_mem _ he, h2⟩
theorem findE_hit {a b : Int} : ∀ {es : List (Value × Value × Nat)}, (∀ e ∈ es, ∃ a b, e.1 = key2 a b) → (∃ e ∈ es, e.1 = key2 a b) → zdT kk2 (key2 a b) es ≠ some none
  | [], _, h => by obtain ⟨e, he, _⟩ := h; cases he
  | (key, w, n) :: es, hk, h => by
    obtain ⟨p, q, e⟩ := hk _ List.mem_cons_self
    have e : key = key2 p q := e
    subst e
    rw [zcc, zbE]
    by_cases hab : a = p ∧ b = q
    · simp [hab]
    · have hf : (decide (a = p) && decide (b = q)) = false := by
        rw [Bool.eq_false_iff]; intro h'; simp at h'; exact hab h'
      rw [hf]
      refine findE_hit (fun e he => hk e (List.mem_cons_of_mem _ he)) ?_
      obtain ⟨e, he, h2⟩ := h
      rcases List.mem_cons.1 he with rfl | he
      · exfalso
        have h2 : key2 p q = key2 a b := h2
        simp only [Value.agg.injEq, Array.mk.injEq, List.cons.injEq, Value.int.injEq, true_and, and_true] at h2
        exact hab ⟨h2.1.symm, h2.2.symm⟩
      · exact ⟨e, he, h2⟩
theorem zjm {es : List (Value × Value × Nat)} {ps : List (Int × Int)} (hmi : zgy es (sV (inP ps))) (Qp : Int × Int → Bool) : (∀ e ∈ es, ∀ a b, e.1 = key2 a b → Qp (a, b) = true) ↔ ps.all Qp = true := by
  have hin : ∀ a b, inP ps a b = true ↔ (a, b) ∈ ps := by
    intro a b
    unfold inP
    rw [List.any_eq_true]
    constructor
    · rintro ⟨p, hp, h⟩
      have := of_decide_eq_true h
      have e : p = (a, b) := Prod.ext this.1 this.2
      rwa [← e]
    · intro h; exact ⟨_, h, by simp⟩
  constructor
  · intro h
    rw [List.all_eq_true]
    rintro ⟨a, b⟩ hp
    have h1 := hmi.look a b
    rw [show sV (inP ps) a b = some (.bool true) by unfold sV; rw [if_pos ((hin a b).2 hp)]] at h1
    obtain ⟨e, he, hs⟩ := findE_mem h1
    obtain ⟨p, q, hk⟩ := hmi.keys e he
    rw [hk, zbE] at hs
    simp only [Option.some.injEq, Bool.and_eq_true, decide_eq_true_eq] at hs
    obtain ⟨rfl, rfl⟩ := hs
    exact h e he _ _ hk
  · intro h e he a b hk
    have h1 := findE_hit hmi.keys ⟨e, he, hk⟩
    rw [hmi.look] at h1
    have h2 : inP ps a b = true := by
      cases hc : inP ps a b with
      | true => rfl
      | false => exact absurd (by unfold sV; rw [hc]; rfl) h1
    exact List.all_eq_true.1 h _ ((hin a b).1 h2)
theorem res67 : allO (zbp Try.prog) Try.f22.results.toList = some [.tmp p6, .tmp p7] := by kernel_rfl
theorem ntmps22 : Try.f22.ntmps = 72 := by kernel_rfl
theorem res_of67 {s : zf} {a b : Value} (ha : s.get p6 = some a) (hb : s.get p7 = some b) (h : H) : ziP [.tmp p6, .tmp p7] s h = some (.val (.tuple ⟨[a, b]⟩) h) := by
  show (allO (resV s h) [.tmp p6, .tmp p7]).map _ = _
  have e1 : resV s h (.tmp p6) = some a := ha
  have e2 : resV s h (.tmp p7) = some b := hb
  have : allO (resV s h) [.tmp p6, .tmp p7] = some [a, b] := by
    show (resV s h (.tmp p6)).bind (fun x => ((resV s h (.tmp p7)).bind fun y => (some []).map (y :: ·)).map (x :: ·)) = _
    rw [e1, e2]; rfl
  rw [this]; rfl
theorem bis_prim : PrimOk Try.prog 22 bisP := by
  have hname : (Try.f22.name == "runtime.NumGoroutine") = false := by kernel_rfl
  refine ⟨fun args w => by
    have hne : ¬ Try.f22.name = "runtime.NumGoroutine" := by simpa using hname
    have hb := bC_eq
    simp [callFunc, Try.func22, hne, hb], ?_⟩
  intro args h v h' hp ρ args' w ra hr
  unfold bisP at hp
  split at hp
  · rename_i hx
    have hans := Classical.choose_spec hx
    cases hp
    generalize Classical.choose hx = ans at hans
    obtain ⟨st, lb, sl, eg, st', lb', sl', fg, v, ps, rfl, hrow, hrow', hr2, hps, rfl⟩ := hans
    obtain ⟨Pq, hPq⟩ : ∃ Pq : Value → H → Prop, Pq = fun v1 h1 => Fr h h1 ∧ (((two st lb eg st' lb' fg && ps.all (rngQ st st')) = false ∧ v1 = .tuple ⟨[.bool false, .bool false, .int .i64 2]⟩) ∨
      ((two st lb eg st' lb' fg && ps.all (rngQ st st')) = true ∧ ∃ q m, q + 1 < m ∧ m < h1.next ∧ h1.get q = some (.cells (gL st lb sl) 0) ∧ h1.get (q + 1) = some (.cells (gL st' lb' sl') 0) ∧ SetM h1 m (inP ps) ∧ v1 = .tuple ⟨[.bool true, ptr q, ptr (q + 1), .map (some m)]⟩)) := ⟨_, rfl⟩
    obtain ⟨v1, h1, hsh, hP1⟩ := bisA_ok st lb st' lb' eg fg ps hps v sl sl' h hrow hrow' hr2 (P := Pq)
      (fun hc h1 hf => by rw [hPq]; exact ⟨hf, .inl ⟨hc, rfl⟩⟩) (fun hc h1 q m hf q1 q2 q3 q4 q5 q6 => by rw [hPq]; exact ⟨hf, .inr ⟨hc, q, m, q2, q3, q4, q5, q6, rfl⟩⟩)
    rw [hPq] at hP1
    obtain ⟨hf1, hcase⟩ := hP1
    obtain ⟨n, o, hE, hap⟩ := piece_run hsh
    refine (callsIn_wide (n := 0)).1 (callsIn_of_wp_marks Try.func22 bC_eq trivial ?_)
    rw [ntmps22]
    have hsz3 : args'.size = 3 := by have := ra.1; simp at this; omega
    have hs0 : SR ρ (setL [p0, p1, p2] [gV st lb sl, gV st' lb' sl', v]) (args' ++ Array.replicate (72 - args'.size) undef) := (args_SR ra _).keep [p0, p1, p2]
    refine wp_app hmixT okFs 3 n c_bisA bA 72 bA_comp _ h o hE ρ _ w [] (by simp; omega) hs0 hr rfl ⟨List.nodup_nil, by simp⟩ ?_
    rintro e a1 w1 hpost
    obtain ⟨σ, Ds, s1, hh, hx1, hN1, hd1, hD1, hDs1, hs1, hr1, hcase1⟩ := hpost.nil_ge
    have fin : ∀ {σ : Rho} {h2 : H} {Ds : List Nat} {a : Act} {w2 : World} {s : zf} {b : Bool} {k : Int}, Ext ρ w σ w2 → a.defers = Ds.map zbi → zb4 σ w2 Ds → (∀ D ∈ Ds, w.heap.size ≤ D) → HR Try.prog σ h2 w2 → Fr h h2 → SR σ s a.tmps → s.get p6 = some (.bool b) → s.get p7 = some (.int .i64 k) → bisA st lb eg st' lb' fg ps = zdS (.bool b) (.int .i64 k) →
        LeavesInM Fence.wide 0 Try.prog Try.f22 a.tmps (VPost Try.prog ρ w (.val (bisA st lb eg st' lb' fg ps) h)) a.defers .returning w2 := by
      intro σ h2 Ds a w2 s b k hx2 hd2 hD2 hDs2 hr2' hf2 hs2 g6 g7 hans
      rw [hd2, hans]
      refine zfH (ρ0 := ρ) (w0 := w) res67 (res_of67 g6 g7 h2) hs2 ?_ Ds w2 hD2 hDs2 hr2' hx2
      intro v' w3 hv3 hr3 hx3
      obtain ⟨r1, r2⟩ := hr.restrict hr3 hx3 (fun i hi => hf2.get i hi)
      refine ⟨_, _, v', ρ, rfl, rfl, ?_, r1, r2⟩
      obtain ⟨ys, rfl, hl⟩ := hv3.inv_tuple
      obtain ⟨y1, t1, e1, k1, k2⟩ := hl.cons_left
      obtain ⟨y2, t2, e2, k3, k4⟩ := k2.cons_left
      have := k4.nil_left
      subst this
      rw [k1.inv_bool] at e1
      rw [k3.inv_int] at e2
      subst e2
      have : ys = ⟨[.bool b, .int .i64 k]⟩ := by rw [← Array.toList_inj, e1]
      rw [this]
      exact VR.tuple_of (.cons (.bool _) (.cons (.int _ _) (.nil _)))
    rcases hcase with ⟨hc, rfl⟩ | ⟨hc, q, m, q2, q3, q4, q5, q6, rfl⟩
    ·
      have hans : bisA st lb eg st' lb' fg ps = zdS (.bool false) (.int .i64 2) := by
        unfold bisA
        cases h2w : two st lb eg st' lb' fg with
        | false => simp
        | true => rw [h2w] at hc; simp only [Bool.true_and] at hc; simp [hc]
      rcases hcase1 with ⟨rfl, rfl⟩ | ⟨i, rfl, rfl⟩ | ⟨rfl, rfl⟩
      · exfalso
        obtain ⟨x3, g3, hap⟩ := aof hap
        obtain ⟨x4, g4, hap⟩ := aof hap
        obtain ⟨x8, g8, hap⟩ := aof hap
        have hap := Option.some.inj hap
        simp at hap
      · cases hap
      · obtain ⟨x6, g6, hap⟩ := aof hap
        obtain ⟨x7, g7, hap⟩ := aof hap
        have hap := Option.some.inj hap
        simp only [Out.val.injEq, Value.tuple.injEq, Array.mk.injEq, List.cons.injEq, and_true, true_and] at hap
        obtain ⟨⟨rfl, rfl⟩, rfl⟩ := hap
        exact fin hx1 hd1 hD1 hDs1 hr1 hf1 hs1 g6 g7 hans
    ·
      rcases hcase1 with ⟨rfl, rfl⟩ | ⟨i, rfl, rfl⟩ | ⟨rfl, rfl⟩
      · obtain ⟨x3, g3, hap⟩ := aof hap
        obtain ⟨x4, g4, hap⟩ := aof hap
        obtain ⟨x8, g8, hap⟩ := aof hap
        have hap := Option.some.inj hap
        simp only [Out.val.injEq, Value.tuple.injEq, Array.mk.injEq, List.cons.injEq, and_true, true_and] at hap
        obtain ⟨⟨rfl, rfl, rfl⟩, rfl⟩ := hap
        have hs13 : SR σ (s3 q m) a1.tmps := by
          have e : zJ [p3, p4, p8] s1 = s3 q m := keepS_of rfl (fun i p v hp hv => by
            match i with
            | 0 => cases hp; cases hv; exact g3
            | 1 => cases hp; cases hv; exact g4
            | 2 => cases hp; cases hv; exact g8
            | i + 3 => simp at hp)
          rw [← e]; exact hs1.keep _
        obtain ⟨es, clk, hgm, hmi, hok⟩ := q6
        have h2w : two st lb eg st' lb' fg = true := by
          cases h2w : two st lb eg st' lb' fg with
          | true => rfl
          | false => rw [h2w] at hc; cases hc
        have hrg : ps.all (rngQ st st') = true := by rw [h2w] at hc; exact hc
        have h2w' := h2w
        unfold two at h2w'
        simp only [Bool.and_eq_true, decide_eq_true_eq] at h2w'
        have fm := (zek st lb eg).1 h2w'.1.1
        have fm' := (zek st' lb' fg).1 h2w'.1.2
        have e5 := fm.len
        have e6 := fm'.len
        have hm8 : ∃ R, σ m = some R ∧ a1.eval (.tmp 8) = .map (some R.blk) := by
          obtain ⟨x, hx, hv⟩ := hs13 8 (.map (some m)) rfl
          cases hv with | @map _ R h => exact ⟨R, h, zc4 hx⟩
        obtain ⟨Rm, hRm, hev8⟩ := hm8
        obtain ⟨es', hb, hlen, hrel⟩ := hr1.obj m Rm _ hRm hgm
        obtain rfl := real_of hlen hrel hok.kv
        obtain ⟨kt, et, hu⟩ := u81
        have hne : ∀ c, o11a.op ≠ .defer c := fun c => by rw [f11a.1]; nofun
        have hne2 : ∀ c, o11b.op ≠ .defer c := fun c => by rw [f11b.1]; nofun
        obtain ⟨it, eit⟩ : ∃ it, it = w1.heap.size := ⟨_, rfl⟩
        show (Code.seq _ bE).wpIn Fence.wide 0 Try.prog _ a1 w1
        refine wpIn_seq (wpIn_seq (wpIn_region ?_))
        rw [s11]
        refine zc2 e11a f11a.2.2 (zjc hne (v := .map (some Rm.blk)) (w' := w1) ?_ ?_)
        · simp only [execOp, f11a.1, hev8, Sem.run_pure]
        have hev46 : (a1.put o11a.dst (.map (some Rm.blk))).eval (.tmp 46) = .map (some Rm.blk) := by
          rw [f11a.2.1]
          refine zc4 ?_
          show (a1.tmps.setIfInBounds 46 _)[46]? = _
          rw [Array.getElem?_setIfInBounds, if_pos rfl, if_pos (by omega)]
        refine zc2 e11b f11b.2.2 (zjc hne2 (v := .pointer (some ⟨it, 0, none⟩)) (w' := w1.alloc (.mapIter (some Rm.blk) clk #[] clk)) ?_ ?_)
        · simp only [execOp, f11b.1, Sem.run_bind, hev46, run_range_map w1 81 kt et Rm.blk (zeR es) clk hu hb, Result.andThen_ok, Sem.run_pure, eit]
        rw [f11b.2.1, f11a.2.1]
        obtain ⟨a2, ea2⟩ : ∃ a2 : Act, a2 = (a1.put (some 46) (.map (some Rm.blk))).put (some 47) (.pointer (some ⟨it, 0, none⟩)) := ⟨_, rfl⟩
        rw [← ea2]
        obtain ⟨hr2', hx2⟩ := hr1.garbage (o := .mapIter (some Rm.blk) clk #[] clk) (zh6 _ _ _ _)
        have hI : BInv ρ w hh q m Rm.blk it clk #[] a2 (w1.alloc (.mapIter (some Rm.blk) clk #[] clk)) := by
          refine ⟨σ, hh, Ds, Rm, hx1.trans hx2, by rw [ea2]; simpa [Act.put] using hN1, by rw [ea2]; exact hd1, ⟨hD1.ext hx2, hDs1⟩, ?_, hr2', .refl _, ?_, ?_, fun i S hi e => ?_, hRm, rfl, by rw [eit]; exact hx1.size⟩
          · rw [ea2]
            exact (hs13.skip (t := 46) (zdw (by decide) (by decide) (by decide)) _).skip (t := 47) (zdw (by decide) (by decide) (by decide)) _
          · rw [ea2]
            show ((a1.tmps.setIfInBounds 46 _).setIfInBounds 47 _)[47]? = _
            rw [Array.getElem?_setIfInBounds, if_pos rfl, if_pos (by simp; omega)]
          · rw [eit]; exact Go.heap_alloc_new _ _
          · have := hr1.blk i S hi; omega
        refine wpIn_block (wpIn_loop_rounds (es.length + 1) ?_)
        refine bis_loop (R := inP ps) fm.sortedF fm'.sortedF (by omega) (by omega) (hrow.fr hf1) (hrow'.fr hf1) hgm hmi hok q2 q3 q4 q5 (Q := bodyPostM Fence.wide 0 Try.prog Try.f22 (VPost Try.prog ρ w (.val (bisA st lb eg st' lb' fg ps) h))) ?_ ?_ es.length #[] a2 _ ?_ hI (fun e he hs => by simp at hs)
        ·
          intro hall seen a w2 hI2
          obtain ⟨σ2, h2, Ds2, R2, hx3, hN3, hd3, ⟨hD3, hDs3⟩, hs3', hr3, hf3, hit3, hi3, hun3, hm3, hb3, hit3'⟩ := hI2
          have hq := (zjm hmi (okQ (inP ps) eg fg)).1 hall
          have hans : bisA st lb eg st' lb' fg ps = zdS (.bool true) (.int .i64 0) := by
            unfold bisA
            rw [if_pos h2w, if_pos hrg]
            have : ps.all (bisQ eg fg ps) = true := by
              rw [List.all_eq_true] at hq ⊢
              intro p hp; rw [← okQ_bisQ]; exact hq p hp
            rw [this]
          have hEe : E F 2 (.code cEnd (s3 q m) h2) = some (.ret (zJ [p6, p7] (((s3 q m).set p6 (.bool true)).set p7 (.int .i64 0))) h2) := rfl
          refine wpIn_mono (zh3 hmixT okFs hEe bE_comp hN3 hs3' hr3 hd3 hD3) ?_
          rintro e4 a4 w4 ⟨σ4, Ds4, s4, h4, hx4, hN4, hd4, ⟨hD4, hDs4⟩, hs4, hr4, hcase4⟩
          rcases hcase4 with ⟨e, -⟩ | ⟨i, e, -⟩ | ⟨e, rfl⟩
          · cases e
          · cases e
          · cases e
            exact fin (hx3.trans hx4) hd4 hD4 (fun D hDm => (hDs4 D hDm).elim (hDs3 D) (fun h => Nat.le_trans hx3.size h)) hr4 (hf1.trans hf3) hs4 (b := true) (k := 0) rfl rfl hans
        ·
          rintro ⟨e0, he0, a0, b0, hk0, hq0⟩ σ4 h4 Ds4 a4 w4 hx4 hN4 hd4 hD4 hDs4 hr4 hf4 s4 hs4 g6 g7
          have hans : bisA st lb eg st' lb' fg ps = zdS (.bool false) (.int .i64 0) := by
            unfold bisA
            rw [if_pos h2w, if_pos hrg]
            have : ps.all (bisQ eg fg ps) = false := by
              cases hc2 : ps.all (bisQ eg fg ps) with
              | false => rfl
              | true =>
                have hq : ps.all (okQ (inP ps) eg fg) = true := by
                  rw [List.all_eq_true] at hc2 ⊢
                  intro p hp; rw [okQ_bisQ]; exact hc2 p hp
                have := (zjm hmi (okQ (inP ps) eg fg)).2 hq e0 he0 a0 b0 hk0
                rw [hq0] at this; cases this
            rw [this]
          exact fin hx4 hd4 hD4 hDs4 hr4 (hf1.trans hf4) hs4 g6 g7 hans
        · unfold leftOf
          refine Nat.le_trans (Array.size_filter_le) ?_
          show (es.map _).length ≤ _
          rw [List.length_map]; exact Nat.le_refl _
      · cases hap
      · exfalso
        obtain ⟨x6, g6, hap⟩ := aof hap
        obtain ⟨x7, g7, hap⟩ := aof hap
        have hap := Option.some.inj hap
        simp at hap
  · cases hp
end
end Go.Ideal.J
set_option maxHeartbeats 2000000
namespace Go.Ideal.J
open Go Go.Ideal Go.Proofs
noncomputable def G : FuncId → Option zp := fun g => if g = n_T then some (primP bisP) else F g
theorem F_bis : F n_T = none := by kernel_rfl
theorem leFG : LeF F G := fun g cf h => by
  unfold G
  rw [if_neg (by rintro rfl; rw [F_bis] at h; cases h)]; exact h
theorem okGs : ∀ g cf, G g = some cf → FnOk Try.prog g cf := fun g cf h => by
  unfold G at h
  split at h
  · rename_i e; cases h; subst e; exact .inr (.inr ⟨bisP, rfl, bis_prim⟩)
  · exact okFs g cf h
theorem jBis_ok (st lb st' lb' : Int) (es fs : List Ed) (ps : List (Int × Int)) (hsz : ps.length ≤ 100000) (v sl sl' : Value) (h : H) (hrow : Row h 3 sl (es.map edL)) (hrow' : Row h 3 sl' (fs.map edL)) (hr2 : Row h 2 v (ps.map prL)) :
    zbj G (fnV n_T) [gV st lb sl, gV st' lb' sl', v] h = some (bisA st lb es st' lb' fs ps, h) :=
  callI_prim (cf := primP bisP) (by unfold G; rw [if_pos rfl]) rfl (bisP_some ⟨st, lb, sl, es, st', lb', sl', fs, v, ps, rfl, hrow, hrow', hr2, hsz, rfl⟩) (Nat.le_refl _)
theorem bisA_pair (st lb : Int) (es : List Ed) (st' lb' : Int) (fs : List Ed) (ps : List (Int × Int)) : ∃ b k, bisA st lb es st' lb' fs ps = zdS (.bool b) (.int .i64 k) := by
  unfold bisA
  split
  · split
    · exact ⟨_, _, rfl⟩
    · exact ⟨_, _, rfl⟩
  · exact ⟨_, _, rfl⟩
theorem alikeA_pair (st lb : Int) (es : List Ed) (st' lb' : Int) (fs : List Ed) : ∃ b k, zem st lb es st' lb' fs = zdS (.bool b) (.int .i64 k) := by
  unfold zem
  split
  · exact ⟨_, _, rfl⟩
  · exact ⟨_, _, rfl⟩
theorem jAlike_ok' (st lb st' lb' : Int) (es fs : List Ed) (sl sl' : Value) (h : H) (hrow : Row h 3 sl (es.map edL)) (hrow' : Row h 3 sl' (fs.map edL)) :
    ∃ h', zbj F (fnV n_L) [gV st lb sl, gV st' lb' sl'] h = some (zem st lb es st' lb' fs, h') ∧ Fr h h' := by
  obtain ⟨v, h', e, rfl, hf⟩ := jAlike_ok st lb st' lb' es fs sl sl' h hrow hrow' (P := fun v h' => v = zem st lb es st' lb' fs ∧ Fr h h')
    (fun hc h' hf => ⟨by unfold zem two; rw [if_neg (by rw [hc]; simp)], hf⟩) (fun hc h' hf => ⟨by unfold zem two; rw [if_pos hc], hf⟩)
  exact ⟨h', e, hf⟩
theorem alikes_law (st lb st' lb' : Int) (es fs : List Ed) (ps : List (Int × Int)) (v sl sl' : Value) (h : H) (hrow : Row h 3 sl (es.map edL)) (hrow' : Row h 3 sl' (fs.map edL)) (hr2 : Row h 2 v (ps.map prL)) :
    Ret G (fnV n_M) [gV st lb sl, gV st' lb' sl', v] h fun u h' => u = .bool true ∧ Fr h h' := by
  refine Ret.fn (leFG _ _ F_M) 3 (by decide) ?_
  rw [s_M]
  have hv := hrow.slvM
  have hv' := hrow'.slvM
  have hv2 := hr2.slvM
  have hkn : ∀ h, zbj G (fnV n_F) [] h = some (.bool true, h) := fun h => zfR leFG (known_ok' h)
  obtain ⟨q, eq⟩ : ∃ q, q = h.next := ⟨_, rfl⟩
  obtain ⟨h2, eh2⟩ : ∃ h2, h2 = (h.new (.cells (gL st lb sl) 0)).new (.cells (gL st' lb' sl') 0) := ⟨_, rfl⟩
  have hf2 : Fr h h2 := by rw [eh2]; exact (Fr.new _ _).newR _
  have hn2 : h2.next = q + 2 := by rw [eh2, eq]; simp
  have g0 : h2.get q = some (.cells (gL st lb sl) 0) := by rw [eh2, eq]; simp (disch := omega)
  have g1 : h2.get (q + 1) = some (.cells (gL st' lb' sl') 0) := by rw [eh2, eq]; simp (disch := omega)
  by_cases hl : (200 : Int) < (ps.length : Int)
  · refine OkV.eq (OkV.val (v := .bool true) (h := h2) ⟨rfl, hf2⟩) ?_
    simp (disch := first | omega | (simp only [za, zb]; done) | (simp only [za, zb]; omega)) [↓zL, ↓zA, ↓zt, hv.clean, hv.take, hv'.clean, hv'.take, ← eq, ← eh2, hv2.len, hl, hkn]
  · obtain ⟨h3, e3, hf3⟩ := jAlike_ok' st lb st' lb' es fs sl sl' h2 (hrow.fr hf2) (hrow'.fr hf2)
    have e3 := zfR leFG e3
    have hF3 := hf2.trans hf3
    have hfn3 := hf3.next
    have g03 := (hf3.get _ (by omega)).trans g0
    have g13 := (hf3.get _ (by omega)).trans g1
    obtain ⟨h4, e4, hf4⟩ := rAlike_ok st lb st' lb' es fs sl sl' h3 (hrow.fr hF3) (hrow'.fr hF3)
    have e4 := zfR leFG e4
    have hF4 := hF3.trans hf4
    have hfn4 := hf4.next
    have g04 := (hf4.get _ (by omega)).trans g03
    have g14 := (hf4.get _ (by omega)).trans g13
    have hps : ps.length ≤ 100000 := by omega
    have e5 := jBis_ok st lb st' lb' es fs ps hps v sl sl' h4 (hrow.fr hF4) (hrow'.fr hF4) (hr2.fr hF4)
    obtain ⟨h6, e6, hf6⟩ := rBis_ok st lb st' lb' es fs ps hps v sl sl' h4 (hrow.fr hF4) (hrow'.fr hF4) (hr2.fr hF4)
    have e6 := zfR leFG e6
    obtain ⟨ab, ak, ea⟩ := alikeA_pair st lb es st' lb' fs
    obtain ⟨bb, bk, eb⟩ := bisA_pair st lb es st' lb' fs ps
    rw [ea] at e3 e4
    rw [eb] at e5 e6
    have hbb : ∀ (b : Bool) (h' : H), vBin .eql .bool (.bool b) (.bool b) h' = some (.bool true, h') := fun b h' => by cases b <;> rfl
    refine OkV.eq (OkV.val (v := .bool true) (h := h6) ⟨rfl, hF4.trans hf6⟩) ?_
    simp (disch := first | omega | (simp only [za, zb]; done) | (simp only [za, zb]; omega)) [↓zL, ↓zA, ↓zt, hv.clean, hv.take, hv'.clean, hv'.take, ← eq, ← eh2, hv2.len, hl, hkn, g0, g1, e3, g03, g13, e4, g04, g14, e5, e6, hbb]
end Go.Ideal.J
set_option maxHeartbeats 4000000
namespace Go.Proofs.Ytanaepeilcjhcaa
open Go.ChangeShapes Go.WideShapes Go.ChangeAt Go.RowKit Go.Ideal Go.Ideal.J
theorem Try.own : ownKnob Try.prog.godebug = none := by kernel_rfl
theorem Try.laidOut : laidOutB Try.prog = true := by kernel_rfl
theorem graph_in {H : Type} {enc : TypeId × Value → H} {W : World} {base b : Nat} {r : Reach} {spare : Nat → Bool} {held : Bool} {v : Value} {d : DataW H} {ps : List MemPlace} (hval : Value.okWide Try.prog W r base 24 v) (hd : DataW.Trod enc Try.prog W b spare held 24 v d ps) :
    ∃ (st lb : Int) (sl : Value) (es : List Ed), v = gV st lb sl ∧ okArg W v = true ∧ Row (impH W) 3 sl (es.map edL) := by
  unfold Value.okWide at hval
  rw [Try.underlying24] at hval
  obtain ⟨cs, rfl, hsz, ts, hts, _, hcell⟩ := hval
  obtain ⟨fuel, hd⟩ := hd
  have hcs : (Value.agg cs).cells.toList = cs.toList := rfl
  rw [hcs] at hd
  obtain ⟨xs, n, _, _, hl, hlen, hf⟩ := DataW.trod_struct Try.underlying24 hd
  have h3 : Try.prog.cellsOf 24 = 3 := by kernel_rfl
  have hi1 : Try.prog.cellsOf 3 = 1 := by kernel_rfl
  have hs1 : Try.prog.cellsOf 22 = 1 := by kernel_rfl
  have hE3 : Try.prog.cellsOf 58 = 3 := by kernel_rfl
  have hty : Try.prog.cellTypes Try.prog.depth 24 = some [3, 3, 22] := by kernel_rfl
  rw [hty] at hts
  cases hts
  rw [h3] at hl
  obtain ⟨c0, c1, c2, hc⟩ : ∃ c0 c1 c2, cs.toList = [c0, c1, c2] := by
    match cs.toList, hl with
    | [c0, c1, c2], _ => exact ⟨c0, c1, c2, rfl⟩
  rw [hc] at hf
  have e0 : DataW.trod enc Try.prog W b spare held n 3 (([c0, c1, c2].drop 0).take (Try.prog.cellsOf 3)) = xs[0]? := hf 0 _ rfl
  have e1 : DataW.trod enc Try.prog W b spare held n 3 (([c0, c1, c2].drop 1).take (Try.prog.cellsOf 3)) = xs[1]? := hf 1 _ rfl
  have e2 : DataW.trod enc Try.prog W b spare held n 22 (([c0, c1, c2].drop 2).take (Try.prog.cellsOf 22)) = xs[2]? := hf 2 _ rfl
  rw [hi1] at e0 e1
  rw [hs1] at e2
  obtain ⟨y0, y1, y2, rfl⟩ : ∃ y0 y1 y2, xs = [y0, y1, y2] := by
    match xs, hlen with
    | [y0, y1, y2], _ => exact ⟨y0, y1, y2, rfl⟩
  obtain ⟨st, rfl, _⟩ := zbN Try.underlying3 (show DataW.trod enc Try.prog W b spare held n 3 [c0] = some y0 from e0)
  obtain ⟨lb, rfl, _⟩ := zbN Try.underlying3 (show DataW.trod enc Try.prog W b spare held n 3 [c1] = some y1 from e1)
  have hcs' : cs = #[.int .i64 st, .int .i64 lb, c2] := by rw [← Array.toList_inj, hc]
  subst hcs'
  obtain ⟨u, hu, hok⟩ := hcell 2 c2 rfl
  cases hu
  obtain ⟨hokv, es, hrow⟩ := zhy (α := Ed) (f := edL) (sz := 3) Try.underlying22 hE3 (by omega) (fun _ => rfl) (fun _ => rfl) (fun a v hv => by
      simp only [List.mem_cons, List.not_mem_nil, or_false] at hv
      rcases hv with rfl | rfl | rfl <;> rfl)
    (fun fuel cs y h => by
      obtain ⟨p, q, s, rfl⟩ := ints3_of_trod Try.underlying58 ⟨rfl, rfl⟩ ⟨rfl, rfl⟩ ⟨rfl, rfl⟩ Try.underlying3 Try.underlying3 Try.underlying3 hi1 hi1 hi1 hE3 h
      exact ⟨(p, q, s), rfl⟩) (slice_ok Try.underlying22 hok) (show DataW.trod enc Try.prog W b spare held n 22 [c2] = some y2 from e2)
  refine ⟨st, lb, c2, es, rfl, ?_, hrow⟩
  show ([.int .i64 st, .int .i64 lb, c2] : List Value).all (okV W) = true
  simp only [List.all_cons, List.all_nil, hokv, Bool.and_true]
  rfl
end Go.Proofs.Ytanaepeilcjhcaa
namespace Go.Proofs.Ytanaepeilcjhcaa
open Go.ChangeShapes Go.WideShapes Go.ChangeAt Go.RowKit Go.Ideal Go.Ideal.J
theorem pairs_in {H : Type} {enc : TypeId × Value → H} {W : World} {base b : Nat} {r : Reach} {spare : Nat → Bool} {held : Bool} {v : Value} {d : DataW H} {ps : List MemPlace} (hval : Value.okWide Try.prog W r base 42 v) (hd : DataW.Trod enc Try.prog W b spare held 42 v d ps) :
    ∃ l : List (Int × Int), okArg W v = true ∧ Row (impH W) 2 v (l.map prL) := by
  unfold Value.okWide at hval
  rw [Try.underlying42] at hval
  have hok : Cell.okWide Try.prog W r base 42 v := hval
  obtain ⟨fuel, hd⟩ := hd
  have hv2 := slice_ok Try.underlying42 hok
  have h2 : Try.prog.cellsOf 50 = 2 := by kernel_rfl
  have hi1 : Try.prog.cellsOf 3 = 1 := by kernel_rfl
  have hnagg : v.cells.toList = [v] := by
    unfold Cell.okWide at hok
    rw [Try.underlying42] at hok
    dsimp only at hok
    unfold Cell.ok at hok
    rw [Try.underlying42] at hok
    cases v <;> first | rfl | exact hok.elim
  rw [hnagg] at hd
  obtain ⟨h1, es, hrow⟩ := zhy (α := Int × Int) (f := prL) (sz := 2) Try.underlying42 h2 (by omega) (fun _ => rfl) (fun _ => rfl) (fun a v hv => by
      simp only [List.mem_cons, List.not_mem_nil, or_false] at hv
      rcases hv with rfl | rfl <;> rfl)
    (fun fuel cs y h => by
      obtain ⟨xs, n, _, _, hl, hlen, hf⟩ := DataW.trod_array Try.underlying50 h
      rw [h2] at hl
      match cs, hl with
      | [c0, c1], _ =>
        have e0 := hf 0 (by omega)
        have e1 := hf 1 (by omega)
        rw [hi1] at e0 e1
        match xs, hlen with
        | [y0, y1], _ =>
          obtain ⟨a, rfl, _⟩ := zbN Try.underlying3 (show DataW.trod enc Try.prog W b spare held n 3 [c0] = some y0 from e0)
          obtain ⟨c, rfl, _⟩ := zbN Try.underlying3 (show DataW.trod enc Try.prog W b spare held n 3 [c1] = some y1 from e1)
          exact ⟨(a, c), rfl⟩) hv2 hd
  refine ⟨es, ?_, hrow⟩
  obtain ⟨bs, n, c, rfl⟩ : ∃ bs n c, v = .slice bs n c := by
    obtain ⟨bs, c, e⟩ := hrow.len; exact ⟨_, _, _, e⟩
  exact h1
theorem alikes_calls {W : World} {v u x : Value} {st lb st' lb' : Int} {sl sl' : Value} {es fs : List Ed} {l : List (Int × Int)} (hv : v = gV st lb sl) (ho : okArg W v = true) (hrow : Row (impH W) 3 sl (es.map edL)) (hu : u = gV st' lb' sl') (hou : okArg W u = true) (hrow' : Row (impH W) 3 sl' (fs.map edL)) (hox : okArg W x = true) (hr2 : Row (impH W) 2 x (l.map prL)) :
    Calls Try.prog 6 #[v, u, x] W fun e W' => e = .returned (.bool true) ∧ Same W W' := by
  obtain ⟨y, h', he, rfl, hf⟩ := alikes_law st lb st' lb' es fs l x sl sl' (impH W) hrow hrow' hr2
  subst hv hu
  exact calls_import Go.Ideal.X.hmix okGs (fun v hv => by
    simp only [List.mem_cons, List.not_mem_nil, or_false] at hv
    rcases hv with rfl | rfl | rfl
    · exact ho
    · exact hou
    · exact hox) he (fun i hi => hf.get i (Nat.lt_succ_of_lt hi))
theorem alikes_lifted (os : Os) (started : os.Started) (H : Type) (enc : TypeId × Value → H) :
    ReturnsInHanded {} Try.checked os 6 .any (Rows.judgeAlikesSpec.pre6 enc Try.prog Try.f6 Rows.judgeAlikesRow.domain false) (Rows.judgeAlikesSpec.post enc Try.prog Try.f6 false true false false) := by
  refine returnsInHanded_of_change (C := Try.checked) Try.own started (by kernel_rfl) Try.func6
    (ChangeSpec.witness6 (enc := enc) (C := Try.checked) false ⟨#[], #[.agg #[.int .i64 0, .int .i64 0, .slice none 0 0], .agg #[.int .i64 0, .int .i64 0, .slice none 0 0], .slice none 0 0], []⟩ 8 (by kernel_rfl) (by kernel_rfl) (by kernel_rfl) (by kernel_rfl)) ?_
  intro W base args ds gs before hval0 hW hcnd _
  have hval : ∀ (j : Nat) t v, Try.f6.params[j]? = some t → args[j]? = some v → Value.okWide Try.prog W .any base t v := hval0
  have hW' := hW
  obtain ⟨p, q, hA0, hV, rfl, hfz, hnd⟩ := hW
  have hA : DataW.TrodAll enc Try.prog W 0 (fun _ => true) true Try.f6.params.toList args.toList ds p := hA0
  rw [Try.params6] at hA hval
  obtain ⟨v0, v1, v2, d0, d1, d2, q0, q1, q2, rfl, rfl, rfl, h0, h1, h2⟩ := trodAll_three hA
  obtain ⟨st, lb, sl, es, hv, ho, hrow⟩ := graph_in (hval 0 24 v0 rfl rfl) h0
  obtain ⟨st', lb', sl', fs, hu, hou, hrow'⟩ := graph_in (hval 1 24 v1 rfl rfl) h1
  obtain ⟨l, hox, hr2⟩ := pairs_in (hval 2 42 v2 rfl rfl) h2
  obtain ⟨rfl, rfl⟩ := trodVars_none hV
  refine (alikes_calls hv ho hrow hu hou hrow' hox hr2).mono fun e W' ⟨he, hs⟩ => ⟨_, he, ?_⟩
  exact law_post hW' rfl rfl (t := 4) (by kernel_rfl) Try.underlying4 hs Try.laidOut (fun t ht => by
    rw [Try.params6] at ht
    simp only [List.mem_cons, List.not_mem_nil, or_false] at ht
    rcases ht with rfl | rfl | rfl <;> exact ⟨by kernel_rfl, of_decide_eq_true (by kernel_rfl)⟩)
theorem alikes_holds : Rows.JudgeAlikesSaid :=
  OpenClaim.holds_of_wide 6 Try.f6 rfl rfl rfl rfl rfl rfl rfl ⟨rfl, rfl, rfl, rfl, rfl⟩ rfl rfl rfl rfl rfl (by kernel_rfl) Try.func6 (by kernel_rfl)
    (of_decide_eq_true (by kernel_rfl)) (by unfold Func.isWrapper; first | (rw [if_pos (by decide +kernel)]; kernel_rfl) | (rw [if_neg (by decide +kernel)]; exact ⟨rfl, rfl⟩))
    (fun os started H enc _ => alikes_lifted os started H enc)
end Go.Proofs.Ytanaepeilcjhcaa
