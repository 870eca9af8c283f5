/- JudgeLeast: for every graph the law answers true: its least graph is alike it, no two states of that are alike, it is no greater, and it is its own least graph. No condition. -/
import Derived.Test.YtanaepeilcjhcaaE
set_option linter.unusedSimpArgs false
set_option linter.unusedVariables false
set_option linter.unusedSectionVars false
set_option maxRecDepth 10000
set_option maxHeartbeats 2000000
namespace Go.Ideal.J
open Go Go.Ideal
theorem both_ok (st lb st' lb' : Int) (es fs : List Ed) (sl sl' : Value) (h : H) (hrow : Row h 3 sl (es.map edL)) (hrow' : Row h 3 sl' (fs.map edL)) :
    ∃ h', zbs F (fnV n_K) [gV st lb sl, gV st' lb' sl'] h = some (.bool (chk st lb es && chk st' lb' fs && decide (lb = lb')), h') ∧ Fr h h' := by
  obtain ⟨h2, eh2⟩ : ∃ h2, h2 = (h.new (.cells (gL st lb sl) 0)).new (.cells (gL st' lb' sl') 0) := ⟨_, rfl⟩
  have hf2 : Fr h h2 := by rw [eh2]; exact (Fr.new _ _).newR _
  have hn2 : h2.next = h.next + 2 := by rw [eh2]; simp
  have g0 : h2.get h.next = some (.cells (gL st lb sl) 0) := by rw [eh2]; simp (disch := omega)
  have g1 : h2.get (h.next + 1) = some (.cells (gL st' lb' sl') 0) := by rw [eh2]; simp (disch := omega)
  have hv := hrow.slvM
  have hv' := hrow'.slvM
  obtain ⟨h3, e3, hf3⟩ := zcH st lb sl es h2 (hrow.fr hf2)
  have hfn3 := hf3.next
  have g03 := (hf3.get _ (by omega)).trans g0
  have g13 := (hf3.get _ (by omega)).trans g1
  cases hc : chk st lb es with
  | false =>
    rw [hc] at e3
    refine ⟨h3, zbi F_K 2 (by decide) ?_, hf2.trans hf3⟩
    rw [s_K]
    simp (disch := first | omega | (simp only [za, zb]; done) | (simp only [za, zb]; omega)) [hv.clean, hv.take, hv'.clean, hv'.take, ← eh2, g0, g1, e3, erk]
  | true =>
    rw [hc] at e3
    obtain ⟨h4, e4, hf4⟩ := zcH st' lb' sl' fs h3 ((hrow'.fr hf2).fr hf3)
    have hfn4 := hf4.next
    have g04 := (hf4.get _ (by omega)).trans g03
    have g14 := (hf4.get _ (by omega)).trans g13
    refine ⟨h4, zbi F_K 2 (by decide) ?_, (hf2.trans hf3).trans hf4⟩
    rw [s_K]
    cases hc' : chk st' lb' fs with
    | false =>
      rw [hc'] at e4
      simp (disch := first | omega | (simp only [za, zb]; done) | (simp only [za, zb]; omega)) [hv.clean, hv.take, hv'.clean, hv'.take, ← eh2, g0, g1, e3, erk, g13, e4]
    | true =>
      rw [hc'] at e4
      simp (disch := first | omega | (simp only [za, zb]; done) | (simp only [za, zb]; omega)) [hv.clean, hv.take, hv'.clean, hv'.take, ← eh2, g0, g1, e3, erk, g13, e4, g04, g14]
theorem appended_row {h : H} {sz : Nat} {v : Value} {rows : List (List Value)} (hr : Row h sz v rows) (hl : ∀ r ∈ rows, r.length = sz ∧ r.all zS = true) : zcm h sz v = some (rows.length, rows.flatten) := by
  cases hr with
  | nil => rfl
  | hole => rfl
  | @cells b off cap e cs rows hlt hg hrd hcap =>
    by_cases hz : rows = []
    · subst hz; rfl
    have hz' : ¬ Nat.beq rows.length 0 = true := fun e => hz (List.eq_nil_of_length_eq_zero (Nat.eq_of_beq_eq_true e))
    show (if Nat.beq rows.length 0 = true then some (0, []) else (h.readN b off (rows.length * sz)).map _) = _
    rw [if_neg hz', readN_of hg]
    have key : ∀ (rows : List (List Value)) (off : Nat), (∀ r ∈ rows, r.length = sz ∧ r.all zS = true) → (∀ i r, rows[i]? = some r → zU sz (zby (off + i * sz) cs) = some r) → zU (rows.length * sz) (zby off cs) = some rows.flatten := by
      intro rows
      induction rows with
      | nil => intro off _ _; simp [takeC_z]
      | cons r rows ih =>
        intro off hl hrd
        have h0 := hrd 0 r rfl
        rw [Nat.zero_mul, Nat.add_zero] at h0
        have h1 := ih (off + sz) (fun x hx => hl x (by simp [hx])) (fun i x hx => by
          have := hrd (i + 1) x (by simpa using hx)
          rwa [Nat.succ_mul, Nat.add_comm (i * sz) sz, ← Nat.add_assoc] at this)
        have hr := hl r (by simp)
        have t0 := (zeM h0).1
        have t1 := (zeM h1).1
        rw [zfz, zfU] at t0 t1
        split at t0
        · split at t1
          · rename_i l0 l1
            rw [List.flatten_cons, List.length_cons, Nat.succ_mul]
            have e0 := Option.some.inj t0
            have e1 := Option.some.inj t1
            refine takeC_of ?_ ?_
            · rw [zfz, zfU, if_pos (by rw [List.length_drop] at *; omega)]
              congr 1
              rw [Nat.add_comm, List.take_add, e0, List.drop_drop, e1]
            · rw [List.all_append, hr.2, zgk (fun x hx => (hl x (by simp [hx])).2)]; rfl
          · cases t1
        · cases t0
    rw [key rows off hl hrd]; rfl
theorem clone_ok (es : List Ed) (hsz : es.length ≤ 100000) (sl : Value) (h : H) (hrow : Row h 3 sl (es.map edL)) {P : Value → H → Prop} (hP : ∀ h' v ob, Fr h h' → Grow h' 3 v (es.map edL) ob → (∀ q, ob = some q → h.next ≤ q) → P v h') :
    Ret F (fnV n_m) [sl] h P := by
  refine Ret.fn F_m 1 (by decide) ?_
  rw [s_m]
  have hnil : ∀ a b h, vBin .eql .slice (.slice none a b) (.slice none 0 0) h = some (.bool true, h) := fun a b h => rfl
  have hsome : ∀ a n c h, vBin .eql .slice (.slice (some a) n c) (.slice none 0 0) h = some (.bool false, h) := fun a n c h => rfl
  have hapx := appended_row (h := h.new (.cells [] 0)) (hrow.fr (Fr.new h (.cells [] 0))) (fun r hr => by obtain ⟨x, _, rfl⟩ := List.mem_map.1 hr; exact ⟨rfl, rfl⟩)
  obtain ⟨base, c, hsl⟩ := hrow.lenM
  cases hb : base with
  | none =>
    rw [hb] at hsl; subst hsl
    have hes : es = [] := by
      generalize hg : es.map edL = rows at hrow
      generalize hvv : (Value.slice none es.length c) = vv at hrow
      cases hrow with
      | nil => simpa using hg
      | hole => cases hvv
      | cells => cases hvv
    subst hes
    refine OkV.eq (OkV.val (hP h (.slice none 0 0) none (.refl _) .nil (by simp))) ?_
    simp (disch := first | omega | (simp only [za, zb]; done) | (simp only [za, zb]; omega)) [hnil]
  | some a =>
    rw [hb] at hsl; subst hsl
    have hfull : Grow (h.new (.cells [] 0)) 3 (.slice (some ⟨h.next, 0, none⟩) 0 0) [] (some h.next) := Grow.full (b := h.next) (e := 0) (rows := []) (by simp) (by simp) (by simp) (by decide)
    by_cases hnil' : es = []
    · subst hnil'
      refine OkV.eq (OkV.val (hP (h.new (.cells [] 0)) (.slice (some ⟨h.next, 0, none⟩) 0 0) (some h.next) (.new _ _) hfull (fun q e => by cases e; exact Nat.le_refl _))) ?_
      have hz : ∀ (x : Value) (h' : H) (nw : List Value), zcm h' 3 x = some (0, nw) → bltV h' (.append 3 24) [.slice (some ⟨h.next, 0, none⟩) 0 0, x] = some (.slice (some ⟨h.next, 0, none⟩) 0 0, h') := by
        intro x h' nw e
        show (zcm h' 3 x).bind _ = _
        rw [e]; rfl
      simp (disch := first | omega | (simp only [za, zb]; done) | (simp only [za, zb]; omega)) [hsome, zp, zl]
      have hz' := hz _ _ _ hapx
      rw [List.length_nil] at hz'
      rw [hz']
      simp (disch := first | omega | (simp only [za, zb]; done) | (simp only [za, zb]; omega)) []
    · obtain ⟨h2, v', ea, hg2, hn2, hf2⟩ := ziz (bytes := 24) (news := es.map edL) (by omega) (by decide) hfull (by simpa using hnil') (by rw [hapx]) (by
        rw [List.all_flatten]
        refine List.all_eq_true.2 fun r hr => ?_
        obtain ⟨x, _, rfl⟩ := List.mem_map.1 hr
        rfl) (fun r hr => by obtain ⟨x, _, rfl⟩ := List.mem_map.1 hr; exact ⟨rfl, rfl⟩) (by simp; omega)
      simp only [za] at hn2 hg2
      rw [List.nil_append] at hg2
      refine OkV.eq (OkV.val (hP h2 v' (some (h.next + 1)) ⟨by omega, fun i hi => (hf2.get _ (by simp; omega) (by simp; omega)).trans (zbV (by omega))⟩ hg2 (fun q e => by cases e; omega))) ?_
      simp (disch := first | omega | (simp only [za, zb]; done) | (simp only [za, zb]; omega)) [hsome, zp, zl]
      rw [ea]
      simp (disch := first | omega | (simp only [za, zb]; done) | (simp only [za, zb]; omega)) []
def shE (N : Nat) (x : Ed) : Ed := (x.1 + N, x.2.1 + N, x.2.2)
def zcv (N : Nat) (es fs : List Ed) : List Ed := es ++ fs.map (shE N)
theorem alike1 (N M : Nat) (hN : N ≤ 1000) (hM : M ≤ 1000) (lb lb' : Int) (es fs : List Ed) (hel : es.length ≤ 1000) (hfl : fs.length ≤ 1000) (hfin : inB (M : Int) fs) (sl sl' : Value) (q po : Nat) (h0 : H) (hrow : Row h0 3 sl' (fs.map edL)) (hsl : ∀ b o n c, sl' = .slice (some ⟨b, o, none⟩) n c → b < q) (hgg : h0.get q = some (.cells (gL (N : Int) lb sl) 0)) (hq : q < po) (hpo : po < h0.next) (lo : Nat) (hlo : q < lo) (hlo' : lo ≤ po) {P : Value → H → Prop}
    (hP : ∀ h' v ob, FrD (fun j => lo ≤ j) h0 h' → h'.get po = some (.cells [.int .i64 ((N : Int) + M), .int .i64 lb, v] 0) → Grow h' 3 v ((zcv N es fs).map edL) ob → OkV (sh (rI F) zg2 (K_w_0 (rI F)) (setL [p2, p5] [ptr q, ptr po]) h') P) :
    ∀ (k i : Nat) (h : H) (v : Value) (ob : Option Nat), i + k = fs.length → FrD (fun j => lo ≤ j) h0 h → h.get po = some (.cells [.int .i64 ((N : Int) + M), .int .i64 lb, v] 0) → Grow h 3 v ((zcv N es (fs.take i)).map edL) ob → (∀ b, ob = some b → lo ≤ b ∧ b ≠ po) →
    OkV (sh (rI F) zg1 (K_w_1 (rI F)) (setL [p2, p5, p22, p23, p24] [ptr q, ptr po, sl', .int .i64 (fs.length : Int), .int .i64 (i : Int)]) h) P := by
  intro k
  induction k with
  | zero =>
    intro i h v ob hi hf hgp hg hob
    have e : i = fs.length := by omega
    subst e
    rw [List.take_length] at hg
    rw [s_w_1]
    simp (disch := first | omega | (simp only [za, zb]; done) | (simp only [za, zb]; omega)) []
    exact hP h v ob hf hgp hg
  | succ k ih =>
    intro i h v ob hi hf hgp hg hob
    have hil : i < fs.length := by omega
    have hfn := hf.next
    have hx : (fs.map edL)[i]? = some (edL fs[i]) := by simp [hil]
    have htk : fs.take (i + 1) = fs.take i ++ [fs[i]] := by rw [List.take_add_one, List.getElem?_eq_getElem hil]; rfl
    have hxin := hfin _ (List.getElem_mem hil)
    obtain ⟨b, o, cs, e, hvi, hb, hgi, htc⟩ := (hrow.frD hf (fun b o n c e => by have := hsl b o n c e; omega)).index hx
    generalize fs[i] = x at *
    have hv := hg.slv
    have gq := (hf.get _ (by omega) (by omega)).trans hgg
    obtain ⟨h2, eh2⟩ : ∃ h2, h2 = (h.new (.cells (edL x) 0)).new (.cells (edL (shE N x)) 0) := ⟨_, rfl⟩
    have hf2 : Fr h h2 := by rw [eh2]; exact (Fr.new _ _).newR _
    have hn2 : h2.next = h.next + 2 := by rw [eh2]; simp
    obtain ⟨h3, v', ea, hg3, hn3, hf3⟩ := zcL (h := h2) (sz := 3) (bytes := 24) (r := edL (shE N x)) (b := h.next + 1) (e := 0) (by omega) (by decide) (hg.fr hf2) (by rw [eh2]; simp) rfl rfl rfl (by
      rw [List.length_map]; unfold zcv; rw [List.length_append, List.length_map, List.length_take]; omega)
    have hv3 := hg3.slv
    have gpo3 : h3.get po = some (.cells [.int .i64 ((N : Int) + M), .int .i64 lb, v] 0) := by
      rw [hf3.get _ (by omega) (fun e => (hob _ e).2 rfl), hf2.get _ (by omega)]; exact hgp
    have := ih (i + 1) (h3.put po (.cells [.int .i64 ((N : Int) + M), .int .i64 lb, v'] 0)) v' (some h2.next) (by omega) ⟨by simp; omega, fun j hj hd => by
        rw [zo (by omega), hf3.get _ (by omega) (fun e => hd (hob _ e).1), hf2.get _ (by omega)]; exact hf.get _ hj hd⟩ (zw rfl) (by
        have : zcv N es (fs.take (i + 1)) = zcv N es (fs.take i) ++ [shE N x] := by
          unfold zcv; rw [htk, List.map_append, List.append_assoc]; rfl
        rw [this, List.map_append]
        exact hg3.frD ((FrD.refl (fun j => j = po) _).put (.inr rfl) _) (fun b e => by cases e; omega)) (fun b e => by cases e; omega)
    rw [s_w_1]
    refine OkV.eq (this.lp (l_w_1 F _ _ _ _ _ _)) ?_
    obtain ⟨x1, x2, x3⟩ := x
    simp only at hxin
    simp only [shE] at eh2 ea gpo3
    simp (disch := first | omega | (simp only [za, zb]; done) | (simp only [za, zb]; omega)) [hil, hvi, hgi, htc, hgp, hv.take, hv.one, gq, zp, zl, zN]
    rw [← eh2, ea]
    simp (disch := first | omega | (simp only [za, zb]; done) | (simp only [za, zb]; omega)) [gpo3, hv3.cells, hv3.cell, zN]
end Go.Ideal.J
namespace Go.Ideal.J
open Go Go.Ideal
theorem alike_ok (N M : Nat) (hN : N ≤ 60) (hM : M ≤ 60) (lb lb' : Int) (es fs : List Ed) (hel : es.length ≤ 400) (hfl : fs.length ≤ 400) (hein : inB (N : Int) es) (hfin : inB (M : Int) fs) (hes : zbu es) (hfs : zbu fs) (sl sl' : Value) (h : H) (hrow : Row h 3 sl (es.map edL)) (hrow' : Row h 3 sl' (fs.map edL)) {P : Value → H → Prop}
    (hP : ∀ h' k, Fr h h' → fnd (rN (zcv N es fs) (N + M) k) (zcv N es fs) ((k : Int) + 1) (N + M) = [] → P (.bool (rN (zcv N es fs) (N + M) k 0 (N : Int)).isNone) h') :
    Ret F (fnV n_w) [gV (N : Int) lb sl, gV (M : Int) lb' sl'] h P := by
  refine Ret.fn F_w 2 (by decide) ?_
  rw [s_w]
  have hv := hrow.slvM
  have hv' := hrow'.slvM
  obtain ⟨h2, eh2⟩ : ∃ h2, h2 = (h.new (.cells (gL (N : Int) lb sl) 0)).new (.cells (gL (M : Int) lb' sl') 0) := ⟨_, rfl⟩
  have hf2 : Fr h h2 := by rw [eh2]; exact (Fr.new _ _).newR _
  have hn2 : h2.next = h.next + 2 := by rw [eh2]; simp
  have g0 : h2.get h.next = some (.cells (gL (N : Int) lb sl) 0) := by rw [eh2]; simp (disch := omega)
  have g1 : h2.get (h.next + 1) = some (.cells (gL (M : Int) lb' sl') 0) := by rw [eh2]; simp (disch := omega)
  simp (disch := first | omega | (simp only [za, zb]; done) | (simp only [za, zb]; omega)) [hv.clean, hv.take, hv'.clean, hv'.take]
  rw [← eh2]
  refine OkV.call (clone_ok es (by omega) sl h2 (hrow.fr hf2) (P := fun v h' => ∃ ob, Fr h2 h' ∧ Grow h' 3 v (es.map edL) ob ∧ ∀ q, ob = some q → h2.next ≤ q) (fun h' v ob q1 q2 q3 => ⟨ob, q1, q2, q3⟩)) ?_
  rintro v h3 ⟨ob, hf3, hg3, hob3⟩
  have hfn3 := hf3.next
  have hv3 := hg3.slvM
  have g03 := (hf3.get _ (by omega)).trans g0
  have g13 := (hf3.get _ (by omega)).trans g1
  obtain ⟨h4, eh4⟩ : ∃ h4, h4 = h3.new (.cells [.int .i64 ((N : Int) + M), .int .i64 lb, v] 0) := ⟨_, rfl⟩
  have hf4 : Fr h3 h4 := by rw [eh4]; exact Fr.new _ _
  have hn4 : h4.next = h3.next + 1 := by rw [eh4]; simp
  have g04 := (hf4.get _ (by omega)).trans g03
  have g14 := (hf4.get _ (by omega)).trans g13
  have gp4 : h4.get h3.next = some (.cells [.int .i64 ((N : Int) + M), .int .i64 lb, v] 0) := by rw [eh4]; simp
  have hobl : ∀ q, ob = some q → q < h3.next := fun q e => by subst e; exact hg3.lt
  have eNM : ((N : Int) + M) = ((N + M : Nat) : Int) := by omega
  have := alike1 N M (by omega) (by omega) lb lb' es fs (by omega) (by omega) hfin sl sl' h.next h3.next h4 (((hrow'.fr hf2).fr hf3).fr hf4) (fun b o n c e => hrow'.lt e) g04 (by omega) (by omega) h2.next (by omega) (by omega) (P := P)
    (fun h5 v5 ob5 hf5 gp5 hg5 => by
      have hfn5 := hf5.next
      have hv5 := hg5.slvM
      have g05 := (hf5.get _ (by omega) (by omega)).trans g04
      have hsrt : zbu (zcv N es fs) := by
        unfold zcv zbu
        rw [List.pairwise_append]
        refine ⟨hes, ?_, ?_⟩
        · rw [List.pairwise_map]
          exact hfs.imp fun h => by simp only [shE]; omega
        · intro x hx y hy
          obtain ⟨z, hz, rfl⟩ := List.mem_map.1 hy
          have := hein x hx; have := hfin z hz
          simp only [shE]; omega
      rw [s_w_0]
      simp (disch := first | omega | (simp only [za, zb]; done) | (simp only [za, zb]; omega)) [gp5, hv5.clean, hv5.take, hv5.eqc]
      have hap := apart_ok (zcv N es fs) hsrt (by unfold zcv; rw [List.length_append, List.length_map]; omega) (N + M) (by omega) lb v5 h5 (hg5.row (by omega)) (P := fun u h' => ∃ m k, u = .map (some m) ∧ Fr h5 h' ∧ MapM h' m (rV (rN (zcv N es fs) (N + M) k)) ∧ fnd (rN (zcv N es fs) (N + M) k) (zcv N es fs) ((k : Int) + 1) (N + M) = []) (fun h' m k q1 q2 q3 q4 q5 => ⟨m, k, rfl, q1, q4, q5⟩)
      rw [← eNM] at hap
      refine OkV.call hap ?_
      rintro u h6 ⟨m, k, rfl, hf6, hm6, hk6⟩
      have hfn6 := hf6.next
      have g06 := (hf6.get _ (by omega)).trans g05
      have hfr : Fr h h6 := ⟨by omega, fun i hi => by
        rw [hf6.get _ (by omega), hf5.get _ (by omega) (by omega), hf4.get _ (by omega), hf3.get _ (by omega), hf2.get _ hi]⟩
      have hlk := look_ok hm6 (.int .i64 0) 0 (N : Int)
      have hb : (rV (rN (zcv N es fs) (N + M) k) 0 (N : Int)).isSome = !(rN (zcv N es fs) (N + M) k 0 (N : Int)).isNone := by
        simp only [rV]
        cases rN (zcv N es fs) (N + M) k 0 (N : Int) <;> rfl
      rw [hb] at hlk
      refine OkV.eq (OkV.val (hP h6 k hfr hk6)) ?_
      simp (disch := first | omega | (simp only [za, zb]; done) | (simp only [za, zb]; omega)) [g05, g06, zp, hlk]) fs.length 0 h4 v ob (by omega) (.refl _ _) gp4 (by simpa [zcv] using hg3.fr hf4) (fun b e => ⟨by have := hob3 b e; omega, by have := hobl b e; omega⟩)
  refine OkV.eq (this.lp (l_w_1 F _ _ _ _ _ _)) ?_
  have hw : -9223372036854775808 ≤ (N : Int) + M := by omega
  have hw2 : (N : Int) + M ≤ 9223372036854775807 := by omega
  simp (disch := first | omega | (simp only [za, zb]; done) | (simp only [za, zb]; omega)) [g03, g13, hv.eq, hv.one, hv.take, zN hw hw2, zp, hv3.cells, hv3.cell, hv3.clean, hv3.take, ← eh4, g14, hv'.take, hv'.one, hv'.len]
end Go.Ideal.J
namespace Go.Ideal.J
open Go Go.Ideal
def IsBis (es : List Ed) (R : Int → Int → Prop) : Prop :=
  ∀ a b, R a b → (∀ x ∈ outs es a, ∃ t ∈ tos es b x.2.2, R x.2.1 t) ∧ (∀ y ∈ outs es b, ∃ t ∈ tos es a y.2.2, R t y.2.1)
def Bis (es : List Ed) (a b : Int) : Prop := ∃ R, IsBis es R ∧ R a b
theorem Bis.symm {es : List Ed} {a b : Int} (h : Bis es a b) : Bis es b a := by
  obtain ⟨R, hR, h⟩ := h
  exact ⟨fun x y => R y x, fun x y hxy => ⟨(hR y x hxy).2, (hR y x hxy).1⟩, h⟩
theorem zeg (es : List Ed) : IsBis es (Bis es) := by
  rintro a b ⟨R, hR, h⟩
  obtain ⟨h1, h2⟩ := hR a b h
  refine ⟨fun x hx => ?_, fun y hy => ?_⟩
  · obtain ⟨t, ht, hr⟩ := h1 x hx; exact ⟨t, ht, R, hR, hr⟩
  · obtain ⟨t, ht, hr⟩ := h2 y hy; exact ⟨t, ht, R, hR, hr⟩
theorem zbl {es : List Ed} {a : Int} {x : Ed} : x ∈ outs es a ↔ x ∈ es ∧ x.1 = a := by
  unfold outs; rw [List.mem_filter]; simp
theorem zfm {es : List Ed} {N : Nat} : ∀ {k : Nat} {a b : Int} {v : Int}, rN es N k a b = some v → v ≤ k ∧ a ≠ b ∧ ¬ Bis es a b
  | 0, a, b, v, h => by cases h
  | k + 1, a, b, v, h => by
    have h : zc9 (rN es N k) ((k : Int) + 1) (fnd (rN es N k) es ((k : Int) + 1) N) a b = some v := h
    rw [zbE] at h
    have step : ∀ a b : Int, (a, b) ∈ fnd (rN es N k) es ((k : Int) + 1) N → a ≠ b ∧ ¬ Bis es a b := by
      intro a b hm
      obtain ⟨c, d, e, h1, h2, h3⟩ := zgd.1 hm
      cases e
      refine ⟨by omega, fun hb => ?_⟩
      unfold zdZ at h3
      simp only [Bool.and_eq_true, Bool.or_eq_true] at h3
      have key : ∀ p q : Int, (zbp (rN es N k) es p q ((k : Int) + 1 - 1)).isSome = true → ¬ Bis es p q := by
        intro p q hf hb
        obtain ⟨x, hx⟩ := Option.isSome_iff_exists.1 hf
        have h4 := List.find?_some hx
        have h5 := List.mem_of_find?_eq_some hx
        obtain ⟨t, ht, hbt⟩ := (zeg es p q hb).1 x h5
        have h6 := List.all_eq_true.1 h4 t ht
        unfold zbR at h6
        cases hr : rN es N k x.2.1 t with
        | none => rw [hr] at h6; simp at h6
        | some u => exact (zfm hr).2.2 hbt
      rcases h3.2 with h | h
      · exact key _ _ h hb
      · exact key _ _ h hb.symm
    split at h
    · rename_i hm
      cases h
      refine ⟨by omega, ?_⟩
      rcases hm with hm | hm
      · exact step a b hm
      · obtain ⟨h1, h2⟩ := step b a hm
        exact ⟨fun e => h1 e.symm, fun hb => h2 hb.symm⟩
    · obtain ⟨h1, h2⟩ := zfm h
      exact ⟨by omega, h2⟩
theorem zga {es : List Ed} {N : Nat} : ∀ (k : Nat) (a b : Int), rN es N k a b = rN es N k b a
  | 0, _, _ => rfl
  | k + 1, a, b => by
    show zc9 _ _ _ a b = zc9 _ _ _ b a
    rw [zbE, zbE, zga k a b]
    congr 1
    exact propext Or.comm
theorem rN_none {es : List Ed} {N k : Nat} (hin : inB (N : Int) es) (hk : fnd (rN es N k) es ((k : Int) + 1) N = []) {a b : Int} (ha : 0 ≤ a ∧ a < N) (hb : 0 ≤ b ∧ b < N) : (rN es N k a b).isNone = true ↔ Bis es a b := by
  constructor
  · intro h0
    refine ⟨fun a b => 0 ≤ a ∧ a < N ∧ 0 ≤ b ∧ b < N ∧ rN es N k a b = none, ?_, ha.1, ha.2, hb.1, hb.2, by simpa using h0⟩
    have half : ∀ a b : Int, 0 ≤ a ∧ a < N ∧ 0 ≤ b ∧ b < N ∧ rN es N k a b = none → zbp (rN es N k) es a b k = none → ∀ x ∈ outs es a, ∃ t ∈ tos es b x.2.2, 0 ≤ x.2.1 ∧ x.2.1 < N ∧ 0 ≤ t ∧ t < N ∧ rN es N k x.2.1 t = none := by
      intro a b hab hf x hx
      have h1 := List.find?_eq_none.1 hf x hx
      have h2 : ∃ t ∈ tos es b x.2.2, zbR (rN es N k) k x.2.1 t = false := by
        rw [Bool.not_eq_true] at h1
        unfold zgY at h1
        rw [List.all_eq_false] at h1
        obtain ⟨t, ht, hh⟩ := h1
        exact ⟨t, ht, by simpa using hh⟩
      obtain ⟨t, ht, htt⟩ := h2
      have hxi := hin x (zbl.1 hx).1
      obtain ⟨y, hy, _, _, rfl⟩ := zcf.1 ht
      have hyi := hin y hy
      refine ⟨_, ht, hxi.2.2.1, hxi.2.2.2, hyi.2.2.1, hyi.2.2.2, ?_⟩
      cases hr : rN es N k x.2.1 y.2.1 with
      | none => rfl
      | some u =>
        obtain ⟨h3, h4, _⟩ := zfm hr
        unfold zbR at htt
        rw [hr] at htt
        simp [h3, h4] at htt
    have first_nil : ∀ a b : Int, 0 ≤ a ∧ a < N ∧ 0 ≤ b ∧ b < N ∧ rN es N k a b = none → a ≠ b → zbp (rN es N k) es a b k = none ∧ zbp (rN es N k) es b a k = none := by
      intro a b ⟨h1, h2, h3, h4, h5⟩ hne
      obtain ⟨a, rfl⟩ := Int.eq_ofNat_of_zero_le h1
      obtain ⟨b, rfl⟩ := Int.eq_ofNat_of_zero_le h3
      have ek : ((k : Int) + 1 - 1) = k := by omega
      have main : ∀ a b : Nat, a < N → b < a → rN es N k a b = none → zbp (rN es N k) es a b k = none ∧ zbp (rN es N k) es b a k = none := by
        intro a b h2 hlt h5
        have hc : zdZ (rN es N k) es ((k : Int) + 1) a b = false := by
          rw [Bool.eq_false_iff]
          intro hc
          have : ((a : Int), (b : Int)) ∈ fnd (rN es N k) es ((k : Int) + 1) N := zgd.2 ⟨a, b, rfl, h2, hlt, hc⟩
          rw [hk] at this; cases this
        unfold zdZ at hc
        rw [h5, ek] at hc
        simp at hc
        exact hc
      rcases Nat.lt_or_gt_of_ne (fun e : a = b => hne (by rw [e])) with h | h
      · have := main b a (by omega) h (by rw [zga]; exact h5)
        exact ⟨this.2, this.1⟩
      · exact main a b (by omega) h h5
    rintro a b hab
    by_cases hne : a = b
    · subst hne
      refine ⟨fun x hx => ?_, fun x hx => ?_⟩
      · have hx' := zbl.1 hx
        have hxi := hin x hx'.1
        refine ⟨x.2.1, zcf.2 ⟨x, hx'.1, hx'.2, rfl, rfl⟩, hxi.2.2.1, hxi.2.2.2, hxi.2.2.1, hxi.2.2.2, ?_⟩
        cases hr : rN es N k x.2.1 x.2.1 with
        | none => rfl
        | some u => exact absurd rfl (zfm hr).2.1
      · have hx' := zbl.1 hx
        have hxi := hin x hx'.1
        refine ⟨x.2.1, zcf.2 ⟨x, hx'.1, hx'.2, rfl, rfl⟩, hxi.2.2.1, hxi.2.2.2, hxi.2.2.1, hxi.2.2.2, ?_⟩
        cases hr : rN es N k x.2.1 x.2.1 with
        | none => rfl
        | some u => exact absurd rfl (zfm hr).2.1
    · obtain ⟨f1, f2⟩ := first_nil a b hab hne
      refine ⟨half a b hab f1, fun y hy => ?_⟩
      obtain ⟨t, ht, h1, h2, h3, h4, h5⟩ := half b a ⟨hab.2.2.1, hab.2.2.2.1, hab.1, hab.2.1, by rw [zga]; exact hab.2.2.2.2⟩ f2 y hy
      exact ⟨t, ht, h3, h4, h1, h2, by rw [zga]; exact h5⟩
  · intro hb'
    cases hr : rN es N k a b with
    | none => rfl
    | some v => exact absurd hb' (zfm hr).2.2
open Classical in
theorem jAlike_ok (st lb st' lb' : Int) (es fs : List Ed) (sl sl' : Value) (h : H) (hrow : Row h 3 sl (es.map edL)) (hrow' : Row h 3 sl' (fs.map edL)) {P : Value → H → Prop}
    (hP1 : (chk st lb es && chk st' lb' fs && decide (lb = lb')) = false → ∀ h', Fr h h' → P (zea (.bool false) (.int .i64 2)) h')
    (hP2 : (chk st lb es && chk st' lb' fs && decide (lb = lb')) = true → ∀ h', Fr h h' → P (zea (.bool (decide (Bis (zcv st.toNat es fs) 0 st))) (.int .i64 0)) h') :
    Ret F (fnV n_J) [gV st lb sl, gV st' lb' sl'] h P := by
  refine Ret.fn F_J 2 (by decide) ?_
  rw [s_J]
  have hv := hrow.slvM
  have hv' := hrow'.slvM
  obtain ⟨h2, eh2⟩ : ∃ h2, h2 = (h.new (.cells (gL st lb sl) 0)).new (.cells (gL st' lb' sl') 0) := ⟨_, rfl⟩
  have hf2 : Fr h h2 := by rw [eh2]; exact (Fr.new _ _).newR _
  have hn2 : h2.next = h.next + 2 := by rw [eh2]; simp
  have g0 : h2.get h.next = some (.cells (gL st lb sl) 0) := by rw [eh2]; simp (disch := omega)
  have g1 : h2.get (h.next + 1) = some (.cells (gL st' lb' sl') 0) := by rw [eh2]; simp (disch := omega)
  obtain ⟨h3, e3, hf3⟩ := both_ok st lb st' lb' es fs sl sl' h2 (hrow.fr hf2) (hrow'.fr hf2)
  have hfn3 := hf3.next
  have g03 := (hf3.get _ (by omega)).trans g0
  have g13 := (hf3.get _ (by omega)).trans g1
  cases hc : (chk st lb es && chk st' lb' fs && decide (lb = lb')) with
  | false =>
    rw [hc] at e3
    refine OkV.eq (OkV.val (hP1 hc h3 (hf2.trans hf3))) ?_
    simp (disch := first | omega | (simp only [za, zb]; done) | (simp only [za, zb]; omega)) [hv.clean, hv.take, hv'.clean, hv'.take, ← eh2, g0, g1, e3]
  | true =>
    rw [hc] at e3
    have hc' := hc
    simp only [Bool.and_eq_true, decide_eq_true_eq] at hc'
    have f := (zgp st lb es).1 hc'.1.1
    have f' := (zgp st' lb' fs).1 hc'.1.2
    obtain ⟨N, rfl⟩ := Int.eq_ofNat_of_zero_le (show 0 ≤ st by have := f.st1; omega)
    obtain ⟨M, rfl⟩ := Int.eq_ofNat_of_zero_le (show 0 ≤ st' by have := f'.st1; omega)
    have a1 := f.st1; have a2 := f.st2; have a3 := f'.st1; have a4 := f'.st2
    simp (disch := first | omega | (simp only [za, zb]; done) | (simp only [za, zb]; omega)) [hv.clean, hv.take, hv'.clean, hv'.take, ← eh2, g0, g1, e3, g03, g13]
    refine OkV.call (alike_ok N M (by omega) (by omega) lb lb' es fs f.len f'.len f.inB f'.inB f.sortedF f'.sortedF sl sl' h3 ((hrow.fr hf2).fr hf3) ((hrow'.fr hf2).fr hf3) (P := fun v h' => v = .bool (decide (Bis (zcv N es fs) 0 (N : Int))) ∧ Fr h3 h') (fun h' k q1 q2 => ⟨?_, q1⟩)) ?_
    · congr 1
      have hin : inB ((N + M : Nat) : Int) (zcv N es fs) := by
        intro x hx
        rcases List.mem_append.1 hx with hx | hx
        · have := f.inB x hx; omega
        · obtain ⟨y, hy, rfl⟩ := List.mem_map.1 hx
          have := f'.inB y hy
          simp only [shE]; omega
      rw [Bool.eq_iff_iff, decide_eq_true_eq]
      exact rN_none hin q2 ⟨by omega, by omega⟩ ⟨by omega, by omega⟩
    · rintro v h' ⟨rfl, hf'⟩
      refine OkV.eq (OkV.val (hP2 hc h' ((hf2.trans hf3).trans hf'))) ?_
      simp (disch := first | omega | (simp only [za, zb]; done) | (simp only [za, zb]; omega)) []
end Go.Ideal.J
namespace Go.Ideal.J
open Go Go.Ideal
theorem Bis.refl (es : List Ed) (a : Int) : Bis es a a :=
  ⟨fun a b => a = b, fun a b e => by
    subst e
    refine ⟨fun x hx => ⟨x.2.1, ?_, rfl⟩, fun x hx => ⟨x.2.1, ?_, rfl⟩⟩ <;>
    · obtain ⟨h1, h2⟩ := zbl.1 hx
      exact zcf.2 ⟨x, h1, h2, rfl, rfl⟩, rfl⟩
theorem Bis.trans {es : List Ed} {a b c : Int} (h1 : Bis es a b) (h2 : Bis es b c) : Bis es a c := by
  refine ⟨fun a c => ∃ b, Bis es a b ∧ Bis es b c, ?_, b, h1, h2⟩
  rintro a c ⟨b, h1, h2⟩
  obtain ⟨p1, p2⟩ := zeg es a b h1
  obtain ⟨q1, q2⟩ := zeg es b c h2
  refine ⟨fun x hx => ?_, fun y hy => ?_⟩
  · obtain ⟨t, ht, r⟩ := p1 x hx
    obtain ⟨z, hz, e1, e2, rfl⟩ := zcf.1 ht
    obtain ⟨u, hu, s⟩ := q1 z (zbl.2 ⟨hz, e1⟩)
    rw [e2] at hu
    exact ⟨u, hu, z.2.1, r, s⟩
  · obtain ⟨t, ht, r⟩ := q2 y hy
    obtain ⟨z, hz, e1, e2, rfl⟩ := zcf.1 ht
    obtain ⟨u, hu, s⟩ := p2 z (zbl.2 ⟨hz, e1⟩)
    rw [e2] at hu
    exact ⟨u, hu, z.2.1, s, r⟩
def cls (B : Nat → Nat → Bool) : Nat → List Nat × List Nat
  | 0 => ([], [])
  | n + 1 => match (cls B n).2.findIdx? fun h => B h n with
    | some k => ((cls B n).1 ++ [k], (cls B n).2)
    | none => ((cls B n).1 ++ [(cls B n).2.length], (cls B n).2 ++ [n])
theorem cls_s (B : Nat → Nat → Bool) (n : Nat) : cls B (n + 1) = match (cls B n).2.findIdx? fun h => B h n with
    | some k => ((cls B n).1 ++ [k], (cls B n).2)
    | none => ((cls B n).1 ++ [(cls B n).2.length], (cls B n).2 ++ [n]) := rfl
structure Eqv (B : Nat → Nat → Bool) (N : Nat) : Prop where
  refl : ∀ a, a < N → B a a = true
  symm : ∀ a b, a < N → b < N → B a b = true → B b a = true
  trans : ∀ a b c, a < N → b < N → c < N → B a b = true → B b c = true → B a c = true
structure CI (B : Nat → Nat → Bool) (n : Nat) (c : List Nat × List Nat) : Prop where
  len : c.1.length = n
  hn : c.2.length ≤ n
  hd : ∀ (k h : Nat), c.2[k]? = some h → h < n
  ck : ∀ (i v : Nat), c.1[i]? = some v → v < c.2.length
  iff : ∀ (i v k h : Nat), c.1[i]? = some v → c.2[k]? = some h → (v = k ↔ B h i = true)
theorem zdC {α : Type} {l : List α} {a x : α} {i : Nat} (h : (l ++ [a])[i]? = some x) : (i < l.length ∧ l[i]? = some x) ∨ (i = l.length ∧ a = x) := by
  rcases Nat.lt_trichotomy i l.length with c | c | c
  · rw [List.getElem?_append_left c] at h; exact .inl ⟨c, h⟩
  · subst c; simp at h; exact .inr ⟨rfl, h⟩
  · rw [List.getElem?_eq_none (by simp; omega)] at h; cases h
theorem zde {α : Type} {p : α → Bool} : ∀ {l : List α} {k : Nat}, l.findIdx? p = some k → ∃ x, l[k]? = some x ∧ p x = true
  | [], k, h => by simp at h
  | a :: l, k, h => by
    rw [List.findIdx?_cons] at h
    split at h
    · rename_i c; cases h; exact ⟨a, rfl, c⟩
    · cases hq : l.findIdx? p with
      | none => rw [hq] at h; cases h
      | some j =>
        rw [hq] at h; cases h
        obtain ⟨x, h1, h2⟩ := zde hq
        exact ⟨x, by simpa using h1, h2⟩
theorem zei {α : Type} {p : α → Bool} : ∀ {l : List α}, l.findIdx? p = none → ∀ (k : Nat) (x : α), l[k]? = some x → p x = false
  | [], h, k, x, hk => by simp at hk
  | a :: l, h, k, x, hk => by
    rw [List.findIdx?_cons] at h
    split at h
    · cases h
    · rename_i c
      cases hq : l.findIdx? p with
      | some j => rw [hq] at h; cases h
      | none =>
        cases k with
        | zero => simp at hk; subst hk; simpa using c
        | succ k => exact zei hq k x (by simpa using hk)
theorem zjy {B : Nat → Nat → Bool} {N : Nat} (hB : Eqv B N) : ∀ n, n ≤ N → CI B n (cls B n)
  | 0, _ => ⟨rfl, Nat.le_refl _, by simp [cls], by simp [cls], by simp [cls]⟩
  | n + 1, hnN => by
    obtain ⟨c1, c2, c3, c4, c5⟩ := zjy hB n (by omega)
    rw [cls_s]
    cases hf : (cls B n).2.findIdx? fun h => B h n with
    | some k =>
      obtain ⟨h, hk, hb⟩ := zde hf
      have hkl : k < (cls B n).2.length := by
        rcases Nat.lt_or_ge k (cls B n).2.length with c | c
        · exact c
        · rw [List.getElem?_eq_none c] at hk; cases hk
      have hhn := c3 k h hk
      refine ⟨by simp [c1], by show (cls B n).2.length ≤ n + 1; omega, fun j x hj => by have := c3 j x hj; omega, fun i v hi => ?_, fun i v j g hi hj => ?_⟩
      · rcases zdC hi with ⟨_, hi⟩ | ⟨_, rfl⟩
        · exact c4 i v hi
        · exact hkl
      · have hgn := c3 j g hj
        rcases zdC hi with ⟨_, hi⟩ | ⟨e, rfl⟩
        · exact c5 i v j g hi hj
        · rw [c1] at e; subst e
          constructor
          · rintro rfl
            rw [hk] at hj; cases hj; exact hb
          · intro hg
            have hgh : B g h = true := hB.trans _ _ _ (by omega) (by omega) (by omega) hg (hB.symm _ _ (by omega) (by omega) hb)
            have hhl : h < (cls B i).1.length := by omega
            have e1 : (cls B i).1[h]? = some (cls B i).1[h] := List.getElem?_eq_getElem hhl
            have q1 := (c5 h _ j g e1 hj).2 hgh
            have q2 := (c5 h _ k h e1 hk).2 (hB.refl _ (by omega))
            omega
    | none =>
      have hno := zei hf
      refine ⟨by simp [c1], by simp; omega, fun j x hj => ?_, fun i v hi => ?_, fun i v j g hi hj => ?_⟩
      · rcases zdC hj with ⟨_, hj⟩ | ⟨_, rfl⟩
        · have := c3 j x hj; omega
        · omega
      · rcases zdC hi with ⟨_, hi⟩ | ⟨_, rfl⟩
        · have := c4 i v hi; simp; omega
        · simp
      · rcases zdC hi with ⟨il, hi⟩ | ⟨e, rfl⟩
        · rcases zdC hj with ⟨_, hj⟩ | ⟨e, rfl⟩
          · exact c5 i v j g hi hj
          · have hv := c4 i v hi
            constructor
            · omega
            · intro hb
              have e1 : (cls B n).2[v]? = some (cls B n).2[v] := List.getElem?_eq_getElem hv
              have h1 := (c5 i v v _ hi e1).1 rfl
              have h2 := c3 v _ e1
              have := hB.trans _ _ _ (by omega) (by omega) (by omega) h1 (hB.symm n i (by omega) (by omega) hb)
              rw [hno v _ e1] at this; cases this
        · rcases zdC hj with ⟨jl, hj⟩ | ⟨e', rfl⟩
          · rw [c1] at e; subst e
            have := hno j g hj
            constructor
            · omega
            · intro hb; rw [hb] at this; cases this
          · rw [c1] at e; subst e
            exact ⟨fun _ => hB.refl _ (by omega), fun _ => by omega⟩
theorem CI.iff2 {B : Nat → Nat → Bool} {N n : Nat} (hB : Eqv B N) {c : List Nat × List Nat} (h : CI B n c) (hn : n ≤ N) {i k v w : Nat} (hi : c.1[i]? = some v) (hk : c.1[k]? = some w) : v = w ↔ B i k = true := by
  have lt : ∀ {i v}, c.1[i]? = some v → i < n := fun {i v} hi => by
    rcases Nat.lt_or_ge i c.1.length with q | q
    · have := h.len; omega
    · rw [List.getElem?_eq_none q] at hi; cases hi
  have hin := lt hi; have hkn := lt hk
  have hv := h.ck i v hi
  have ev : c.2[v]? = some c.2[v] := List.getElem?_eq_getElem hv
  have hh := h.hd v _ ev
  have h1 := (h.iff i v v _ hi ev).1 rfl
  constructor
  · rintro rfl
    have h2 := (h.iff k v v _ hk ev).1 rfl
    exact hB.trans _ _ _ (by omega) (by omega) (by omega) (hB.symm _ _ (by omega) (by omega) h1) h2
  · intro hb
    exact ((h.iff k w v _ hk ev).2 (hB.trans _ _ _ (by omega) (by omega) (by omega) h1 hb)).symm
theorem cls_next {B : Nat → Nat → Bool} {N n : Nat} (hB : Eqv B N) (hn : n < N) :
    (∀ b, b < n → B b n = true → (cls B (n + 1)).1 = (cls B n).1 ++ [(cls B n).1.getD b 0] ∧ (cls B (n + 1)).2 = (cls B n).2) ∧
    ((∀ b, b < n → B b n = false) → (cls B (n + 1)).1 = (cls B n).1 ++ [(cls B n).2.length] ∧ (cls B (n + 1)).2 = (cls B n).2 ++ [n]) := by
  obtain ⟨c1, c2, c3, c4, c5⟩ := zjy hB n (by omega)
  constructor
  · intro b hb hbn
    have e1 : (cls B n).1[b]? = some (cls B n).1[b] := List.getElem?_eq_getElem (by omega)
    have hv := c4 b _ e1
    have ev : (cls B n).2[(cls B n).1[b]]? = some (cls B n).2[(cls B n).1[b]] := List.getElem?_eq_getElem hv
    have hh := c3 _ _ ev
    have h1 := (c5 b _ _ _ e1 ev).1 rfl
    have h2 := hB.trans _ _ _ (by omega) (by omega) (by omega) h1 hbn
    rw [cls_s]
    cases hf : (cls B n).2.findIdx? fun h => B h n with
    | none => rw [zei hf _ _ ev] at h2; cases h2
    | some k =>
      obtain ⟨h, hk, hb2⟩ := zde hf
      have hhn := c3 k h hk
      have : (cls B n).1[b] = k := (c5 b _ k h e1 hk).2 (hB.trans _ _ _ (by omega) (by omega) (by omega) hb2 (hB.symm _ _ (by omega) (by omega) hbn))
      refine ⟨?_, rfl⟩
      show (cls B n).1 ++ [k] = _
      rw [List.getD_eq_getElem?_getD, e1, ← this]; rfl
  · intro hno
    rw [cls_s]
    cases hf : (cls B n).2.findIdx? fun h => B h n with
    | none => exact ⟨rfl, rfl⟩
    | some k =>
      obtain ⟨h, hk, hb2⟩ := zde hf
      rw [hno h (c3 k h hk)] at hb2; cases hb2
def alk (es : List Ed) (N k : Nat) (a b : Nat) : Bool := (rN es N k (a : Int) (b : Int)).isNone
theorem zfs {es : List Ed} {N k : Nat} (hin : inB (N : Int) es) (hk : fnd (rN es N k) es ((k : Int) + 1) N = []) {a b : Nat} (ha : a < N) (hb : b < N) : alk es N k a b = true ↔ Bis es (a : Int) (b : Int) := rN_none hin hk ⟨by omega, by omega⟩ ⟨by omega, by omega⟩
theorem alk_eqv {es : List Ed} {N k : Nat} (hin : inB (N : Int) es) (hk : fnd (rN es N k) es ((k : Int) + 1) N = []) : Eqv (alk es N k) N :=
  ⟨fun a ha => (zfs hin hk ha ha).2 (Bis.refl _ _), fun a b ha hb h => (zfs hin hk hb ha).2 ((zfs hin hk ha hb).1 h).symm,
   fun a b c ha hb hc h1 h2 => (zfs hin hk ha hc).2 (((zfs hin hk ha hb).1 h1).trans ((zfs hin hk hb hc).1 h2))⟩
end Go.Ideal.J
namespace Go.Ideal.J
open Go Go.Ideal
theorem _root_.Go.Ideal.Grow.lt' {h : H} {sz : Nat} {v : Value} {rows : List (List Value)} {ob : Option Nat} (hg : Grow h sz v rows ob) {b : Nat} (e : ob = some b) : b < h.next := by subst e; exact hg.lt
abbrev natL (v : Nat) : List Value := [.int .i64 (v : Int)]
def CS (B : Nat → Nat → Bool) (lo n : Nat) (h : H) (ov hv : Value) : Prop :=
  ∃ ob1 ob2, Grow h 1 ov ((cls B n).1.map natL) ob1 ∧ Grow h 1 hv ((cls B n).2.map natL) ob2 ∧ (∀ q, ob1 = some q → lo ≤ q) ∧ (∀ q, ob2 = some q → lo ≤ q) ∧ ∀ q, ob1 = some q → ob2 ≠ some q
theorem CS.fr {B : Nat → Nat → Bool} {lo n : Nat} {h h' : H} {ov hv : Value} (c : CS B lo n h ov hv) (hf : Fr h h') : CS B lo n h' ov hv := by
  obtain ⟨a, b, h1, h2, h3⟩ := c
  exact ⟨a, b, h1.fr hf, h2.fr hf, h3⟩
theorem CS.z (B : Nat → Nat → Bool) (lo : Nat) (h : H) : CS B lo 0 h (.slice none 0 0) (.slice none 0 0) :=
  ⟨none, none, .nil, .nil, by simp, by simp, by simp⟩
theorem classes4 (es : List Ed) (N : Nat) (hN : N ≤ 200) (k m n : Nat) (hnN : n < N) (hin : inB (N : Int) es) (hk : fnd (rN es N k) es ((k : Int) + 1) N = []) (lo : Nat) (h0 : H) (hm : MapM h0 m (rV (rN es N k))) (hml : m < lo) (hlo : lo ≤ h0.next) (ov hv : Value) {P : Value → H → Prop}
    (hP : ∀ h' ov' hv', FrD (fun j => lo ≤ j) h0 h' → CS (alk es N k) lo (n + 1) h' ov' hv' → OkV (sh (rI F) zi4 (K_e_2 (rI F)) (setL [p3, p4, p5, p14, p15] [.map (some m), ov', hv', .int .i64 (N : Int), .int .i64 (n : Int)]) h') P) :
    ∀ (r j : Nat) (h : H), j + r = (cls (alk es N k) n).2.length → FrD (fun j => lo ≤ j) h0 h → CS (alk es N k) lo n h ov hv → (∀ i (g : Nat), i < j → (cls (alk es N k) n).2[i]? = some g → alk es N k g n = false) →
    OkV (sh (rI F) zg6 (K_e_4 (rI F)) (setL [p3, p4, p5, p6, p14, p15, p18, p19, p20] [.map (some m), ov, hv, .int .i64 (n : Int), .int .i64 (N : Int), .int .i64 (n : Int), hv, .int .i64 ((cls (alk es N k) n).2.length : Int), .int .i64 (j : Int)]) h) P := by
  have hB := alk_eqv hin hk
  have ci := zjy hB n (by omega)
  have cl1 := ci.len
  have cl2 := ci.hn
  intro r
  induction r with
  | zero =>
    intro j h hj hf hc hno
    have e : j = (cls (alk es N k) n).2.length := by omega
    subst e
    obtain ⟨ob1, ob2, g1, g2, b1, b2, b3⟩ := hc
    have hfn := hf.next
    have hnone := (cls_next hB hnN).2 (fun b hb => by
      have hh : (cls (alk es N k) n).1[b]? = some (cls (alk es N k) n).1[b] := List.getElem?_eq_getElem (by omega)
      have hv := ci.ck b _ hh
      have ev : (cls (alk es N k) n).2[(cls (alk es N k) n).1[b]]? = some (cls (alk es N k) n).2[(cls (alk es N k) n).1[b]] := List.getElem?_eq_getElem hv
      have h1 := (ci.iff b _ _ _ hh ev).1 rfl
      have h2 := ci.hd _ _ ev
      have h3 := hno _ _ hv ev
      rw [Bool.eq_false_iff]; intro hbn
      have := hB.trans _ _ _ (by omega) (by omega) (by omega) h1 hbn
      rw [h3] at this; cases this)
    rw [s_e_4]
    have sv2 := g2.slvM
    obtain ⟨h2, eh2⟩ : ∃ h2, h2 = h.new (.cells (natL (cls (alk es N k) n).2.length) 0) := ⟨_, rfl⟩
    have hf2 : Fr h h2 := by rw [eh2]; exact .new _ _
    have hn2 : h2.next = h.next + 1 := by rw [eh2]; simp
    obtain ⟨h3, ov', ea3, g13, hn3, hf3⟩ := zcL (h := h2) (sz := 1) (bytes := 8) (r := natL (cls (alk es N k) n).2.length) (b := h.next) (e := 0) (by omega) (by decide) (g1.fr hf2) (by rw [eh2]; simp) rfl rfl rfl (by rw [List.length_map]; omega)
    obtain ⟨h4, eh4⟩ : ∃ h4, h4 = h3.new (.cells (natL n) 0) := ⟨_, rfl⟩
    have hf4 : Fr h3 h4 := by rw [eh4]; exact .new _ _
    have hn4 : h4.next = h3.next + 1 := by rw [eh4]; simp
    obtain ⟨h5, hv', ea5, g25, hn5, hf5⟩ := zcL (h := h4) (sz := 1) (bytes := 8) (r := natL n) (b := h3.next) (e := 0) (by omega) (by decide) ((((g2.fr hf2).frD hf3 (fun b e1 e2 => b3 _ e2 e1))).fr hf4) (by rw [eh4]; simp) rfl rfl rfl (by rw [List.length_map]; omega)
    have := hP h5 ov' hv' ⟨by omega, fun i hi hd => by
        rw [hf5.get _ (by omega) (fun e => hd (b2 _ e)), hf4.get _ (by omega), hf3.get _ (by omega) (fun e => hd (b1 _ e)), hf2.get _ (by omega)]
        exact hf.get _ hi hd⟩
      ⟨some h2.next, some h4.next, by
        rw [hnone.1, List.map_append]
        exact (g13.fr hf4).frD hf5 (fun b e1 e2 => by have := g2.lt' e2; have e1 := Option.some.inj e1; omega), by
        rw [hnone.2, List.map_append]; exact g25, fun q e => by cases e; omega, fun q e => by cases e; omega, fun q e e' => by have e := Option.some.inj e; have e' := Option.some.inj e'; omega⟩
    refine OkV.eq this ?_
    simp (disch := first | omega | (simp only [za, zb]; done) | (simp only [za, zb]; omega)) [↓zH, ↓z6, ↓zK, s_e_3, sv2.len, ← eh2, ea3, ← eh4, ea5, zp, zl]
  | succ r ih =>
    intro j h hj hf hc hno
    obtain ⟨ob1, ob2, g1, g2, b1, b2, b3⟩ := id hc
    have hfn := hf.next
    have hjl : j < (cls (alk es N k) n).2.length := by omega
    have ej : (cls (alk es N k) n).2[j]? = some (cls (alk es N k) n).2[j] := List.getElem?_eq_getElem hjl
    obtain ⟨g, eg⟩ : ∃ g, g = (cls (alk es N k) n).2[j] := ⟨_, rfl⟩
    rw [← eg] at ej
    have hgn := ci.hd _ _ ej
    obtain ⟨x1, o1, cs1, u1, hv1, _, hg1, ht1⟩ := (g2.row (by omega)).index (i := j) (r := natL g) (by rw [List.getElem?_map, ej]; rfl)
    have hlk := look_ok (hm.fr hf (by omega) (by omega)) (.int .i64 0) (g : Int) (n : Int)
    rw [s_e_4]
    cases hr : rN es N k (g : Int) (n : Int) with
    | some v =>
      simp only [rV, hr, Option.map_some, Option.getD_some, Option.isSome_some] at hlk
      have := ih (j + 1) h (by omega) hf hc (fun i g' hi hg' => by
        by_cases e : i = j
        · subst e; rw [ej] at hg'; cases hg'
          unfold alk; rw [hr]; rfl
        · exact hno i g' (by omega) hg')
      refine OkV.eq (this.lp (l_e_4 F _ _ _ _ _ _ _ _ _ _)) ?_
      simp (disch := first | omega | (simp only [za, zb]; done) | (simp only [za, zb]; omega)) [↓zH, ↓z6, ↓zK, hjl, hv1, hg1, ht1, zp, hlk, zN]
    | none =>
      simp only [rV, hr, Option.map_none, Option.getD_none, Option.isSome_none] at hlk
      have halk : alk es N k g n = true := by unfold alk; rw [hr]; rfl
      have hsome := (cls_next hB hnN).1 g hgn halk
      have hcg : (cls (alk es N k) n).1.getD g 0 = j := by
        have hh : (cls (alk es N k) n).1[g]? = some (cls (alk es N k) n).1[g] := List.getElem?_eq_getElem (by omega)
        rw [List.getD_eq_getElem?_getD, hh]
        exact (ci.iff g _ j g hh ej).2 (hB.refl _ (by omega))
      rw [hcg] at hsome
      obtain ⟨h2, eh2⟩ : ∃ h2, h2 = h.new (.cells (natL j) 0) := ⟨_, rfl⟩
      have hf2 : Fr h h2 := by rw [eh2]; exact .new _ _
      have hn2 : h2.next = h.next + 1 := by rw [eh2]; simp
      obtain ⟨h3, ov', ea3, g13, hn3, hf3⟩ := zcL (h := h2) (sz := 1) (bytes := 8) (r := natL j) (b := h.next) (e := 0) (by omega) (by decide) (g1.fr hf2) (by rw [eh2]; simp) rfl rfl rfl (by rw [List.length_map]; omega)
      have := hP h3 ov' hv ⟨by omega, fun i hi hd => by
          rw [hf3.get _ (by omega) (fun e => hd (b1 _ e)), hf2.get _ (by omega)]
          exact hf.get _ hi hd⟩
        ⟨some h2.next, ob2, by
          rw [hsome.1, List.map_append]; exact g13, by
          rw [hsome.2]; exact (g2.fr hf2).frD hf3 (fun b e1 e2 => b3 _ e2 e1), fun q e => by cases e; omega, b2, fun q e e' => by
            have e := Option.some.inj e
            have := g2.lt' e'
            omega⟩
      refine OkV.eq this ?_
      simp (disch := first | omega | (simp only [za, zb]; done) | (simp only [za, zb]; omega)) [↓zH, ↓z6, ↓zK, hjl, hv1, hg1, ht1, zp, hlk, ← eh2, ea3, zl]
theorem classes1 (es : List Ed) (N : Nat) (hN : N ≤ 200) (k m : Nat) (hin : inB (N : Int) es) (hk : fnd (rN es N k) es ((k : Int) + 1) N = []) (lo : Nat) (h0 : H) (hm : MapM h0 m (rV (rN es N k))) (hml : m < lo) (hlo : lo ≤ h0.next) {P : Value → H → Prop}
    (hP : ∀ h' ov hv, FrD (fun j => lo ≤ j) h0 h' → CS (alk es N k) lo N h' ov hv → P ov h') :
    ∀ (r n : Nat) (h : H) (ov hv : Value), n + r = N → FrD (fun j => lo ≤ j) h0 h → CS (alk es N k) lo n h ov hv →
    OkV (sh (rI F) zg8 (K_e_1 (rI F)) (setL [p3, p4, p5, p14, p15] [.map (some m), ov, hv, .int .i64 (N : Int), .int .i64 (n : Int)]) h) P := by
  intro r
  induction r with
  | zero =>
    intro n h ov hv hn hf hc
    have e : n = N := by omega
    subst e
    have := hP h ov hv hf hc
    obtain ⟨ob1, ob2, g1, g2, b1, b2, b3⟩ := hc
    have sv := g1.slvM
    refine OkV.eq (OkV.val this) ?_
    rw [s_e_1]
    simp (disch := first | omega | (simp only [za, zb]; done) | (simp only [za, zb]; omega)) [↓zH, ↓z6, ↓zK, s_e_0, sv.one]
  | succ r ih =>
    intro n h ov hv hn hf hc
    have hnN : n < N := by omega
    obtain ⟨ob1, ob2, g1, g2, b1, b2, b3⟩ := id hc
    have sv2 := g2.slvM
    have := classes4 es N hN k m n hnN hin hk lo h0 hm hml hlo ov hv (P := P) (fun h' ov' hv' hf' hc' => by
      have := ih (n + 1) h' ov' hv' (by omega) hf' hc'
      refine OkV.eq (this.lp (l_e_1 F _ _ _ _ _ _)) ?_
      rw [s_e_2]
      simp (disch := first | omega | (simp only [za, zb]; done) | (simp only [za, zb]; omega)) [↓zH, ↓z6, ↓zK, zN]) _ 0 h (by rw [Nat.zero_add]) hf hc (fun i g hi => by omega)
    refine OkV.eq (this.lp (l_e_4 F _ _ _ _ _ _ _ _ _ _)) ?_
    rw [s_e_1]
    simp (disch := first | omega | (simp only [za, zb]; done) | (simp only [za, zb]; omega)) [↓zH, ↓z6, ↓zK, hnN, sv2.len]
theorem zjB (es : List Ed) (hs : zbu es) (hsz : es.length ≤ 1000) (N : Nat) (hN : N ≤ 200) (hin : inB (N : Int) es) (lb : Int) (sl : Value) (h : H) (hrow : Row h 3 sl (es.map edL)) :
    ∃ v h' k ob, zbs F (fnV n_e) [gV (N : Int) lb sl] h = some (v, h') ∧ Fr h h' ∧ fnd (rN es N k) es ((k : Int) + 1) N = [] ∧ Grow h' 1 v ((cls (alk es N k) N).1.map natL) ob ∧ ∀ q, ob = some q → h.next ≤ q := by
  have hsv := hrow.slvM
  obtain ⟨h1, eh1⟩ : ∃ h1, h1 = h.new (.cells (gL (N : Int) lb sl) 0) := ⟨_, rfl⟩
  have hf1 : Fr h h1 := by rw [eh1]; exact .new _ _
  have hn1 : h1.next = h.next + 1 := by rw [eh1]; simp
  have g0 : h1.get h.next = some (.cells (gL (N : Int) lb sl) 0) := by rw [eh1]; simp
  obtain ⟨v2, h2, e2, k, m, rfl, hf2, hm1, hm2, hm3, hend⟩ := apart_ok es hs hsz N hN lb sl h1 (hrow.fr hf1) (P := fun v h' => ∃ k m, v = .map (some m) ∧ Fr h1 h' ∧ h1.next ≤ m ∧ m < h'.next ∧ MapM h' m (rV (rN es N k)) ∧ fnd (rN es N k) es ((k : Int) + 1) N = []) (fun h' m k q1 q2 q3 q4 q5 => ⟨k, m, rfl, q1, q2, q3, q4, q5⟩)
  have hfn2 := hf2.next
  have g02 := (hf2.get _ (by omega)).trans g0
  suffices hr : Ret F (fnV n_e) [gV (N : Int) lb sl] h fun v h' => ∃ k ob, Fr h h' ∧ fnd (rN es N k) es ((k : Int) + 1) N = [] ∧ Grow h' 1 v ((cls (alk es N k) N).1.map natL) ob ∧ ∀ q, ob = some q → h.next ≤ q by
    obtain ⟨v, h', e, k, ob, q⟩ := hr; exact ⟨v, h', k, ob, e, q⟩
  obtain ⟨P, hPd⟩ : ∃ P : Value → H → Prop, P = fun v h' => ∃ k ob, Fr h h' ∧ fnd (rN es N k) es ((k : Int) + 1) N = [] ∧ Grow h' 1 v ((cls (alk es N k) N).1.map natL) ob ∧ ∀ q, ob = some q → h.next ≤ q := ⟨_, rfl⟩
  rw [← hPd]
  refine Ret.fn F_e 1 (by decide) ?_
  rw [s_e]
  have := classes1 es N hN k m hin hend h2.next h2 hm3 hm2 (Nat.le_refl _) (P := P) (fun h' ov hv hf' hc => by
    obtain ⟨ob1, ob2, g1, g2, b1, b2, b3⟩ := hc
    rw [hPd]
    exact ⟨k, ob1, (hf1.trans hf2).transD hf' (fun i hi hd => by omega), hend, g1, fun q e => by have := b1 q e; omega⟩) N 0 h2 _ _ (by omega) (.refl _ _) (CS.z _ _ _)
  refine OkV.eq (this.lp (l_e_1 F _ _ _ _ _ _)) ?_
  simp (disch := first | omega | (simp only [za, zb]; done) | (simp only [za, zb]; omega)) [↓zH, ↓z6, ↓zK, hsv.clean, hsv.take, ← eh1, g0, e2, g02]
end Go.Ideal.J
set_option maxHeartbeats 4000000
namespace Go.Ideal.J
open Go Go.Ideal Go.Proofs
theorem flat_inj {α : Type} {enc : α → List Value} {sz : Nat} (E : Enc enc sz) (hi : ∀ x y, enc x = enc y → x = y) : ∀ (l l' : List α), (l.map enc).flatten = (l'.map enc).flatten → l = l'
  | [], [], _ => rfl
  | [], y :: l', h => by
    have := congrArg List.length h
    have hp := E.pos
    simp [E.len] at this; omega
  | x :: l, [], h => by
    have := congrArg List.length h
    have hp := E.pos
    simp [E.len] at this; omega
  | x :: l, y :: l', h => by
    rw [List.map_cons, List.map_cons, List.flatten_cons, List.flatten_cons] at h
    obtain ⟨h1, h2⟩ := List.append_inj h (by rw [E.len, E.len])
    rw [hi _ _ h1, flat_inj E hi l l' h2]
open Classical in
noncomputable def srtG {α : Type} (enc : α → List Value) (le : α → α → Bool) (cs : List Value) : List Value :=
  if h : ∃ l : List α, (l.map enc).flatten = cs then (((Classical.choose h).mergeSort le).map enc).flatten else cs
theorem srtG_eq {α : Type} {enc : α → List Value} {sz : Nat} (E : Enc enc sz) (hi : ∀ x y, enc x = enc y → x = y) (le : α → α → Bool) (l : List α) : srtG enc le (l.map enc).flatten = ((l.mergeSort le).map enc).flatten := by
  have h : ∃ l' : List α, (l'.map enc).flatten = (l.map enc).flatten := ⟨l, rfl⟩
  unfold srtG
  rw [dif_pos h, flat_inj E hi _ _ (Classical.choose_spec h)]
theorem intL_inj (x y : Int) (h : intL x = intL y) : x = y := by
  unfold intL at h
  injection h with h _; injection h
theorem edL_inj (x y : Ed) (h : edL x = edL y) : x = y := by
  obtain ⟨a, b, c⟩ := x
  obtain ⟨d, e, f⟩ := y
  unfold edL at h
  simp at h
  obtain ⟨h1, h2, h3⟩ := h
  rw [h1, h2, h3]
noncomputable def pI := sortP (srtG intL leI) intL 1 n_C
noncomputable def pE := sortP (srtG edL leE) edL 3 n_G
noncomputable def G2 : FuncId → Option zr := fun g => if g = n_S then some (primP pI) else if g = n_O then some (primP pE) else F g
theorem F_sI : F n_S = none := by kernel_rfl
theorem F_sE : F n_O = none := by kernel_rfl
theorem leG2 : LeF F G2 := fun g cf h => by
  unfold G2
  rw [if_neg (by rintro rfl; rw [F_sI] at h; cases h), if_neg (by rintro rfl; rw [F_sE] at h; cases h)]; exact h
theorem okG2 : ∀ g cf, G2 g = some cf → FnOk Try.prog g cf := fun g cf h => by
  unfold G2 at h
  split at h
  · rename_i e; cases h; subst e
    exact .inr (.inr ⟨pI, rfl, sort_prim (sz := 1) (enc := intL) (by decide) (fun _ => rfl) (fun x v hv => by unfold intL at hv; simp at hv; exact ⟨_, hv⟩) (srtG_eq encI intL_inj leI) sortsI⟩)
  · split at h
    · rename_i e; cases h; subst e
      exact .inr (.inr ⟨pE, rfl, sort_prim (sz := 3) (enc := edL) (by decide) (fun _ => rfl) (fun x v hv => by unfold edL at hv; simp only [List.mem_cons, List.not_mem_nil, or_false] at hv; rcases hv with rfl | rfl | rfl <;> exact ⟨_, rfl⟩) (srtG_eq encE edL_inj leE) sortsE⟩)
    · exact okFs g cf h
theorem Ret.leF {F G : FuncId → Option zr} (hl : LeF F G) {f : Value} {args : List Value} {h : H} {P : Value → H → Prop} (hr : Ret F f args h P) : Ret G f args h P := by
  obtain ⟨v, h', e, p⟩ := hr; exact ⟨v, h', zbg hl e, p⟩
def OwnB {α : Type} (enc : α → List Value) (sz : Nat) (h : H) (v : Value) (l : List α) (ob : Option Nat) : Prop :=
  (ob = none ∧ v = .slice none 0 0 ∧ l = []) ∨ ∃ b, ob = some b ∧ v = .slice (some ⟨b, 0, none⟩) l.length zk ∧ b < h.next ∧ h.get b = some (.cells (l.map enc).flatten sz)
section
variable {α : Type} {enc : α → List Value} {sz : Nat} (E : Enc enc sz)
include E
theorem OwnB.grow {h : H} {v : Value} {l : List α} {ob : Option Nat} (ho : OwnB enc sz h v l ob) : Grow h sz v (l.map enc) ob := by
  rcases ho with ⟨rfl, rfl, rfl⟩ | ⟨b, rfl, rfl, hb, hg⟩
  · exact .nil
  · have := Grow.cells (sz := sz) (rows := l.map enc) hb hg (fun r hr => by
      obtain ⟨x, _, rfl⟩ := List.mem_map.1 hr
      exact ⟨E.len x, E.clean x⟩)
    rwa [List.length_map] at this
theorem zjF {h : H} {bytes b e : Nat} {v : Value} {x : α} {l : List α} {ob : Option Nat} (ho : OwnB enc sz h v l ob) (hgb : h.get b = some (.cells (enc x) e)) (hb : (l.length + 1) * bytes ≤ 1073741824) :
    ∃ h' v', bltV h (.append sz bytes) [v, .slice (some ⟨b, 0, none⟩) 1 1] = some (v', h') ∧ OwnB enc sz h' v' (l ++ [x]) (some h.next) ∧ h'.next = h.next + 1 ∧ FrD (fun j => ob = some j) h h' := by
  have := zgV (bytes := bytes) E.pos E.ro (ho.grow E) (news := [enc x]) (by simp) (zgU hgb (E.len x) (E.clean x)) (by simpa using E.cell x) (by simp; exact ⟨E.len x, by simpa using E.clean x⟩) (by rw [List.length_map]; simpa using hb)
  obtain ⟨h', h1, h2, h3, h4, h5⟩ := this
  refine ⟨h', _, h1, .inr ⟨h.next, rfl, ?_, by omega, ?_⟩, h3, h4⟩
  · simp
  · rw [h5]; simp
end
theorem OwnB.frD {α : Type} {enc : α → List Value} {sz : Nat} {D : Nat → Prop} {h h' : H} {v : Value} {l : List α} {ob : Option Nat} (ho : OwnB enc sz h v l ob) (hf : FrD D h h') (hd : ∀ b, ob = some b → ¬ D b) : OwnB enc sz h' v l ob := by
  rcases ho with ⟨rfl, rfl, rfl⟩ | ⟨b, rfl, rfl, hb, hg⟩
  · exact .inl ⟨rfl, rfl, rfl⟩
  · exact .inr ⟨b, rfl, rfl, Nat.lt_of_lt_of_le hb hf.next, (hf.get _ hb (hd b rfl)).trans hg⟩
theorem OwnB.fr {α : Type} {enc : α → List Value} {sz : Nat} {h h' : H} {v : Value} {l : List α} {ob : Option Nat} (ho : OwnB enc sz h v l ob) (hf : Fr h h') : OwnB enc sz h' v l ob := ho.frD (D := fun _ => False) hf.D (by simp)
theorem OwnB.slv {α : Type} {enc : α → List Value} {sz : Nat} {h : H} {v : Value} {l : List α} {ob : Option Nat} (ho : OwnB enc sz h v l ob) : SlV v l.length := by
  rcases ho with ⟨rfl, rfl, rfl⟩ | ⟨b, rfl, rfl, hb, hg⟩
  · exact .of _ _ _ nofun
  · exact .of _ _ _ fun a e => by cases e; rfl
def srtI (l : List Int) : List Int := ddN (l.mergeSort leI) l.length
theorem sortedI_ok {l : List Int} (hn : l.length ≤ 1000000) {h : H} {v : Value} {ob : Option Nat} (hv : OwnB intL 1 h v l ob) :
    Ret G2 (fnV n_N) [v, fnV n_C] h fun u h' => Row h' 1 u ((srtI l).map intL) ∧ FrD (fun j => ob = some j) h h' ∧ ∀ b o n c, u = .slice (some ⟨b, o, none⟩) n c → ob = some b := by
  obtain ⟨h1, e1, q1, q2, q3, q4⟩ := zjf (g := n_C) (srtG_eq encI intL_inj leI) hv (by omega)
  have e1 : zbs G2 (fnV n_S) [v, fnV n_C] h = some (.tuple #[], h1) := zjC (cf := primP pI) (by unfold G2; rw [if_pos rfl]) rfl e1 (by omega)
  have hl : (l.mergeSort leI).length = l.length := List.length_mergeSort _
  have hv1 : (v = .slice none 0 0 ∧ l.mergeSort leI = []) ∨ ∃ b, v = .slice (some ⟨b, 0, none⟩) (l.mergeSort leI).length zk ∧ b < h1.next ∧ h1.get b = some (.cells ((l.mergeSort leI).map intL).flatten 1) := by
    rcases hv with ⟨_, hv, rfl⟩ | ⟨b, hob, hv, hb, hg⟩
    · exact .inl ⟨hv, List.mergeSort_nil⟩
    · refine .inr ⟨b, by rw [hl]; exact hv, by omega, ?_⟩
      by_cases e : l = []
      · subst e
        rw [List.mergeSort_nil]; exact (q4 rfl b hob).trans hg
      · exact q3 b hob e
  obtain ⟨u, h2, e2, r1, r2, r3⟩ := compactI_ok (by omega) hv1
  have e2 := zbg leG2 e2
  rw [hl] at r1
  have hb : ∀ j n c, v = .slice (some ⟨j, 0, none⟩) n c → ob = some j := fun j n c e => by
    rcases hv with ⟨_, hv, _⟩ | ⟨b, hob, hv, _⟩
    · rw [hv] at e; cases e
    · rw [hv] at e; cases e; exact hob
  obtain ⟨Pq, hPd⟩ : ∃ Pq : Value → H → Prop, Pq = fun u h' => Row h' 1 u ((srtI l).map intL) ∧ FrD (fun j => ob = some j) h h' ∧ ∀ b o n c, u = .slice (some ⟨b, o, none⟩) n c → ob = some b := ⟨_, rfl⟩
  rw [← hPd]
  refine Ret.fn (leG2 _ _ F_N) 2 (by decide) ?_
  rw [s_N]
  refine OkV.eq (OkV.val (v := u) (h := h2) ?_) ?_
  · rw [hPd]
    refine ⟨r1, ⟨by have := r2.next; omega, fun i hi hd => ?_⟩, fun b o n c e => ?_⟩
    · rw [r2.get i (by omega) (fun ⟨n, c, e⟩ => hd (hb _ _ _ e)), q2 i hd]
    · obtain ⟨n', c', e'⟩ := r3 b o n c e
      exact hb _ _ _ e'
  · simp only [zH, rI_call', e1, e2, zbq]
def srtE (l : List Ed) : List Ed := ddN (l.mergeSort leE) l.length
theorem sortedE_ok {l : List Ed} (hn : l.length ≤ 1000000) {h : H} {v : Value} {ob : Option Nat} (hv : OwnB edL 3 h v l ob) :
    Ret G2 (fnV n_I) [v, fnV n_G] h fun u h' => Row h' 3 u ((srtE l).map edL) ∧ FrD (fun j => ob = some j) h h' ∧ ∀ b o n c, u = .slice (some ⟨b, o, none⟩) n c → ob = some b := by
  obtain ⟨h1, e1, q1, q2, q3, q4⟩ := zjf (g := n_G) (srtG_eq encE edL_inj leE) hv (by omega)
  have e1 : zbs G2 (fnV n_O) [v, fnV n_G] h = some (.tuple #[], h1) := zjC (cf := primP pE) (by unfold G2; rw [if_neg (by decide), if_pos rfl]) rfl e1 (by omega)
  have hl : (l.mergeSort leE).length = l.length := List.length_mergeSort _
  have hv1 : (v = .slice none 0 0 ∧ l.mergeSort leE = []) ∨ ∃ b, v = .slice (some ⟨b, 0, none⟩) (l.mergeSort leE).length zk ∧ b < h1.next ∧ h1.get b = some (.cells ((l.mergeSort leE).map edL).flatten 3) := by
    rcases hv with ⟨_, hv, rfl⟩ | ⟨b, hob, hv, hb, hg⟩
    · exact .inl ⟨hv, List.mergeSort_nil⟩
    · refine .inr ⟨b, by rw [hl]; exact hv, by omega, ?_⟩
      by_cases e : l = []
      · subst e
        rw [List.mergeSort_nil]; exact (q4 rfl b hob).trans hg
      · exact q3 b hob e
  obtain ⟨u, h2, e2, r1, r2, r3⟩ := compactE_ok (by omega) hv1
  have e2 := zbg leG2 e2
  rw [hl] at r1
  have hb : ∀ j n c, v = .slice (some ⟨j, 0, none⟩) n c → ob = some j := fun j n c e => by
    rcases hv with ⟨_, hv, _⟩ | ⟨b, hob, hv, _⟩
    · rw [hv] at e; cases e
    · rw [hv] at e; cases e; exact hob
  obtain ⟨Pq, hPd⟩ : ∃ Pq : Value → H → Prop, Pq = fun u h' => Row h' 3 u ((srtE l).map edL) ∧ FrD (fun j => ob = some j) h h' ∧ ∀ b o n c, u = .slice (some ⟨b, o, none⟩) n c → ob = some b := ⟨_, rfl⟩
  rw [← hPd]
  refine Ret.fn (leG2 _ _ F_I) 2 (by decide) ?_
  rw [s_I]
  refine OkV.eq (OkV.val (v := u) (h := h2) ?_) ?_
  · rw [hPd]
    refine ⟨r1, ⟨by have := r2.next; omega, fun i hi hd => ?_⟩, fun b o n c e => ?_⟩
    · rw [r2.get i (by omega) (fun ⟨n, c, e⟩ => hd (hb _ _ _ e)), q2 i hd]
    · obtain ⟨n', c', e'⟩ := r3 b o n c e
      exact hb _ _ _ e'
  · simp only [zH, rI_call', e1, e2, zbq]
end Go.Ideal.J
namespace Go.Ideal.J
open Go Go.Ideal
inductive Rch (es : List Ed) : Nat → Prop
  | zero : Rch es 0
  | step {x : Ed} (h : Rch es x.1.toNat) (hx : x ∈ es) : Rch es x.2.1.toNat
theorem jleast_round (vs : List Int) (hsz : vs.length ≤ 1000) (x : Ed) (l pb : Nat) (h1 : H) (slv : Value) (ob : Option Nat) (hl : h1.get l = some (.loop .ready none (setL [p5] [ptr pb]) zeX)) (hpb : h1.get pb = some (.cells [slv] 0)) (hlt : l < h1.next) (hplt : pb < h1.next) (hlp : l ≠ pb)
    (hg : Grow h1 1 slv (vs.map inL) ob) (hol : ob ≠ some l) (hop : ob ≠ some pb) {P : Value → H → Prop}
    (hP : ∀ h' slv' ob', FrD (fun j => j = l ∨ j = pb ∨ ob = some j) h1 h' → h'.get l = some (.loop .ready none (setL [p5] [ptr pb]) zeX) → h'.get pb = some (.cells [slv'] 0) → Grow h' 1 slv' ((if x.2.1 ∈ vs then vs else vs ++ [x.2.1]).map inL) ob' → (∀ b, ob' = some b → ob = some b ∨ h1.next ≤ b) → P (.bool true) h') :
    Ret F (.func (.yield l) #[] #[]) [edV x] h1 P := by
  obtain ⟨x1, t, x3⟩ := x
  refine Ret.round hl ?_
  rw [s_h_3]
  obtain ⟨h2, eh2⟩ : ∃ h2, h2 = h1.new (.cells (edL (x1, t, x3)) 0) := ⟨_, rfl⟩
  have hf2 : Fr h1 h2 := by rw [eh2]; exact .new _ _
  have hn2 : h2.next = h1.next + 1 := by rw [eh2]; simp
  have gx2 : h2.get h1.next = some (.cells (edL (x1, t, x3)) 0) := by rw [eh2]; simp
  have hl2 := (hf2.get _ hlt).trans hl
  obtain ⟨h3, eh3⟩ : ∃ h3, h3 = h2.put l (.loop .busy none (setL [p5] [ptr pb]) zeX) := ⟨_, rfl⟩
  have hn3 : h3.next = h1.next + 1 := by rw [eh3]; simpa using hn2
  have hfl : FrD (fun j => j = l) h1 h3 := by rw [eh3]; exact (hf2.D (D := fun j => j = l)).put (.inr rfl) _
  have hg3 := hg.frD hfl (fun b e e2 => hol (by rw [e, e2]))
  have gl3 : h3.get l = some (.loop .busy none (setL [p5] [ptr pb]) zeX) := by rw [eh3]; exact zw rfl
  have gp3 : h3.get pb = some (.cells [slv] 0) := (hfl.get _ hplt (Ne.symm hlp)).trans hpb
  have gx3 : h3.get h1.next = some (.cells (edL (x1, t, x3)) 0) := by rw [eh3, zo (by omega)]; exact gx2
  have hsv := hg.slvM
  have e1 : ∀ k : H → Option Out, zfn l h2 k = k h3 := fun k => by rw [zhr hl2, eh3]
  have hcon := contains_ok vs (by omega) t slv _ (hg3.row (by omega))
  simp (disch := omega) [← eh2, e1]
  rw [s_h_4]
  by_cases ht : t ∈ vs
  · simp (disch := omega) [gp3, gx3, hsv.take, hsv.one, hcon, ht]
    rw [zeS gl3]
    have hf4 : FrD (fun j => j = l ∨ j = pb ∨ ob = some j) h1 (h3.put l (.loop .ready none (setL [p5] [ptr pb]) zeX)) := (hfl.mono fun _ _ h => .inl h).put (.inr (.inl rfl)) _
    refine OkV.val (hP _ slv ob hf4 (zw rfl) ?_ ?_ fun b hb => .inl hb)
    · rw [zo (Ne.symm hlp)]; exact gp3
    · rw [if_pos ht]; exact hg3.frD ((FrD.refl _ _).put (D := fun j => j = l) (.inr rfl) _) (fun b e e2 => hol (by rw [e, e2]))
  · obtain ⟨h4, eh4⟩ : ∃ h4, h4 = h3.new (.cells [.int .i64 t] 0) := ⟨_, rfl⟩
    have hf4 : Fr h3 h4 := by rw [eh4]; exact .new _ _
    have hn4 : h4.next = h1.next + 2 := by rw [eh4]; simp; omega
    obtain ⟨h5, slv', ea, hg5, hn5, hf5⟩ := zcL (h := h4) (bytes := 8) (r := inL t) (b := h3.next) (e := 0) (by omega) (by decide) (hg3.fr hf4) (by rw [eh4]; simp) rfl rfl rfl (by rw [List.length_map]; omega)
    have gpb : h5.get pb = some (.cells [slv] 0) := by rw [hf5.get _ (by omega) hop, hf4.get _ (by omega)]; exact gp3
    have gl : h5.get l = some (.loop .busy none (setL [p5] [ptr pb]) zeX) := by rw [hf5.get _ (by omega) hol, hf4.get _ (by omega)]; exact gl3
    have sv' := hg5.slv
    simp (disch := omega) [gp3, gx3, hsv.take, hsv.one, hcon, ht, zp, zl, ← eh4, ea, gpb, sv'.cells, sv'.cell]
    have gl' : (h5.put pb (.cells [slv'] 0)).get l = some (.loop .busy none (setL [p5] [ptr pb]) zeX) := by rw [zo hlp]; exact gl
    rw [zeS gl']
    have hf6 : FrD (fun j => j = l ∨ j = pb ∨ ob = some j) h1 ((h5.put pb (.cells [slv'] 0)).put l (.loop .ready none (setL [p5] [ptr pb]) zeX)) :=
      (((((hfl.mono fun _ _ h => .inl h).trans (hf4.D)).trans (hf5.mono fun _ _ h => .inr (.inr h))).put (.inr (.inr (.inl rfl))) _).put (.inr (.inl rfl)) _)
    refine OkV.val (hP _ slv' (some h4.next) hf6 (zw rfl) ?_ ?_ fun b hb => .inr ?_)
    · rw [zo (Ne.symm hlp), zw rfl]
    · rw [if_neg ht, List.map_append]
      refine hg5.frD (((FrD.refl _ _).put (D := fun j => j = l ∨ j = pb) (.inr (.inr rfl)) _).put (.inr (.inl rfl)) _) fun b hb => ?_
      cases hb; omega
    · cases hb; omega
end Go.Ideal.J
namespace Go.Ideal.J
open Go Go.Ideal
theorem jleast_loop (es : List Ed) (hs : zbu es) (hsz : es.length ≤ 1000) (N : Nat) (lb : Int) (hin : inB (N : Int) es) (hN : N ≤ 200) (sl : Value) (t3 t4 : Value) (pg pr pb : Nat) (h0 : H) (hrow0 : Row h0 3 sl (es.map edL)) (hpg : pg < h0.next) (hgg : h0.get pg = some (.cells (gL (N : Int) lb sl) 0)) (hpb : h0.next ≤ pb) {P : Value → H → Prop}
    (hP : ∀ (h' : H) (slv : Value) (vs : List Int) (ob : Option Nat), Fr h0 h' → h'.get pb = some (.cells [slv] 0) → pb < h'.next → Grow h' 1 slv (vs.map inL) ob → (∀ b, ob = some b → h0.next ≤ b) → vs.Nodup → (∀ v ∈ vs, 0 ≤ v ∧ v < N) → (∀ c : Nat, (c : Int) ∈ vs ↔ Rch es c) →
      OkV (sh (rI G2) zi3 (zi8 (rI G2)) (setL [p1, p2, p4, p5] [ptr pg, ptr pr, t4, ptr pb]) h') P) :
    ∀ (n i : Nat) (h : H) (vs : List Int) (slv : Value) (ob : Option Nat), N - i = n → Fr h0 h → h.get pb = some (.cells [slv] 0) → pb < h.next → Grow h 1 slv (vs.map inL) ob →
      (∀ b, ob = some b → h0.next ≤ b ∧ b ≠ pb) → vs.Nodup → (∀ v ∈ vs, 0 ≤ v ∧ v < N) → i ≤ vs.length → (0 : Int) ∈ vs → (∀ v ∈ vs, Rch es v.toNat) → (∀ k v, vs[k]? = some v → k < i → ∀ x ∈ outs es v, x.2.1 ∈ vs) →
      OkV (sh (rI G2) c_h_1 (K_h_1 (rI G2)) (setL [p1, p2, p3, p4, p5, p6] [ptr pg, ptr pr, t3, t4, ptr pb, .int .i64 (i : Int)]) h) P := by
  intro n
  induction n using Nat.strongRecOn with
  | _ n ih =>
    intro i h vs slv ob hn hf hgb hpbl hg hob hnd hbd hi ha hsil hclo
    have hlen : vs.length ≤ N := zcR hnd hbd
    have hfn := hf.next
    have hgg1 := (hf.get _ hpg).trans hgg
    have hv := hg.slvM
    have hvg := hrow0.slvM
    rw [s_h_1]
    by_cases hil : i < vs.length
    · have hx : (vs.map inL)[i]? = some (inL vs[i]) := by simp [hil]
      obtain ⟨b, o, cs, e, hvi, hb, hgi, ht⟩ := (hg.row (by omega)).index hx
      have hxi : vs[i]? = some vs[i] := List.getElem?_eq_getElem hil
      generalize vs[i] = x at *
      obtain ⟨L, eL⟩ : ∃ L, L = h.next + 1 + 1 := ⟨_, rfl⟩
      obtain ⟨h2, eh2⟩ : ∃ h2, h2 = (((h.new (.cells (gL (N : Int) lb sl) 0)).new (.cells [.int .i64 x] 0)).new (.loop .ready none (setL [p5] [ptr pb]) zeX)) := ⟨_, rfl⟩
      have est := zbg leG2 (steps_ok (gV (N : Int) lb sl) (.int .i64 x) h)
      simp (disch := omega) [hgg1, hgb, hv.take, hv.one, hv.len, hv.eq, hv.eqc, hvg.eqc, hvg.take, hvg.clean, hil, hvi, hgi, ht, est, hvg.cell]
      rw [← eL, ← eh2]
      have hf2 : Fr h h2 := by rw [eh2]; exact ((Fr.new _ _).newR _).newR _
      have hnx : h2.next = h.next + 3 := by rw [eh2]; simp
      have gL2 : h2.get L = some (.loop .ready none (setL [p5] [ptr pb]) zeX) := by rw [eh2]; simp (disch := omega) [eL]
      have gg2 : h2.get h.next = some (.cells (gL (N : Int) lb sl) 0) := by rw [eh2]; simp (disch := omega)
      have gf2 : h2.get (h.next + 1) = some (.cells [.int .i64 x] 0) := by rw [eh2]; simp (disch := omega)
      have gb2 : h2.get pb = some (.cells [slv] 0) := (hf2.get _ hpbl).trans hgb
      have hxb := hbd x (List.mem_of_getElem? hxi)
      have hoblt : ∀ b, ob = some b → b < h.next := fun b e => by subst e; exact hg.lt
      obtain ⟨T, eT⟩ : ∃ T, T = (outs es x).map fun y => y.2.1 := ⟨_, rfl⟩
      have hT : ∀ t ∈ T, 0 ≤ t ∧ t < N := by
        intro t ht
        rw [eT] at ht
        obtain ⟨y, hy, rfl⟩ := List.mem_map.1 ht
        have := hin y (zbl.1 hy).1; omega
      have hnd' : ∀ l, (zba vs l).Nodup := fun l => zfK l vs hnd
      have hbd' : ∀ l, (∀ t ∈ l, t ∈ T) → ∀ v ∈ zba vs l, 0 ≤ v ∧ v < N := by
        intro l hl v hv
        rcases (zcd l vs v).1 hv with h | h
        · exact hbd v h
        · exact hT v (hl v h)
      have hlen' : ∀ l, (∀ t ∈ l, t ∈ T) → (zba vs l).length ≤ 1000 := by
        intro l hl
        have := zcR (n := N) (hnd' l) (hbd' l hl)
        omega
      obtain ⟨M, eM⟩ : ∃ M : Nat → Prop, M = fun j => j = L ∨ j = pb ∨ ob = some j ∨ h2.next ≤ j := ⟨_, rfl⟩
      have hM : ∀ j, M j → j = L ∨ j = pb ∨ ob = some j ∨ h2.next ≤ j := fun j hj => by rw [eM] at hj; exact hj
      have hMn : ∀ j, j < h.next → j ≠ pb → ob ≠ some j → ¬ M j := by
        intro j h1 h2 h3 h4
        rcases hM j h4 with h | h | h | h
        · omega
        · exact h2 h
        · exact h3 h
        · omega
      have hMn2 : ∀ j, j = h.next ∨ j = h.next + 1 → ¬ M j := by
        intro j h1 h4
        rcases hM j h4 with h | h | h | h
        · omega
        · omega
        · have := hoblt _ h; omega
        · omega
      refine OkV.call (Ret.leF leG2 (zhB es hs hsz x (N : Int) lb (.func (.yield L) #[] #[]) sl h.next (h.next + 1) h2 (M := M) ((hrow0.fr hf).fr hf2) (hMn2 _ (.inl rfl)) (hMn2 _ (.inr rfl)) ?_ (by omega) gg2 (by omega) gf2
        (fun j h1 => ∃ slv' ob', h1.get L = some (.loop .ready none (setL [p5] [ptr pb]) zeX) ∧ h1.get pb = some (.cells [slv'] 0) ∧ Grow h1 1 slv' ((zba vs (T.take j)).map inL) ob' ∧ (∀ b, ob' = some b → ob = some b ∨ h2.next ≤ b) ∧ h2.next ≤ h1.next)
        (fun _ => False) h2.next (Nat.le_refl _) ?_ ?_ ?_ (P := fun _ h' => FrD M h2 h' ∧ ∃ slv' ob', h'.get L = some (.loop .ready none (setL [p5] [ptr pb]) zeX) ∧ h'.get pb = some (.cells [slv'] 0) ∧ Grow h' 1 slv' ((zba vs T).map inL) ob' ∧ (∀ b, ob' = some b → ob = some b ∨ h2.next ≤ b)) ?_)) ?_
      · intro b o n c e
        have hb := hrow0.lt e
        exact hMn b (by omega) (by omega) (fun e => by have := (hob _ e).1; omega)
      · rintro j h1 h3 ⟨slv', ob', q1, q2, q3, q4, q5⟩ hf3
        exact ⟨slv', ob', (hf3.get _ (by omega)).trans q1, (hf3.get _ (by omega)).trans q2, q3.fr hf3, q4, Nat.le_trans q5 hf3.next⟩
      · rintro j v h1 hv ⟨slv', ob', q1, q2, q3, q4, q5⟩ hn1
        rw [List.getElem?_map] at hv
        obtain ⟨y, hjt, rfl⟩ := Option.map_eq_some_iff.1 hv
        have hjT : T[j]? = some y.2.1 := by rw [eT, List.getElem?_map, hjt]; rfl
        refine jleast_round (zba vs (T.take j)) (hlen' _ fun t h => List.mem_of_mem_take h) y L pb h1 slv' ob' q1 q2 (by omega) (by omega) (by omega) q3 ?_ ?_ ?_
        · intro e; rcases q4 _ e with h | h
          · have := hoblt _ h; omega
          · omega
        · intro e; rcases q4 _ e with h | h
          · exact (hob _ h).2 rfl
          · omega
        · intro h' slv'' ob'' r1 r2 r3 r4 r5
          refine ⟨r1.mono ?_, .inl ⟨rfl, slv'', ob'', r2, r3, ?_, ?_, Nat.le_trans q5 r1.next⟩⟩
          · rw [eM]
            rintro i _ (h | h | h)
            · exact .inl h
            · exact .inr (.inl h)
            · rcases q4 _ h with h | h
              · exact .inr (.inr (.inl h))
              · exact .inr (.inr (.inr h))
          · have : zba vs (T.take (j + 1)) = if y.2.1 ∈ zba vs (T.take j) then zba vs (T.take j) else zba vs (T.take j) ++ [y.2.1] := by
              rw [List.take_add_one, hjT]; exact zgJ _ _ _
            rw [this]; exact r4
          · intro b e
            rcases r5 b e with h | h
            · exact q4 b h
            · right; omega
      · exact ⟨slv, ob, gL2, gb2, hg.fr hf2, fun b e => .inl e, Nat.le_refl _⟩
      · intro h' hf' hv
        rcases hv with ⟨slv', ob', q1, q2, q3, q4, q5⟩ | hv
        · rw [List.take_of_length_le (by rw [eT]; simp)] at q3
          exact ⟨hf', slv', ob', q1, q2, q3, q4⟩
        · exact hv.elim
      · rintro v h' ⟨hf', slv', ob', q1, q2, q3, q4⟩
        rw [zfH q1, s_h_2]
        obtain ⟨r, hr⟩ := zhM T vs
        have hn' := hf'.next
        have hfr : Fr h0 (h'.put L (.loop .exhausted none (setL [p5] [ptr pb]) zeX)) := by
          refine ⟨by simp; omega, fun i hi => ?_⟩
          rw [zo (by omega), hf'.get _ (by omega), hf2.get _ (by omega), hf.get _ hi]
          exact hMn i (by omega) (by omega) (fun e => by have := (hob _ e).1; omega)
        have hob' : ∀ b, ob' = some b → h0.next ≤ b ∧ b ≠ pb ∧ b ≠ L := by
          intro b e
          rcases q4 b e with h | h
          · have := hob _ h; have := hoblt _ h; omega
          · omega
        have := ih (N - (i + 1)) (by omega) (i + 1) (h'.put L (.loop .exhausted none (setL [p5] [ptr pb]) zeX)) (zba vs T) slv' ob' rfl hfr (by rw [zo (by omega)]; exact q2) (by simp; omega)
          (q3.frD ((FrD.refl _ _).put (D := fun j => j = L) (.inr rfl) _) fun b e e2 => (hob' b e).2.2 e2) (fun b e => by have := hob' b e; exact ⟨this.1, this.2.1⟩) (hnd' _) (hbd' _ fun t h => h) (by rw [hr, List.length_append]; omega) ((zcd _ _ _).2 (.inl ha)) ?_ ?_
        · refine OkV.eq (this.lp (l_h_1 G2 _ _ _ _ _ _ _)) ?_
          simp (disch := omega) [zN]
        · intro v hv
          rcases (zcd _ _ _).1 hv with h | h
          · exact hsil v h
          · rw [eT] at h
            obtain ⟨y, hy, rfl⟩ := List.mem_map.1 h
            obtain ⟨y1, y2⟩ := zbl.1 hy
            have := hsil x (List.mem_of_getElem? hxi)
            rw [← y2] at this
            exact .step this y1
        · intro k v hk hki y hy
          by_cases e : k = i
          · subst e
            rw [hr, List.getElem?_append_left hil, hxi] at hk
            cases hk
            exact (zcd _ _ _).2 (.inr (by rw [eT]; exact List.mem_map.2 ⟨y, hy, rfl⟩))
          · rw [hr, List.getElem?_append_left (by omega)] at hk
            exact (zcd _ _ _).2 (.inl (hclo k v hk (by omega) y hy))
    · have e : i = vs.length := by omega
      subst e
      have := hP h slv vs ob hf hgb hpbl hg (fun b e => (hob b e).1) hnd hbd fun c => ⟨fun hc => by simpa using hsil _ hc, fun hc => ?_⟩
      · refine OkV.eq this ?_
        simp (disch := omega) [hgb, hv.take, hv.one, hv.len, hil]
      · induction hc with
        | zero => exact ha
        | @step y hy hy1 ihc =>
          have hb := hin y hy1
          obtain ⟨k, hk⟩ := List.mem_iff_getElem?.1 ihc
          have hkl : k < vs.length := (List.getElem?_eq_some_iff.1 hk).1
          have := hclo k _ hk hkl y (zbl.2 ⟨hy1, by omega⟩)
          rwa [show ((y.2.1.toNat : Nat) : Int) = y.2.1 by omega]
end Go.Ideal.J
namespace Go.Ideal.J
open Go Go.Ideal
theorem zhU (a b : Int) (h : H) : zbs F (fnV n_Q) [.int .i64 a, .int .i64 b] h = some (.bool (decide (a < b)), h) := by
  refine zbi F_Q 2 (by decide) ?_
  rw [s_Q]
  by_cases hc : a < b <;> simp [zhm, hc]
theorem snan_ok (a : Int) (h : H) : zbs F (fnV n_L) [.int .i64 a] h = some (.bool false, h) := by
  refine zbi F_L 1 (by decide) ?_
  rw [s_L]
  simp
structure CutI (ms : List Int) (a : Int) (at_ : Nat) : Prop where
  le : at_ ≤ ms.length
  lo : ∀ (k : Nat) x, ms[k]? = some x → k < at_ → x < a
  hi : ∀ (k : Nat) x, ms[k]? = some x → at_ ≤ k → a ≤ x
theorem cutI_of (a : Int) : ∀ (ms : List Int), ms.Pairwise (· < ·) → ∃ at_, CutI ms a at_
  | [], _ => ⟨0, Nat.le_refl _, fun k x h => by simp at h, fun k x h => by simp at h⟩
  | m :: ms, hp => by
    obtain ⟨h1, h2⟩ := List.pairwise_cons.1 hp
    by_cases c : m < a
    · obtain ⟨k0, q⟩ := cutI_of a ms h2
      refine ⟨k0 + 1, by have := q.le; simp; omega, fun k x hk hl => ?_, fun k x hk hl => ?_⟩
      · cases k with
        | zero => cases hk; exact c
        | succ k => exact q.lo k x hk (by omega)
      · cases k with
        | zero => omega
        | succ k => exact q.hi k x hk (by omega)
    · refine ⟨0, Nat.zero_le _, fun k x _ hl => by omega, fun k x hk _ => ?_⟩
      cases k with
      | zero => cases hk; omega
      | succ k => have := h1 x (List.mem_of_getElem? hk); omega
theorem bsI_loop (ms : List Int) (hsz : ms.length ≤ 1000000) (a : Int) (at_ : Nat) (hc : CutI ms a at_) (sl : Value) (h : H) (hrow : Row h 1 sl (ms.map intL)) {P : Value → H → Prop} (hP : ∀ is, (is = true ↔ ms[at_]? = some a) → P (.tuple #[.int .i64 (at_ : Int), .bool is]) h) : ∀ (n i j : Nat), j - i = n → i ≤ at_ → at_ ≤ j → j ≤ ms.length →
    OkV (sh (rI F) c_l_1 (K_l_1 (rI F)) (setL [p0, p1, p6, p7, p8] [sl, .int .i64 a, .int .i64 (ms.length : Int), .int .i64 (i : Int), .int .i64 (j : Int)]) h) P := by
  intro n
  induction n using Nat.strongRecOn with
  | _ n ih =>
    intro i j hn hi hj hl
    rw [s_l_1]
    by_cases hij : i < j
    · obtain ⟨m, em⟩ : ∃ m, m = (i + j) / 2 := ⟨_, rfl⟩
      have hm : m < ms.length := by omega
      obtain ⟨x, hx⟩ : ∃ x, ms[m]? = some x := ⟨_, List.getElem?_eq_getElem hm⟩
      obtain ⟨b, o, cs, e, hv, hb, hg, ht⟩ := hrow.index (i := m) (r := intL x) (by rw [List.getElem?_map, hx]; rfl)
      have hlo := hc.lo m _ hx
      have hhi := hc.hi m _ hx
      have e1 : ((i : Int) + (j : Int)) / 2 = (m : Int) := by omega
      unfold intL at ht
      by_cases hxa : x < a
      · have := ih (j - (m + 1)) (by omega) (m + 1) j rfl (by have := fun h => hhi h; omega) hj hl
        refine OkV.eq (this.lp (l_l_1 F _ _ _ _ _ _)) ?_
        simp (disch := omega) [hij, zhp, zhq, shr1, e1, hv, hg, ht, zhU, hxa, zN]
      · have := ih (m - i) (by omega) i m rfl hi (by have := fun h => hlo h; omega) (by omega)
        refine OkV.eq (this.lp (l_l_1 F _ _ _ _ _ _)) ?_
        simp (disch := omega) [hij, zhp, zhq, shr1, e1, hv, hg, ht, zhU, hxa, zN]
    · have e : at_ = i := by omega
      subst e
      have e2 : j = at_ := by omega
      subst e2
      by_cases hlt : j < ms.length
      · obtain ⟨x, hx⟩ : ∃ x, ms[j]? = some x := ⟨_, List.getElem?_eq_getElem hlt⟩
        obtain ⟨b, o, cs, e, hv, hb, hg, ht⟩ := hrow.index (i := j) (r := intL x) (by rw [List.getElem?_map, hx]; rfl)
        unfold intL at ht
        by_cases hxa : x = a
        · refine OkV.eq (OkV.val (hP true (by rw [hx, hxa]; simp))) ?_
          simp (disch := omega) [hij, s_l_0, hlt, hv, hg, ht, hxa]
        · refine OkV.eq (OkV.val (hP false (by rw [hx]; simp [hxa]))) ?_
          simp (disch := omega) [hij, s_l_0, hlt, hv, hg, ht, hxa, snan_ok]
      · refine OkV.eq (OkV.val (hP false (by rw [List.getElem?_eq_none (by omega)]; simp))) ?_
        simp (disch := omega) [hij, s_l_0, hlt]
theorem bsI_ok (ms : List Int) (hsz : ms.length ≤ 1000000) (hp : ms.Pairwise (· < ·)) (a : Int) (sl : Value) (h : H) (hrow : Row h 1 sl (ms.map intL)) : ∃ (k : Nat) (is : Bool), zbs F (fnV n_l) [sl, .int .i64 a] h = some (.tuple #[.int .i64 (k : Int), .bool is], h) ∧ (is = true → ms[k]? = some a) ∧ (is = true ↔ a ∈ ms) := by
  obtain ⟨k, hc⟩ := cutI_of a ms hp
  suffices hr : Ret F (fnV n_l) [sl, .int .i64 a] h fun v h' => ∃ is, v = .tuple #[.int .i64 (k : Int), .bool is] ∧ h' = h ∧ (is = true ↔ ms[k]? = some a) by
    obtain ⟨v, h', e, is, rfl, rfl, h1⟩ := hr
    refine ⟨k, is, e, fun h => h1.1 h, fun h => List.mem_of_getElem? (h1.1 h), fun h => h1.2 ?_⟩
    obtain ⟨j, hj⟩ := List.mem_iff_getElem?.1 h
    have q1 := hc.lo j a hj
    by_cases hjk : j < k
    · have := q1 hjk; omega
    · by_cases e : j = k
      · subst e; exact hj
      · obtain ⟨y, hy⟩ : ∃ y, ms[k]? = some y := ⟨_, List.getElem?_eq_getElem (by have := (List.getElem?_eq_some_iff.1 hj).1; omega)⟩
        have h2 := hc.hi k y hy (Nat.le_refl _)
        have h3 := List.pairwise_iff_getElem.1 hp k j (List.getElem?_eq_some_iff.1 hy).1 (List.getElem?_eq_some_iff.1 hj).1 (by omega)
        rw [(List.getElem?_eq_some_iff.1 hy).2, (List.getElem?_eq_some_iff.1 hj).2] at h3
        omega
  obtain ⟨P, hPd⟩ : ∃ P : Value → H → Prop, P = fun v h' => ∃ is, v = .tuple #[.int .i64 (k : Int), .bool is] ∧ h' = h ∧ (is = true ↔ ms[k]? = some a) := ⟨_, rfl⟩
  rw [← hPd]
  refine Ret.fn F_l 2 (by decide) ?_
  rw [s_l]
  have hsv := hrow.slvM
  have := bsI_loop ms hsz a k hc sl h hrow (P := P) (fun is hi => by rw [hPd]; exact ⟨is, rfl, rfl, hi⟩) ms.length 0 ms.length rfl (Nat.zero_le _) hc.le (Nat.le_refl _)
  refine OkV.eq (this.lp (l_l_1 F _ _ _ _ _ _)) ?_
  simp (disch := omega) [hsv.len]
end Go.Ideal.J
namespace Go.Ideal.J
open Go Go.Ideal
theorem idx_cls {h : H} {u : Value} {c : List Nat} (hr : Row h 1 u (c.map natL)) {x : Nat} (hx : x < c.length) : ∃ b o cs e, (∀ h', zt 1 u (.int .i64 (x : Int)) h' = some (.pointer (some ⟨b, o, none⟩), h')) ∧ b < h.next ∧ h.get b = some (.cells cs e) ∧ zU 1 (zby o cs) = some (natL (c.getD x 0)) :=
  hr.index (by rw [List.getElem?_map, List.getD_eq_getElem?_getD, List.getElem?_eq_getElem hx]; rfl)
def ix (ms : List Int) (a : Int) : Option Nat := ms.findIdx? fun m => decide (m = a)
theorem zh0 {ms : List Int} (hp : ms.Pairwise (· < ·)) {a : Int} {k : Nat} (hk : ms[k]? = some a) : ix ms a = some k := by
  unfold ix
  rw [List.findIdx?_eq_some_iff_getElem]
  obtain ⟨h1, h2⟩ := List.getElem?_eq_some_iff.1 hk
  refine ⟨h1, by simpa using h2, fun j hj => ?_⟩
  have := List.pairwise_iff_getElem.1 hp j k (by omega) h1 hj
  simp; omega
theorem ix_none {ms : List Int} {a : Int} (h : a ∉ ms) : ix ms a = none := by
  unfold ix
  rw [List.findIdx?_eq_none_iff]
  intro x hx
  simp; rintro rfl; exact h hx
theorem ix_get {ms : List Int} {a : Int} {k : Nat} (h : ix ms a = some k) : ms[k]? = some a := by
  obtain ⟨h1, h2, _⟩ := List.findIdx?_eq_some_iff_getElem.1 h
  rw [List.getElem?_eq_getElem h1]; simpa using h2
def lgX (ms : List Int) (cf : Nat → Int) (x : Ed) : Option Ed := match ix ms (cf x.1.toNat), ix ms (cf x.2.1.toNat) with
  | some f, some t => some ((f : Int), (t : Int), x.2.2)
  | _, _ => none
def lgE (ms : List Int) (cf : Nat → Int) (es : List Ed) : List Ed := es.filterMap (lgX ms cf)
theorem lgE_snoc (ms : List Int) (cf : Nat → Int) (es : List Ed) (x : Ed) : lgE ms cf (es ++ [x]) = lgE ms cf es ++ (lgX ms cf x).toList := by
  unfold lgE
  rw [List.filterMap_append]
  congr 1
def clsI (c : List Nat) (a : Nat) : Int := ((c.getD a 0 : Nat) : Int)
theorem jleast8 (es : List Ed) (hsz : es.length ≤ 1000) (N : Nat) (hin : inB (N : Int) es) (lb : Int) (sl cv mv : Value) (c : List Nat) (hc : c.length = N) (ms : List Int) (hms : ms.Pairwise (· < ·)) (hml : ms.length ≤ 1000000) (pr po : Nat) (h0 : H) (hpo : po < h0.next) (hrow0 : Row h0 3 sl (es.map edL)) (hrowc : Row h0 1 cv (c.map natL)) (hrowm : Row h0 1 mv (ms.map intL))
    (hsl : ∀ b o n c, sl = .slice (some ⟨b, o, none⟩) n c → b < po) (hcv : ∀ b o n c, cv = .slice (some ⟨b, o, none⟩) n c → b < po) (hmv : ∀ b o n c, mv = .slice (some ⟨b, o, none⟩) n c → b < po) {P : Value → H → Prop}
    (hP : ∀ (h' : H) (sv : Value) (ob : Option Nat), FrD (fun j => po ≤ j) h0 h' → h'.get po = some (.cells (gL (ms.length : Int) lb sv) 0) → OwnB edL 3 h' sv (lgE ms (clsI c) es) ob → (∀ b, ob = some b → po < b) → OkV (sh (rI G2) c_h_7 (K_h_7 (rI G2)) (setL [p2, p11] [ptr pr, ptr po]) h') P) :
    ∀ (n i : Nat) (h : H) (sv : Value) (ob : Option Nat), i + n = es.length → FrD (fun j => po ≤ j) h0 h → h.get po = some (.cells (gL (ms.length : Int) lb sv) 0) → OwnB edL 3 h sv (lgE ms (clsI c) (es.take i)) ob → (∀ b, ob = some b → po < b) →
    OkV (sh (rI G2) c_h_8 (K_h_8 (rI G2)) (setL [p2, p4, p8, p11, p70, p71, p72] [ptr pr, cv, mv, ptr po, sl, .int .i64 (es.length : Int), .int .i64 (i : Int)]) h) P := by
  intro n
  induction n with
  | zero =>
    intro i h sv ob hi hf hg hgr hob
    have e : i = es.length := by omega
    subst e
    rw [List.take_length] at hgr
    rw [s_h_8]
    refine OkV.eq (hP h sv ob hf hg hgr hob) ?_
    simp (disch := omega)
  | succ n ih =>
    intro i h sv ob hi hf hg hgr hob
    have hil : i < es.length := by omega
    have hfn := hf.next
    have hxin := hin _ (List.getElem_mem hil)
    have htk : es.take (i + 1) = es.take i ++ [es[i]] := by rw [List.take_add_one, List.getElem?_eq_getElem hil]; rfl
    obtain ⟨b1, o1, cs1, e1, hv1, hb1, hg1, ht1⟩ := (hrow0.frD hf (fun b o n c e => by have := hsl b o n c e; omega)).index (i := i) (r := edL es[i]) (by simp [hil])
    generalize es[i] = x at *
    obtain ⟨x1, x2, x3⟩ := x
    obtain ⟨a, ha⟩ := Int.eq_ofNat_of_zero_le hxin.1
    obtain ⟨b, hb⟩ := Int.eq_ofNat_of_zero_le hxin.2.2.1
    simp only at ha hb hxin
    subst ha; subst hb
    have hl1 : (lgE ms (clsI c) (es.take i)).length ≤ i := by
      refine Nat.le_trans (List.length_filterMap_le _ _) ?_
      rw [List.length_take]; omega
    obtain ⟨h1, eh1⟩ : ∃ h1, h1 = h.new (.cells (edL ((a : Int), (b : Int), x3)) 0) := ⟨_, rfl⟩
    have hf1 : Fr h h1 := by rw [eh1]; exact .new _ _
    have hn1 : h1.next = h.next + 1 := by rw [eh1]; simp
    have gx : h1.get h.next = some (.cells (edL ((a : Int), (b : Int), x3)) 0) := by rw [eh1]; simp
    have hf01 : FrD (fun j => po ≤ j) h0 h1 := hf.trans hf1.D
    have rc := hrowc.frD hf01 (fun b o n c e => by have := hcv b o n c e; omega)
    have rm := hrowm.frD hf01 (fun b o n c e => by have := hmv b o n c e; omega)
    obtain ⟨b2, o2, cs2, e2, hv2, hb2, hg2, ht2⟩ := idx_cls rc (x := a) (by omega)
    obtain ⟨b3, o3, cs3, e3, hv3, hb3, hg3, ht3⟩ := idx_cls rc (x := b) (by omega)
    obtain ⟨k1, is1, ec1, q1, q2⟩ := bsI_ok ms hml hms (clsI c a) mv h1 rm
    obtain ⟨k2', is2, ec2, q3, q4⟩ := bsI_ok ms hml hms (clsI c b) mv h1 rm
    have ec1 := zbg leG2 ec1
    have ec2 := zbg leG2 ec2
    have hX : lgX ms (clsI c) ((a : Int), (b : Int), x3) = match ix ms (clsI c a), ix ms (clsI c b) with | some f, some t => some ((f : Int), (t : Int), x3) | _, _ => none := rfl
    have gp1 := (hf1.get po (by omega)).trans hg
    have hsv := hgr.slv
    obtain ⟨ca, eca⟩ : ∃ ca, ca = c.getD a 0 := ⟨_, rfl⟩
    obtain ⟨cb, ecb⟩ : ∃ cb, cb = c.getD b 0 := ⟨_, rfl⟩
    rw [show clsI c a = (ca : Int) from by rw [eca]; rfl] at ec1
    rw [show clsI c b = (cb : Int) from by rw [ecb]; rfl] at ec2
    rw [← eca] at ht2
    rw [← ecb] at ht3
    by_cases hb : is1 = true ∧ is2 = true
    · obtain ⟨rfl, rfl⟩ := hb
      rw [zh0 hms (q1 rfl), zh0 hms (q3 rfl)] at hX
      obtain ⟨h2, eh2⟩ : ∃ h2, h2 = h1.new (.cells (edL ((k1 : Int), (k2' : Int), x3)) 0) := ⟨_, rfl⟩
      have hf2 : Fr h1 h2 := by rw [eh2]; exact .new _ _
      have hn2 : h2.next = h.next + 2 := by rw [eh2]; simp; omega
      obtain ⟨h3, sv', ea, hg3', hn3, hf3⟩ := zjF encE (h := h2) (bytes := 24) (x := ((k1 : Int), (k2' : Int), x3)) (b := h1.next) (e := 0) (hgr.fr (hf1.trans hf2)) (by rw [eh2]; simp) (by omega)
      have gp3 : h3.get po = some (.cells (gL (ms.length : Int) lb sv) 0) := by rw [hf3.get _ (by omega) (fun e => by have := hob _ e; omega), hf2.get _ (by omega)]; exact gp1
      have sv1 := hg3'.slv
      obtain ⟨h4, eh4⟩ : ∃ h4, h4 = h3.put po (.cells (gL (ms.length : Int) lb sv') 0) := ⟨_, rfl⟩
      have hf4 : FrD (fun j => po ≤ j) h0 h4 := by
        rw [eh4]
        exact ((hf01.trans (hf2.D)).trans (hf3.mono fun j _ e => by have := hob _ e; omega)).put (.inr (Nat.le_refl _)) _
      have := ih (i + 1) h4 sv' (some h2.next) (by omega) hf4 (by rw [eh4]; exact zw rfl) (by
        rw [htk, lgE_snoc, hX, eh4]
        exact hg3'.frD ((FrD.refl _ _).put (D := fun j => j = po) (.inr rfl) _) (fun b e e2 => by cases e; omega)) (fun b e => by cases e; omega)
      rw [s_h_8]
      refine OkV.eq (this.lp (l_h_8 G2 _ _ _ _ _ _ _ _)) ?_
      simp (disch := omega) [hil, hv1, hg1, ht1, ← eh1, gx, hv2, hg2, ht2, ec1, hv3, hg3, ht3, ec2, gp1, hsv.take, hsv.one, zp, zl, ← eh2, ea, gp3, sv1.cells, sv1.cell, sv1.clean, ← eh4, s_h_9, zN]
    · have hn : lgX ms (clsI c) ((a : Int), (b : Int), x3) = none := by
        rw [hX]
        by_cases c1 : is1 = true
        · have c2 : is2 ≠ true := fun h => hb ⟨c1, h⟩
          rw [ix_none (a := clsI c b) (fun h => c2 (q4.2 h))]
          cases ix ms (clsI c a) <;> rfl
        · rw [ix_none (a := clsI c a) (fun h => c1 (q2.2 h))]
      have := ih (i + 1) h1 sv ob (by omega) hf01 gp1 (by rw [htk, lgE_snoc, hn]; simpa using hgr.fr hf1) hob
      rw [s_h_8]
      refine OkV.eq (this.lp (l_h_8 G2 _ _ _ _ _ _ _ _)) ?_
      cases is1 with
      | true =>
        have c2 : is2 = false := by cases is2 with | false => rfl | true => exact absurd ⟨rfl, rfl⟩ hb
        subst c2
        simp (disch := omega) [hil, hv1, hg1, ht1, ← eh1, gx, hv2, hg2, ht2, ec1, hv3, hg3, ht3, ec2, s_h_9, zN]
      | false => simp (disch := omega) [hil, hv1, hg1, ht1, ← eh1, gx, hv2, hg2, ht2, ec1, hv3, hg3, ht3, ec2, s_h_9, zN]
end Go.Ideal.J
namespace Go.Ideal.J
open Go Go.Ideal
theorem srtI_lt (l : List Int) : (srtI l).Pairwise (· < ·) := by
  unfold srtI
  refine zgn (fun a b c h1 h2 => by omega) (fun i j a b hij hi hj => ?_) (by rw [List.length_mergeSort]; exact Nat.le_refl _)
  have hp := List.pairwise_mergeSort (le := leI) (fun a b c h1 h2 => by rw [leI_eq] at *; simp at *; omega) (fun a b => by rw [leI_eq, leI_eq]; simp; omega) l
  have := List.pairwise_iff_getElem.1 hp i j (List.getElem?_eq_some_iff.1 hi).1 (List.getElem?_eq_some_iff.1 hj).1 hij
  rw [(List.getElem?_eq_some_iff.1 hi).2, (List.getElem?_eq_some_iff.1 hj).2, leI_eq] at this
  simp at this; omega
theorem srtI_mem (l : List Int) (x : Int) : x ∈ srtI l ↔ x ∈ l := by
  unfold srtI
  rw [ddN_mem (by rw [List.length_mergeSort]; exact Nat.le_refl _), List.take_of_length_le (by rw [List.length_mergeSort]; exact Nat.le_refl _), List.mem_mergeSort]
theorem leE_eq (x y : Ed) : leE x y = !zbH y x := by unfold leE; rw [ltT]
theorem srtE_lt (l : List Ed) : (srtE l).Pairwise (fun a b => zbH a b = true) := by
  unfold srtE
  have tr := fun a b c => swoE.trans a b c
  have nt := fun a b c => swoE.ntrans a b c
  simp only [ltT] at tr nt
  have ir := fun a => swoE.irrefl a
  simp only [ltT] at ir
  refine zgn (fun a b c h1 h2 => tr a b c h1 h2) (fun i j a b hij hi hj => ?_) (by rw [List.length_mergeSort]; exact Nat.le_refl _)
  have hp := List.pairwise_mergeSort (le := leE) (fun a b c h1 h2 => by
      rw [leE_eq] at *
      simp only [Bool.not_eq_true'] at *
      exact nt c b a h2 h1) (fun a b => by
      rw [leE_eq, leE_eq]
      cases h1 : zbH b a with
      | false => rfl
      | true =>
        cases h2 : zbH a b with
        | false => rfl
        | true => have := tr a b a h2 h1; rw [ir] at this; cases this) l
  have := List.pairwise_iff_getElem.1 hp i j (List.getElem?_eq_some_iff.1 hi).1 (List.getElem?_eq_some_iff.1 hj).1 hij
  rw [(List.getElem?_eq_some_iff.1 hi).2, (List.getElem?_eq_some_iff.1 hj).2, leE_eq] at this
  have h1 : zbH b a = false := by simpa using this
  cases h2 : zbH a b with
  | true => exact .inl rfl
  | false =>
    refine .inr (ltE_total a b ?_ ?_)
    · rw [ltT]; exact h2
    · rw [ltT]; exact h1
theorem srtE_mem (l : List Ed) (x : Ed) : x ∈ srtE l ↔ x ∈ l := by
  unfold srtE
  rw [ddN_mem (by rw [List.length_mergeSort]; exact Nat.le_refl _), List.take_of_length_le (by rw [List.length_mergeSort]; exact Nat.le_refl _), List.mem_mergeSort]
theorem srtI_len (l : List Int) : (srtI l).length ≤ l.length := ddN_len _ _
theorem srtE_len (l : List Ed) : (srtE l).length ≤ l.length := ddN_len _ _
theorem jleast7 (l : List Ed) (hl : l.length ≤ 1000000) (M lb : Int) (pr po : Nat) (h : H) (sv : Value) (ob : Option Nat) (hne : po ≠ pr) (hpo : po < h.next) (hg : h.get po = some (.cells (gL M lb sv) 0)) (r0 : List Value) (hr0 : r0.length = 3) (hpr : pr < h.next) (hgr : h.get pr = some (.cells r0 0)) (ho : OwnB edL 3 h sv l ob) (hob : ∀ b, ob = some b → b ≠ po ∧ b ≠ pr) {P : Value → H → Prop}
    (hP : ∀ h' u, FrD (fun j => j = po ∨ j = pr ∨ ob = some j) h h' → Row h' 3 u ((srtE l).map edL) → (∀ b o n c, u = .slice (some ⟨b, o, none⟩) n c → ob = some b) → P (zea (gV M lb u) (.int .i64 0)) h') :
    OkV (sh (rI G2) c_h_7 (K_h_7 (rI G2)) (setL [p2, p11] [ptr pr, ptr po]) h) P := by
  rw [s_h_7]
  have hsv := ho.slv
  obtain ⟨u, h1, e1, hrow, hf1, hub⟩ := sortedE_ok hl ho
  have hfn1 := hf1.next
  have g1 := (hf1.get po hpo (fun e => (hob _ e).1 rfl)).trans hg
  have gr1 := (hf1.get pr hpr (fun e => (hob _ e).2 rfl)).trans hgr
  have su := hrow.slvM
  obtain ⟨a, b, c, rfl⟩ : ∃ a b c, r0 = [a, b, c] := by
    match r0, hr0 with
    | [a, b, c], _ => exact ⟨a, b, c, rfl⟩
  obtain ⟨h2, eh2⟩ : ∃ h2, h2 = h1.put po (.cells (gL M lb u) 0) := ⟨_, rfl⟩
  have g2 : h2.get po = some (.cells (gL M lb u) 0) := by rw [eh2]; exact zw rfl
  have gr2 : h2.get pr = some (.cells [a, b, c] 0) := by rw [eh2, zo (Ne.symm hne)]; exact gr1
  obtain ⟨h3, eh3⟩ : ∃ h3, h3 = h2.put pr (.cells (gL M lb u) 0) := ⟨_, rfl⟩
  have g3 : h3.get pr = some (.cells (gL M lb u) 0) := by rw [eh3]; exact zw rfl
  have hf3 : FrD (fun j => j = po ∨ j = pr ∨ ob = some j) h h3 := by
    rw [eh3, eh2]
    exact ((hf1.mono fun _ _ e => .inr (.inr e)).put (.inr (.inl rfl)) _).put (.inr (.inr (.inl rfl))) _
  have hrow3 : Row h3 3 u ((srtE l).map edL) := by
    rw [eh3, eh2]
    refine hrow.frD (((FrD.refl (fun j => j = po ∨ j = pr) h1).put (.inr (.inl rfl)) _).put (.inr (.inr rfl)) _) fun b o n c e => ?_
    have := hob b (hub b o n c e)
    rintro (h | h)
    · exact this.1 h
    · exact this.2 h
  refine OkV.eq (OkV.val (hP h3 u hf3 hrow3 hub)) ?_
  simp (disch := omega) [hg, hsv.take, hsv.one, e1, g1, su.cells, su.cell, su.clean, su.take, ← eh2, g2, gr2, ← eh3, g3]
structure LstOk (es : List Ed) (N : Nat) (lb : Int) (c : List Nat) (vs : List Int) (ms : List Int) (l : List Ed) : Prop where
  nd : vs.Nodup
  bd : ∀ v ∈ vs, 0 ≤ v ∧ v < N
  rch : ∀ a : Nat, (a : Int) ∈ vs ↔ Rch es a
  hm : ms = srtI (vs.map fun v => clsI c v.toNat)
  hl : l = srtE (lgE ms (clsI c) es)
theorem jleast5 (es : List Ed) (hsz : es.length ≤ 1000) (N : Nat) (hN : N ≤ 200) (hin : inB (N : Int) es) (lb : Int) (sl cv mv : Value) (c : List Nat) (hc : c.length = N) (vs : List Int) (hnd : vs.Nodup) (hbd : ∀ v ∈ vs, 0 ≤ v ∧ v < N) (hrch : ∀ a : Nat, (a : Int) ∈ vs ↔ Rch es a) (pg pr : Nat) (lo : Nat) (h : H) (hlo : lo ≤ h.next) (ob : Option Nat) (ho : OwnB intL 1 h mv (vs.map fun v => clsI c v.toNat) ob) (hob : ∀ b, ob = some b → lo ≤ b)
    (hrow : Row h 3 sl (es.map edL)) (hrowc : Row h 1 cv (c.map natL)) (hsl : ∀ b o n c, sl = .slice (some ⟨b, o, none⟩) n c → b < lo) (hcv : ∀ b o n c, cv = .slice (some ⟨b, o, none⟩) n c → b < lo) (hpg : pg < lo) (hgg : h.get pg = some (.cells (gL (N : Int) lb sl) 0)) (hpr : pr < lo) (r0 : List Value) (hr0 : r0.length = 3) (hgr : h.get pr = some (.cells r0 0)) {P : Value → H → Prop}
    (hP : ∀ h' u ms l, FrD (fun j => j = pr ∨ lo ≤ j) h h' → LstOk es N lb c vs ms l → Row h' 3 u (l.map edL) → (∀ b o n c, u = .slice (some ⟨b, o, none⟩) n c → lo ≤ b) → P (zea (gV (ms.length : Int) lb u) (.int .i64 0)) h') :
    OkV (sh (rI G2) c_h_5 (K_h_5 (rI G2)) (setL [p1, p2, p4, p8] [ptr pg, ptr pr, cv, mv]) h) P := by
  have hvl : vs.length ≤ N := zcR hnd hbd
  have hsv := hrow.slvM
  rw [s_h_5]
  obtain ⟨mv', h1, e1, hrowm, hf1, hub⟩ := sortedI_ok (l := vs.map fun v => clsI c v.toNat) (by rw [List.length_map]; omega) ho
  obtain ⟨ms, ems⟩ : ∃ ms, ms = srtI (vs.map fun v => clsI c v.toNat) := ⟨_, rfl⟩
  rw [← ems] at hrowm
  have hmsl : ms.length ≤ N := by rw [ems]; refine Nat.le_trans (srtI_len _) ?_; rw [List.length_map]; exact hvl
  have hsm := hrowm.slvM
  have hfn1 := hf1.next
  have nob : ∀ b, b < lo → ¬ ob = some b := fun b hb e => by have := hob b e; omega
  have g1 := (hf1.get pg (by omega) (nob _ hpg)).trans hgg
  obtain ⟨h2, eh2⟩ : ∃ h2, h2 = h1.new (.cells (gL (ms.length : Int) lb (.slice none 0 0)) 0) := ⟨_, rfl⟩
  have hf2 : Fr h1 h2 := by rw [eh2]; exact .new _ _
  have hn2 : h2.next = h1.next + 1 := by rw [eh2]; simp
  have gp2 : h2.get h1.next = some (.cells (gL (ms.length : Int) lb (.slice none 0 0)) 0) := by rw [eh2]; simp
  have g2 := (hf2.get pg (by omega)).trans g1
  have hf12 : FrD (fun j => ob = some j) h h2 := hf1.trans hf2.D
  have hmv : ∀ b o n c, mv' = .slice (some ⟨b, o, none⟩) n c → b < h1.next := fun b o n c e => hrowm.lt e
  have := jleast8 es hsz N hin lb sl cv mv' c hc ms (by rw [ems]; exact srtI_lt _) (by omega) pr h1.next h2 (by omega) (hrow.frD hf12 fun b o n c e => nob b (hsl b o n c e)) (hrowc.frD hf12 fun b o n c e => nob b (hcv b o n c e)) (hrowm.fr hf2) (fun b o n c e => by have := hsl b o n c e; omega) (fun b o n c e => by have := hcv b o n c e; omega) hmv (P := P)
    (fun h' sv ob' hf' hg' ho' hob' => by
      have hfn' := hf'.next
      refine jleast7 (lgE ms (clsI c) es) (by refine Nat.le_trans (List.length_filterMap_le _ _) ?_; omega) (ms.length : Int) lb pr h1.next h' sv ob' (by omega) (by omega) hg' r0 hr0 (by omega) ?_ ho' (fun b e => by have := hob' b e; omega) (fun h'' u hf'' hrow'' hub'' => ?_)
      · rw [hf'.get pr (by omega) (by omega), hf2.get pr (by omega), hf1.get pr (by omega) (nob _ hpr)]; exact hgr
      · have hfn'' := hf''.next
        refine hP h'' u ms _ ⟨by omega, fun i hi hd => ?_⟩ ⟨hnd, hbd, hrch, ems, rfl⟩ hrow'' (fun b o n c e => by have := hob' b (hub'' b o n c e); omega)
        have h1 : ¬ i = pr := fun e => hd (.inl e)
        have h2 : i < lo := by
          rcases Nat.lt_or_ge i lo with h | h
          · exact h
          · exact absurd (.inr h) hd
        rw [hf''.get i (by omega) ?_, hf'.get i (by omega) (by omega), hf2.get i (by omega), hf1.get i (by omega) (nob _ h2)]
        rintro (h | h | h)
        · omega
        · exact h1 h
        · have := hob' _ h; omega) es.length 0 h2 _ none (by omega) (.refl _ _) gp2 (.inl ⟨rfl, rfl, by simp [lgE]⟩) (by simp)
  refine OkV.eq (this.lp (l_h_8 G2 _ _ _ _ _ _ _ _)) ?_
  simp (disch := omega) [e1, hsm.len, g1, zp, ← eh2, g2, hsv.take, hsv.one, hsv.len]
end Go.Ideal.J
namespace Go.Ideal.J
open Go Go.Ideal
section
variable (es : List Ed) (hsz : es.length ≤ 1000) (N : Nat) (hN : N ≤ 200) (hin : inB (N : Int) es) (lb : Int) (sl cv : Value) (c : List Nat) (hc : c.length = N) (vs : List Int) (hnd : vs.Nodup) (hbd : ∀ v ∈ vs, 0 ≤ v ∧ v < N) (hrch : ∀ a : Nat, (a : Int) ∈ vs ↔ Rch es a) (pg pr : Nat) (lo : Nat) (h0 : H) (hlo : lo ≤ h0.next)
  (hrow : Row h0 3 sl (es.map edL)) (hrowc : Row h0 1 cv (c.map natL)) (hsl : ∀ b o n c, sl = .slice (some ⟨b, o, none⟩) n c → b < lo) (hcv : ∀ b o n c, cv = .slice (some ⟨b, o, none⟩) n c → b < lo) (hpg : pg < lo) (hgg : h0.get pg = some (.cells (gL (N : Int) lb sl) 0)) (hpr : pr < lo) (r0 : List Value) (hr0 : r0.length = 3) (hgr : h0.get pr = some (.cells r0 0)) {P : Value → H → Prop}
  (hP : ∀ h' u ms l, FrD (fun j => j = pr ∨ lo ≤ j) h0 h' → LstOk es N lb c vs ms l → Row h' 3 u (l.map edL) → (∀ b o n c, u = .slice (some ⟨b, o, none⟩) n c → lo ≤ b) → P (zea (gV (ms.length : Int) lb u) (.int .i64 0)) h')
include hsz hN hin hc hnd hbd hrch hlo hrow hrowc hsl hcv hpg hgg hpr hr0 hgr hP
theorem jleast6 (slv : Value) (ob0 : Option Nat) (hvs : Grow h0 1 slv (vs.map inL) ob0) : ∀ (n i : Nat) (h : H) (mv : Value) (ob : Option Nat), i + n = vs.length → FrD (fun j => h0.next ≤ j) h0 h → OwnB intL 1 h mv ((vs.take i).map fun v => clsI c v.toNat) ob → (∀ b, ob = some b → h0.next ≤ b) →
    OkV (sh (rI G2) c_h_6 (K_h_6 (rI G2)) (setL [p1, p2, p4, p8, p48, p49, p50] [ptr pg, ptr pr, cv, mv, slv, .int .i64 (vs.length : Int), .int .i64 (i : Int)]) h) P := by
  have hvl : vs.length ≤ N := zcR hnd hbd
  intro n
  induction n with
  | zero =>
    intro i h mv ob hi hf ho hob
    have e : i = vs.length := by omega
    subst e
    rw [List.take_length] at ho
    have hfn := hf.next
    rw [s_h_6]
    refine OkV.eq (jleast5 es hsz N hN hin lb sl cv mv c hc vs hnd hbd hrch pg pr lo h (by omega) ob ho (fun b e => by have := hob b e; omega) (hrow.frD hf fun b o n c e => by have := hrow.lt e; omega) (hrowc.frD hf fun b o n c e => by have := hrowc.lt e; omega) hsl hcv hpg ((hf.get _ (by omega) (by omega)).trans hgg) hpr r0 hr0 ((hf.get _ (by omega) (by omega)).trans hgr) (P := P) (fun h' u ms l hf' a b d => hP h' u ms l ((hf.mono fun j _ e => .inr (by omega)).trans hf') a b d)) ?_
    simp (disch := omega)
  | succ n ih =>
    intro i h mv ob hi hf ho hob
    have hil : i < vs.length := by omega
    have hfn := hf.next
    obtain ⟨v, hv⟩ : ∃ v, vs[i]? = some v := ⟨_, List.getElem?_eq_getElem hil⟩
    have hvb := hbd v (List.mem_of_getElem? hv)
    obtain ⟨a, ha⟩ := Int.eq_ofNat_of_zero_le hvb.1
    subst ha
    have rv := (hvs.frD hf fun b e => by subst e; have := hvs.lt; omega).row (by omega)
    obtain ⟨b1, o1, cs1, e1, hv1, hb1, hg1, ht1⟩ := rv.index (i := i) (r := inL (a : Int)) (by rw [List.getElem?_map, hv]; rfl)
    obtain ⟨b2, o2, cs2, e2, hv2, hb2, hg2, ht2⟩ := idx_cls (hrowc.frD hf fun b o n c e => by have := hrowc.lt e; omega) (x := a) (by omega)
    obtain ⟨ca, eca⟩ : ∃ ca, ca = c.getD a 0 := ⟨_, rfl⟩
    rw [← eca] at ht2
    obtain ⟨h1, eh1⟩ : ∃ h1, h1 = h.new (.cells (intL (ca : Int)) 0) := ⟨_, rfl⟩
    have hf1 : Fr h h1 := by rw [eh1]; exact .new _ _
    have hn1 : h1.next = h.next + 1 := by rw [eh1]; simp
    obtain ⟨h2, mv', ea, ho2, hn2, hf2⟩ := zjF encI (h := h1) (bytes := 8) (x := (ca : Int)) (b := h.next) (e := 0) (ho.fr hf1) (by rw [eh1]; simp) (by rw [List.length_map, List.length_take]; omega)
    have htk : (vs.take (i + 1)).map (fun v => clsI c v.toNat) = (vs.take i).map (fun v => clsI c v.toNat) ++ [(ca : Int)] := by
      rw [List.take_add_one, hv, List.map_append, eca]; rfl
    have := ih (i + 1) h2 mv' (some h1.next) (by omega) ((hf.trans hf1.D).trans (hf2.mono fun j _ e => hob j e)) (by rw [htk]; exact ho2) (fun b e => by cases e; omega)
    rw [s_h_6]
    refine OkV.eq (this.lp (l_h_6 G2 _ _ _ _ _ _ _ _)) ?_
    unfold intL at eh1
    simp (disch := omega) [hil, hv1, hg1, ht1, hv2, hg2, ht2, zp, zl, ← eh1, ea, zN]
theorem jleast0 (slv : Value) (ob0 : Option Nat) (hvs : Grow h0 1 slv (vs.map inL) ob0) (pb : Nat) (hgb : h0.get pb = some (.cells [slv] 0)) :
    OkV (sh (rI G2) zi3 (zi8 (rI G2)) (setL [p1, p2, p4, p5] [ptr pg, ptr pr, cv, ptr pb]) h0) P := by
  have sv := hvs.slvM
  have := jleast6 es hsz N hN hin lb sl cv c hc vs hnd hbd hrch pg pr lo h0 hlo hrow hrowc hsl hcv hpg hgg hpr r0 hr0 hgr hP slv ob0 hvs vs.length 0 h0 (.slice none 0 0) none (by omega) (.refl _ _) (.inl ⟨rfl, rfl, by simp⟩) (by simp)
  rw [s_h_0]
  refine OkV.eq (this.lp (l_h_6 G2 _ _ _ _ _ _ _ _)) ?_
  simp (disch := omega) [hgb, sv.take, sv.one, sv.len]
end
def LstA (st lb : Int) (es : List Ed) (v : Value) (lo : Nat) (h' : H) : Prop :=
  (chk st lb es = false ∧ v = zea (gV 0 0 (.slice none 0 0)) (.int .i64 2)) ∨
  (chk st lb es = true ∧ ∃ u k vs ms l, v = zea (gV ((ms : List Int).length : Int) lb u) (.int .i64 0) ∧ fnd (rN es st.toNat k) es ((k : Int) + 1) st.toNat = [] ∧ LstOk es st.toNat lb (cls (alk es st.toNat k) st.toNat).1 vs ms l ∧ Row h' 3 u (l.map edL) ∧ ∀ b o n c, u = .slice (some ⟨b, o, none⟩) n c → lo ≤ b)
theorem jLeast_ok (st lb : Int) (es : List Ed) (sl : Value) (h : H) (hrow : Row h 3 sl (es.map edL)) :
    Ret G2 (fnV n_h) [gV st lb sl] h fun v h' => Fr h h' ∧ LstA st lb es v h.next h' := by
  obtain ⟨P, hPd⟩ : ∃ P : Value → H → Prop, P = fun v h' => Fr h h' ∧ LstA st lb es v h.next h' := ⟨_, rfl⟩
  rw [← hPd]
  have hsv := hrow.slvM
  refine Ret.fn (leG2 _ _ F_h) 1 (by decide) ?_
  rw [s_h]
  obtain ⟨q, eq⟩ : ∃ q, q = h.next := ⟨_, rfl⟩
  obtain ⟨h1, eh1⟩ : ∃ h1, h1 = (h.new (.cells (gL st lb sl) 0)).new (.cells (gL 0 0 (.slice none 0 0)) 0) := ⟨_, rfl⟩
  have hf1 : Fr h h1 := by rw [eh1]; exact (Fr.new _ _).newR _
  have hn1 : h1.next = q + 2 := by rw [eh1, eq]; simp
  have g0 : h1.get q = some (.cells (gL st lb sl) 0) := by rw [eh1, eq]; simp (disch := omega)
  have gr : h1.get (q + 1) = some (.cells (gL 0 0 (.slice none 0 0)) 0) := by rw [eh1, eq]; simp (disch := omega)
  obtain ⟨h2, e2, hf2⟩ := zcH st lb sl es h1 (hrow.fr hf1)
  have e2 := zbg leG2 e2
  have hfn2 := hf2.next
  have g02 := (hf2.get _ (by omega)).trans g0
  have gr2 := (hf2.get _ (by omega)).trans gr
  cases hc : chk st lb es with
  | false =>
    rw [hc] at e2
    obtain ⟨h3, eh3⟩ : ∃ h3, h3 = h2.put (q + 1) (.cells (gL 0 0 (.slice none 0 0)) 0) := ⟨_, rfl⟩
    have g3 : h3.get (q + 1) = some (.cells (gL 0 0 (.slice none 0 0)) 0) := by rw [eh3]; exact zw rfl
    refine OkV.eq (OkV.val (v := zea (gV 0 0 (.slice none 0 0)) (.int .i64 2)) (h := h3) (by
      rw [hPd]
      refine ⟨(hf1.trans hf2).transD (D := fun j => j = q + 1) (by rw [eh3]; exact (FrD.refl (fun j => j = q + 1) _).put (.inr rfl) _) (fun i hi => by omega), .inl ⟨hc, rfl⟩⟩)) ?_
    simp (disch := first | omega | (simp only [za, zb]; done) | (simp only [za, zb]; omega)) [↓zH, ↓z6, ↓zK, hsv.clean, hsv.take, ← eq, ← eh1, g0, e2, erk, zp, gr2, ← eh3, g3]
  | true =>
    rw [hc] at e2
    have fm := (zgp st lb es).1 hc
    obtain ⟨N, rfl⟩ := Int.eq_ofNat_of_zero_le (show 0 ≤ st by have := fm.st1; omega)
    have hN := fm.st2
    have hN1 := fm.st1
    have hlen := fm.len
    obtain ⟨cv, h3, k, ob, e3, hf3, hk, hg3, hob⟩ := zjB es fm.sortedF (by omega) N (by omega) fm.inB lb sl h2 ((hrow.fr hf1).fr hf2)
    have e3 := zbg leG2 e3
    have hfn3 := hf3.next
    obtain ⟨c, ec⟩ : ∃ c, c = (cls (alk es N k) N).1 := ⟨_, rfl⟩
    have hcl : c.length = N := by rw [ec]; exact (zjy (alk_eqv fm.inB hk) N (Nat.le_refl _)).len
    rw [← ec] at hg3
    have g03 := (hf3.get _ (by omega)).trans g02
    have gr3 := (hf3.get _ (by omega)).trans gr2
    obtain ⟨h4, eh4⟩ : ∃ h4, h4 = h3.new (.cells (inL 0) 0) := ⟨_, rfl⟩
    have hf4 : Fr h3 h4 := by rw [eh4]; exact .new _ _
    have hn4 : h4.next = h3.next + 1 := by rw [eh4]; simp
    have ga4 : h4.get h3.next = some (.cells (inL 0) 0) := by rw [eh4]; simp
    obtain ⟨slv, eslv⟩ : ∃ slv : Value, slv = .slice (some ⟨h3.next, 0, none⟩) 1 1 := ⟨_, rfl⟩
    obtain ⟨h5, eh5⟩ : ∃ h5, h5 = h4.new (.cells [slv] 0) := ⟨_, rfl⟩
    have hf5 : Fr h4 h5 := by rw [eh5]; exact .new _ _
    have hn5 : h5.next = h3.next + 2 := by rw [eh5]; simp; omega
    have gb5 : h5.get (h3.next + 1) = some (.cells [slv] 0) := by rw [eh5, ← hn4]; simp
    have hgrow : Grow h5 1 slv ([(0 : Int)].map inL) (some h3.next) := by
      have := Grow.full (h := h5) (sz := 1) (b := h3.next) (e := 0) (rows := [inL 0]) (by omega) ((hf5.get _ (by omega)).trans ga4) (by simp) (by decide)
      rw [eslv]; exact this
    have hF3 : Fr h h3 := (hf1.trans hf2).trans hf3
    have hF5 : Fr h h5 := (hF3.trans hf4).trans hf5
    have hrowc := hg3.row (by omega)
    have := jleast_loop es fm.sortedF (by omega) N lb fm.inB (by omega) sl (.int .i64 0) cv q (q + 1) (h3.next + 1) h3 (hrow.fr hF3) (by omega) g03 (by omega) (P := P)
      (fun h' slv' vs ob' hf' hgb' hpb' hgr' hob' hnd hbd hrch => by
        have hfn' := hf'.next
        refine jleast0 es (by omega) N (by omega) fm.inB lb sl cv c hcl vs hnd hbd hrch q (q + 1) h3.next h' (by omega) ((hrow.fr hF3).fr hf') (hrowc.fr hf') (fun b o n c e => by have := hrow.lt e; omega) (fun b o n c e => hrowc.lt e) (by omega) ((hf'.get _ (by omega)).trans g03) (by omega) _ rfl ((hf'.get _ (by omega)).trans gr3) (fun h'' u ms l hf'' hok hrow'' hu => ?_) slv' ob' hgr' (h3.next + 1) hgb'
        have hfn'' := hf''.next
        rw [hPd]
        refine ⟨⟨by omega, fun i hi => ?_⟩, .inr ⟨hc, u, k, vs, ms, l, rfl, ?_, ?_, hrow'', fun b o n c e => by have := hu b o n c e; omega⟩⟩
        · rw [hf''.get i (by omega) (by omega), hf'.get i (by omega), hF3.get i hi]
        · simpa using hk
        · rw [ec] at hok; simpa using hok) N 0 h5 [0] slv (some h3.next) rfl (hf4.trans hf5) gb5 (by omega) hgrow (fun b e => by cases e; omega) (by simp) (by simp; omega) (by simp) (by simp) (by simpa using Rch.zero) (by simp)
    refine OkV.eq (this.lp (l_h_1 G2 _ _ _ _ _ _ _)) ?_
    have bs : zM 1 [Value.int .i64 0] h3 = some (slv, h4) := by rw [vSlice_eq, eslv, eh4]
    have sc : zj slv = [slv] := by rw [eslv]; rfl
    have si : zbb slv = true := by rw [eslv]; rfl
    simp (disch := first | omega | (simp only [za, zb]; done) | (simp only [za, zb]; omega)) [↓zH, ↓z6, ↓zK, hsv.clean, hsv.take, ← eq, ← eh1, g0, e2, erk, g02, e3, zp, zl, ← eh4, ← eslv, sc, si, hn4, ← eh5]
end Go.Ideal.J
namespace Go.Ideal.J
open Go Go.Ideal
def z0 (x : Ed) : Ed := (x.1, x.2.1, 0)
section
variable (es : List Ed) (hsz : es.length ≤ 1000) (N : Nat) (hN : N ≤ 1000) (hin : inB (N : Int) es) (lb : Int) (sl : Value) (pg q : Nat) (h0 : H) (hrow0 : Row h0 3 sl (es.map edL)) (hpg : pg < h0.next) (hgg : h0.get pg = some (.cells (gL (N : Int) lb sl) 0)) (hq : q < h0.next) (hpq : pg ≠ q) (hsl : ∀ b o n c, sl = .slice (some ⟨b, o, none⟩) n c → b ≠ q) {P : Value → H → Prop}
include hsz hN hin hrow0 hpg hgg hq hpq hsl
end
end Go.Ideal.J
namespace Go.Ideal.J
open Go Go.Ideal
theorem Grow.first {h : H} {sz : Nat} {v : Value} {rows : List (List Value)} {ob : Option Nat} (hs : 0 < sz) (hg : Grow h sz v rows ob) {k : Nat} (hk : k ≤ rows.length) : ∃ v', zbk sz h none (some (.int .i64 (k : Int))) v = some (v', h) ∧ Row h sz v' (rows.take k) := by
  have rd : ∀ {b e : Nat} {rows : List (List Value)}, (∀ r ∈ rows, r.length = sz ∧ r.all zS = true) → ∀ (i : Nat) r, rows[i]? = some r → zU sz (zby (0 + i * sz) rows.flatten) = some r := by
    intro b e rows hr i r hi
    have hE : rows.flatten = (rows.take i).flatten ++ (r ++ (rows.drop (i + 1)).flatten) := by
      have hl := (List.getElem?_eq_some_iff.1 hi).1
      conv => lhs; rw [← List.take_append_drop i rows]
      rw [List.flatten_append, List.drop_eq_getElem_cons hl, List.flatten_cons, (List.getElem?_eq_some_iff.1 hi).2]
    have hm := hr r (List.mem_of_getElem? hi)
    have hl : (rows.take i).flatten.length = i * sz := by
      rw [zeR (sz := sz) (fun x hx => (hr x (List.mem_of_mem_take hx)).1), List.length_take, Nat.min_eq_left (by have := (List.getElem?_eq_some_iff.1 hi).1; omega)]
    rw [hE, Nat.zero_add, ← hl, zem]
    exact zdi hm.2 hm.1.symm
  have htl : (rows.take k).length = k := by rw [List.length_take]; omega
  cases hg with
  | nil =>
    have : k = 0 := by simpa using hk
    subst this
    exact ⟨_, rfl, .nil⟩
  | @cells b rows hlt hgb hr =>
    have hcl : rows.flatten.length = rows.length * sz := zeR fun r hx => (hr r hx).1
    refine ⟨_, slice_to hs hgb hcl hk, ?_⟩
    have := Row.cells (h := h) (off := 0) (cap := zk) (sz := sz) (rows := rows.take k) hlt hgb (fun i r hi => by
      rw [List.getElem?_take] at hi
      split at hi
      · exact rd (b := b) (e := 0) hr i r hi
      · cases hi) (.inl ⟨rfl, rfl, hs, by rw [htl, hcl, Nat.zero_add]; exact Nat.mul_le_mul_right _ hk⟩)
    rwa [htl] at this
  | @full b e rows hlt hgb hr hc =>
    have hs' : zbk sz h none (some (.int .i64 (k : Int))) (.slice (some ⟨b, 0, none⟩) rows.length rows.length) = some (.slice (some ⟨b, 0, none⟩) k rows.length, h) := by
      have : Go.Ideal.inB ((k : Nat) : Int) rows.length = some k := by show (if Nat.ble k rows.length = true then _ else _) = _; rw [if_pos (by simpa using hk)]
      unfold zbk; dsimp only
      rw [if_neg (by simp; omega)]
      simp only [zdr, Option.bind_some, this, Option.map_some]
      simp
    refine ⟨_, hs', ?_⟩
    have := Row.cells (h := h) (off := 0) (cap := rows.length) (sz := sz) (rows := rows.take k) hlt hgb (fun i r hi => by
      rw [List.getElem?_take] at hi
      split at hi
      · exact rd (b := b) (e := e) hr i r hi
      · cases hi) (.inr ⟨hc, by rw [htl]; exact hk⟩)
    rwa [htl] at this
def addL : List Ed → Ed → List Ed
  | [], x => [x]
  | y :: l, x => if zbH y x then y :: addL l x else if y = x then y :: l else x :: y :: l
end Go.Ideal.J
set_option maxHeartbeats 2000000
namespace Go.Ideal.J
open Go Go.Ideal
end Go.Ideal.J
namespace Go.Ideal.J
open Go Go.Ideal
structure RC2 (es : List Ed) (N : Nat) (h : H) (tl tr : Value) (lvs rvs : List Value) (R : Int → Int → Int) : Prop where
  rl : Row h 1 tl (lvs.map fun v => [v])
  rr : Row h 1 tr (rvs.map fun v => [v])
  lst : ∀ a : Nat, a < N → ∃ lv, lvs[a]? = some lv ∧ Row h 3 lv ((outs es a).map edL)
  mat : ∀ a : Nat, a < N → ∃ (q : Nat) (is : List Int), rvs[a]? = some (slF q N) ∧ h.get q = some (.cells (is.map fun i => .int .i64 i) 0) ∧ is.length = N ∧ (∀ c : Nat, c < N → is[c]? = some (R a c)) ∧ q < h.next
theorem RC2.fr {es : List Ed} {N : Nat} {h h' : H} {tl tr : Value} {lvs rvs : List Value} {R : Int → Int → Int} (r : RC2 es N h tl tr lvs rvs R) (hf : Fr h h') : RC2 es N h' tl tr lvs rvs R where
  rl := r.rl.fr hf
  rr := r.rr.fr hf
  lst := fun a ha => by obtain ⟨lv, h1, h2⟩ := r.lst a ha; exact ⟨lv, h1, h2.fr hf⟩
  mat := fun a ha => by
    obtain ⟨q, is, h1, h2, h3, h4, h5⟩ := r.mat a ha
    exact ⟨q, is, h1, (hf.get _ h5).trans h2, h3, h4, Nat.lt_of_lt_of_le h5 hf.next⟩
end Go.Ideal.J
namespace Go.Ideal.J
open Go Go.Ideal
end Go.Ideal.J
namespace Go.Ideal.J
open Go Go.Ideal
theorem map_i64 : ∀ {l l' : List Int}, l.map (fun i => Value.int .i64 i) = l'.map (fun i => Value.int .i64 i) → l = l'
  | [], [], _ => rfl
  | [], _ :: _, h => by simp at h
  | _ :: _, [], h => by simp at h
  | x :: l, y :: l', h => by have h := List.cons.inj h; rw [(Value.int.inj h.1).2, map_i64 h.2]
structure RC3 (es : List Ed) (N : Nat) (lo : Nat) (h : H) (tl tr : Value) (lvs : List Value) (qs : List Nat) (R : Int → Int → Int) : Prop where
  rl : Row h 1 tl (lvs.map fun v => [v])
  rr : Row h 1 tr (qs.map fun q => [slF q N])
  lst : ∀ a : Nat, a < N → ∃ lv, lvs[a]? = some lv ∧ Row h 3 lv ((outs es a).map edL) ∧ ∀ b o n c, lv = .slice (some ⟨b, o, none⟩) n c → b ∉ qs
  nl : ∀ b o n c, tl = .slice (some ⟨b, o, none⟩) n c → b ∉ qs
  nr : ∀ b o n c, tr = .slice (some ⟨b, o, none⟩) n c → b ∉ qs
  nd : qs.Nodup
  ql : ∀ q ∈ qs, lo ≤ q ∧ q < h.next
  len : qs.length = N
  mat : ∀ (a q : Nat), qs[a]? = some q → ∃ is : List Int, h.get q = some (.cells (is.map fun i => .int .i64 i) 0) ∧ is.length = N ∧ ∀ c : Nat, c < N → is[c]? = some (R a c)
theorem RC3.two {es : List Ed} {N lo : Nat} {h : H} {tl tr : Value} {lvs : List Value} {qs : List Nat} {R : Int → Int → Int} (r : RC3 es N lo h tl tr lvs qs R) : RC2 es N h tl tr lvs (qs.map fun q => slF q N) R where
  rl := r.rl
  rr := by rw [List.map_map]; exact r.rr
  lst := fun a ha => by obtain ⟨lv, h1, h2, _⟩ := r.lst a ha; exact ⟨lv, h1, h2⟩
  mat := fun a ha => by
    have hq : qs[a]? = some (qs[a]'(by rw [r.len]; exact ha)) := List.getElem?_eq_getElem _
    obtain ⟨is, h1, h2, h3⟩ := r.mat a _ hq
    exact ⟨_, is, by rw [List.getElem?_map, hq]; rfl, h1, h2, h3, (r.ql _ (List.mem_of_getElem? hq)).2⟩
theorem RC3.fr {es : List Ed} {N lo : Nat} {h h' : H} {tl tr : Value} {lvs : List Value} {qs : List Nat} {R : Int → Int → Int} (r : RC3 es N lo h tl tr lvs qs R) (hf : Fr h h') : RC3 es N lo h' tl tr lvs qs R where
  rl := r.rl.fr hf
  rr := r.rr.fr hf
  lst := fun a ha => by obtain ⟨lv, h1, h2, h3⟩ := r.lst a ha; exact ⟨lv, h1, h2.fr hf, h3⟩
  nl := r.nl
  nr := r.nr
  nd := r.nd
  ql := fun q hq => ⟨(r.ql q hq).1, Nat.lt_of_lt_of_le (r.ql q hq).2 hf.next⟩
  len := r.len
  mat := fun a q hq => by
    obtain ⟨is, h2, h3, h4⟩ := r.mat a q hq
    exact ⟨is, (hf.get _ (r.ql q (List.mem_of_getElem? hq)).2).trans h2, h3, h4⟩
def updR (R : Int → Int → Int) (a b n : Int) : Int → Int → Int := fun c d => if c = a ∧ d = b then n else R c d
theorem RC3.set {es : List Ed} {N lo : Nat} {h : H} {tl tr : Value} {lvs : List Value} {qs : List Nat} {R : Int → Int → Int} (r : RC3 es N lo h tl tr lvs qs R) {a c q : Nat} (ha : qs[a]? = some q) (hc : c < N) (n : Int) {is : List Int} (hg : h.get q = some (.cells (is.map fun i => .int .i64 i) 0)) :
    RC3 es N lo (h.put q (.cells ((is.set c n).map fun i => .int .i64 i) 0)) tl tr lvs qs (updR R a c n) := by
  have hqm := List.mem_of_getElem? ha
  have hf : FrD (fun j => j ∈ qs) h (h.put q (.cells ((is.set c n).map fun i => .int .i64 i) 0)) := (FrD.refl _ h).put (.inr hqm) _
  exact {
    rl := r.rl.frD hf (fun b o n c e hd => r.nl b o n c e hd)
    rr := r.rr.frD hf (fun b o n c e hd => r.nr b o n c e hd)
    lst := fun a ha => by obtain ⟨lv, h1, h2, h3⟩ := r.lst a ha; exact ⟨lv, h1, h2.frD hf (fun b o n c e hd => h3 b o n c e hd), h3⟩
    nl := r.nl
    nr := r.nr
    nd := r.nd
    ql := fun q' hq => by rw [zb]; exact r.ql q' hq
    len := r.len
    mat := fun a' q' hq => by
      obtain ⟨is', h2, h3, h4⟩ := r.mat a' q' hq
      by_cases e : a' = a
      · subst e
        rw [ha] at hq; cases hq
        rw [hg] at h2
        have hii : is' = is := map_i64 (IObj.cells.inj (Option.some.inj h2)).1.symm
        subst hii
        refine ⟨is'.set c n, by simp, by simpa using h3, fun d hd => ?_⟩
        rw [List.getElem?_set]
        unfold updR
        by_cases e : c = d
        · subst e; rw [if_pos rfl, if_pos (by omega), if_pos ⟨rfl, rfl⟩]
        · rw [if_neg e, if_neg (by omega)]; exact h4 d hd
      · have hne : q' ≠ q := by
          intro e2; subst e2
          have h5 : qs[a']? = qs[a]? := by rw [hq, ha]
          have hl : a < qs.length := by
            rcases Nat.lt_or_ge a qs.length with h' | h'
            · exact h'
            · rw [List.getElem?_eq_none h'] at ha; cases ha
          exact e ((List.getElem?_inj hl r.nd).1 h5.symm).symm
        refine ⟨is', by rw [zo (hne)]; exact h2, h3, fun d hd => ?_⟩
        unfold updR
        rw [if_neg (by omega)]; exact h4 d hd }
end Go.Ideal.J
namespace Go.Ideal.J
open Go Go.Ideal
end Go.Ideal.J
namespace Go.Ideal.J
open Go Go.Ideal
def RZ (es : List Ed) (N k : Nat) (a b : Int) : Int := (rN es N k a b).getD 0
theorem rN_pos {es : List Ed} {N : Nat} : ∀ {k : Nat} {a b : Int} {v : Int}, rN es N k a b = some v → 1 ≤ v
  | 0, a, b, v, h => by cases h
  | k + 1, a, b, v, h => by
    have h : zc9 (rN es N k) ((k : Int) + 1) (fnd (rN es N k) es ((k : Int) + 1) N) a b = some v := h
    rw [zbE] at h
    split at h
    · cases h; omega
    · exact rN_pos h
end Go.Ideal.J
namespace Go.Ideal.J
open Go Go.Ideal
end Go.Ideal.J
namespace Go.Ideal.J
open Go Go.Ideal
inductive Fml where | mk (op lab : Int) (kids : List Fml)
mutual
def sz : Fml → Nat
  | .mk _ _ ks => 1 + szs ks
def szs : List Fml → Nat
  | [] => 0
  | k :: ks => sz k + szs ks
end
theorem fnd_none {es : List Ed} {N k : Nat} {n : Int} {a b : Int} (h : (a, b) ∈ fnd (rN es N k) es n N ∨ (b, a) ∈ fnd (rN es N k) es n N) : rN es N k a b = none := by
  rcases h with h | h
  · obtain ⟨c, d, e, _, _, h3⟩ := zgd.1 h
    cases e
    unfold zdZ at h3
    simp only [Bool.and_eq_true] at h3
    simpa using h3.1
  · obtain ⟨c, d, e, _, _, h3⟩ := zgd.1 h
    cases e
    unfold zdZ at h3
    simp only [Bool.and_eq_true] at h3
    rw [zga]
    simpa using h3.1
theorem tells_succ (es : List Ed) (N k : Nat) (j : Int) (hj : j ≤ k) (u t : Int) : zbR (rN es N (k + 1)) j u t = zbR (rN es N k) j u t := by
  unfold zbR
  congr 1
  show (match zc9 (rN es N k) ((k : Int) + 1) (fnd (rN es N k) es ((k : Int) + 1) N) u t with | some k => decide (k ≤ j) | none => false) = _
  rw [zbE]
  by_cases h : (u, t) ∈ fnd (rN es N k) es ((k : Int) + 1) N ∨ (t, u) ∈ fnd (rN es N k) es ((k : Int) + 1) N
  · rw [if_pos h, fnd_none h]
    simp <;> omega
  · rw [if_neg h] <;> (cases rN es N k u t <;> rfl)
theorem tells_stable (es : List Ed) (N : Nat) {j k : Nat} (h : j ≤ k) (u t : Int) : zbR (rN es N k) j u t = zbR (rN es N j) j u t := by
  induction k with
  | zero => have : j = 0 := by omega
            subst this; rfl
  | succ k ih =>
    by_cases e : j = k + 1
    · subst e; rfl
    · rw [tells_succ es N k j (by omega), ih (by omega)]
theorem zbW (es : List Ed) (N : Nat) {j k : Nat} (h : j ≤ k) (a b : Int) : zbp (rN es N k) es a b j = zbp (rN es N j) es a b j := by
  unfold zbp
  congr 1
  funext x
  unfold zgY
  congr 1
  funext t
  exact tells_stable es N h x.2.1 t
theorem rN_found {es : List Ed} {N : Nat} : ∀ {k : Nat} {a b v : Int}, rN es N k a b = some v → (zbp (rN es N k) es a b (v - 1)).isSome = true ∨ (zbp (rN es N k) es b a (v - 1)).isSome = true
  | 0, a, b, v, h => by cases h
  | k + 1, a, b, v, h => by
    have h0 := h
    have h : zc9 (rN es N k) ((k : Int) + 1) (fnd (rN es N k) es ((k : Int) + 1) N) a b = some v := h
    rw [zbE] at h
    have key : ∀ a b : Int, (a, b) ∈ fnd (rN es N k) es ((k : Int) + 1) N → (zbp (rN es N (k + 1)) es a b k).isSome = true ∨ (zbp (rN es N (k + 1)) es b a k).isSome = true := by
      intro a b hm
      obtain ⟨c, d, e, _, _, h3⟩ := zgd.1 hm
      cases e
      unfold zdZ at h3
      simp only [Bool.and_eq_true, Bool.or_eq_true] at h3
      rw [show ((k : Int) + 1 - 1) = k by omega] at h3
      rw [zbW es N (by omega : k ≤ k + 1), zbW es N (by omega : k ≤ k + 1)]
      exact h3.2
    split at h
    · rename_i hm
      cases h
      rw [show ((k : Int) + 1 - 1) = k by omega]
      rcases hm with hm | hm
      · exact key a b hm
      · exact (key b a hm).symm
    · have := rN_found h
      have h1 := rN_pos h
      have h2 := (zfm h).1
      obtain ⟨j, hj⟩ := Int.eq_ofNat_of_zero_le (show 0 ≤ v - 1 by omega)
      rw [hj] at this ⊢
      have hjk : j ≤ k := by omega
      rw [zbW es N (by omega : j ≤ k + 1), zbW es N (by omega : j ≤ k + 1)]
      rw [zbW es N hjk, zbW es N hjk] at this
      exact this
def Ok (es : List Ed) (N k : Nat) (n : Nat) (a b : Int) : Prop := ∃ v, rN es N k a b = some v ∧ 2 * v ≤ n ∧ (zbp (rN es N k) es a b (v - 1) = none → 2 * v + 1 ≤ n)
theorem Ok.pos {es : List Ed} {N k n : Nat} {a b : Int} (h : Ok es N k n a b) : ∃ m, n = m + 1 := by
  obtain ⟨v, h1, h2, _⟩ := h
  have := rN_pos h1
  exact ⟨n - 1, by omega⟩
theorem Ok.mono {es : List Ed} {N k n m : Nat} {a b : Int} (h : Ok es N k n a b) (hm : n ≤ m) : Ok es N k m a b := by
  obtain ⟨v, h1, h2, h3⟩ := h
  exact ⟨v, h1, by omega, fun e => by have := h3 e; omega⟩
theorem Ok.can {es : List Ed} {N k n : Nat} {a b v : Int} {x : Ed} (h : Ok es N k (n + 1) a b) (hv : rN es N k a b = some v) (hx : zbp (rN es N k) es a b (v - 1) = some x) {t : Int} (ht : t ∈ tos es b x.2.2) : Ok es N k n x.2.1 t := by
  obtain ⟨v', h1, h2, h3⟩ := h
  rw [hv] at h1; cases h1
  have h4 := List.find?_some hx
  have h5 := List.all_eq_true.1 h4 t ht
  unfold zbR at h5
  cases hr : rN es N k x.2.1 t with
  | none => rw [hr] at h5; simp at h5
  | some u =>
    rw [hr] at h5
    simp at h5
    exact ⟨u, hr, by omega, fun _ => by omega⟩
theorem Ok.not {es : List Ed} {N k n : Nat} {a b v : Int} (h : Ok es N k (n + 1) a b) (hv : rN es N k a b = some v) (hx : zbp (rN es N k) es a b (v - 1) = none) : Ok es N k n b a := by
  obtain ⟨v', h1, h2, h3⟩ := h
  rw [hv] at h1; cases h1
  refine ⟨v, by rw [zga]; exact hv, by have := h3 hx; omega, fun e => ?_⟩
  rcases rN_found hv with h | h
  · rw [hx] at h; cases h
  · rw [e] at h; cases h
end Go.Ideal.J
namespace Go.Ideal.J
open Go Go.Ideal
abbrev fmL (op lab : Int) (slv : Value) : List Value := [.int .i64 op, .int .i64 lab, slv]
mutual
def FV (B : Nat → Prop) (h : H) : Fml → List Value → Prop
  | .mk op lab ks, r => ∃ slv rows, r = fmL op lab slv ∧ Row h 3 slv rows ∧ (∀ b o n c, slv = .slice (some ⟨b, o, none⟩) n c → B b) ∧ rows.length ≤ 100000 ∧ FVs B h ks rows
def FVs (B : Nat → Prop) (h : H) : List Fml → List (List Value) → Prop
  | [], rows => rows = []
  | k :: ks, rows => ∃ r rs, rows = r :: rs ∧ FV B h k r ∧ FVs B h ks rs
end
mutual
theorem FV.mono {B C : Nat → Prop} {h : H} (hBC : ∀ b, b < h.next → B b → C b) : ∀ {f : Fml} {r : List Value}, FV B h f r → FV C h f r
  | .mk op lab ks, r, hf => by
    unfold FV at hf ⊢
    obtain ⟨slv, rows, h1, h2, h3, h4, h5⟩ := hf
    exact ⟨slv, rows, h1, h2, fun b o n c e => hBC b (h2.lt e) (h3 b o n c e), h4, FVs.mono hBC h5⟩
theorem FVs.mono {B C : Nat → Prop} {h : H} (hBC : ∀ b, b < h.next → B b → C b) : ∀ {fs : List Fml} {rs : List (List Value)}, FVs B h fs rs → FVs C h fs rs
  | [], rs, hf => by unfold FVs at hf ⊢; exact hf
  | f :: fs, rs, hf => by
    unfold FVs at hf ⊢
    obtain ⟨r, rs', h1, h2, h3⟩ := hf
    exact ⟨r, rs', h1, FV.mono hBC h2, FVs.mono hBC h3⟩
end
mutual
theorem FV.frD {B D : Nat → Prop} {h h' : H} (hf' : FrD D h h') (hBC : ∀ b, b < h.next → B b → ¬ D b) : ∀ {f : Fml} {r : List Value}, FV B h f r → FV B h' f r
  | .mk op lab ks, r, hf => by
    unfold FV at hf ⊢
    obtain ⟨slv, rows, h1, h2, h3, h4, h5⟩ := hf
    exact ⟨slv, rows, h1, h2.frD hf' (fun b o n c e => hBC b (h2.lt e) (h3 b o n c e)), h3, h4, FVs.frD hf' hBC h5⟩
theorem FVs.frD {B D : Nat → Prop} {h h' : H} (hf' : FrD D h h') (hBC : ∀ b, b < h.next → B b → ¬ D b) : ∀ {fs : List Fml} {rs : List (List Value)}, FVs B h fs rs → FVs B h' fs rs
  | [], rs, hf => by unfold FVs at hf ⊢; exact hf
  | f :: fs, rs, hf => by
    unfold FVs at hf ⊢
    obtain ⟨r, rs', h1, h2, h3⟩ := hf
    exact ⟨r, rs', h1, FV.frD hf' hBC h2, FVs.frD hf' hBC h3⟩
end
mutual
theorem FV.bnd {B : Nat → Prop} {h : H} : ∀ {f : Fml} {r : List Value}, FV B h f r → FV (fun b => B b ∧ b < h.next) h f r
  | .mk op lab ks, r, hf => by
    unfold FV at hf ⊢
    obtain ⟨slv, rows, h1, h2, h3, h4, h5⟩ := hf
    exact ⟨slv, rows, h1, h2, fun b o n c e => ⟨h3 b o n c e, h2.lt e⟩, h4, FVs.bnd h5⟩
theorem FVs.bnd {B : Nat → Prop} {h : H} : ∀ {fs : List Fml} {rs : List (List Value)}, FVs B h fs rs → FVs (fun b => B b ∧ b < h.next) h fs rs
  | [], rs, hf => by unfold FVs at hf ⊢; exact hf
  | f :: fs, rs, hf => by
    unfold FVs at hf ⊢
    obtain ⟨r, rs', h1, h2, h3⟩ := hf
    exact ⟨r, rs', h1, FV.bnd h2, FVs.bnd h3⟩
end
theorem FVs.append {B : Nat → Prop} {h : H} {g : Fml} {q : List Value} (hg : FV B h g q) : ∀ {fs : List Fml} {rs : List (List Value)}, FVs B h fs rs → FVs B h (fs ++ [g]) (rs ++ [q])
  | [], rs, hf => by
    unfold FVs at hf; subst hf
    show FVs B h [g] [q]
    unfold FVs
    exact ⟨q, [], rfl, hg, by unfold FVs; rfl⟩
  | f :: fs, rs, hf => by
    unfold FVs at hf
    obtain ⟨r, rs', rfl, h2, h3⟩ := hf
    show FVs B h (f :: (fs ++ [g])) (r :: (rs' ++ [q]))
    unfold FVs
    exact ⟨r, _, rfl, h2, FVs.append hg h3⟩
theorem FVs.len {B : Nat → Prop} {h : H} : ∀ {fs : List Fml} {rs : List (List Value)}, FVs B h fs rs → rs.length = fs.length
  | [], rs, hf => by unfold FVs at hf; rw [hf]; rfl
  | f :: fs, rs, hf => by
    unfold FVs at hf
    obtain ⟨r, rs', rfl, h2, h3⟩ := hf
    rw [List.length_cons, List.length_cons, FVs.len h3]
theorem FVs.at {B : Nat → Prop} {h : H} : ∀ {fs : List Fml} {rs : List (List Value)}, FVs B h fs rs → ∀ {i : Nat} {f : Fml}, fs[i]? = some f → ∃ r, rs[i]? = some r ∧ FV B h f r
  | [], rs, hf, i, f, hi => by simp at hi
  | g :: fs, rs, hf, i, f, hi => by
    unfold FVs at hf
    obtain ⟨r, rs', rfl, h2, h3⟩ := hf
    cases i with
    | zero => simp at hi; subst hi; exact ⟨r, rfl, h2⟩
    | succ i => exact FVs.at h3 (by simpa using hi)
theorem FV.cells {B : Nat → Prop} {h : H} {f : Fml} {r : List Value} (hf : FV B h f r) : ∃ op lab bs n c, r = fmL op lab (.slice bs n c) ∧ r.length = 3 ∧ r.all zS = true ∧ r.all zbb = true := by
  cases f with
  | mk op lab ks =>
    unfold FV at hf
    obtain ⟨slv, rows, rfl, h2, h3, h4, h5⟩ := hf
    obtain ⟨b, c, rfl⟩ := h2.len
    exact ⟨op, lab, b, _, c, rfl, rfl, rfl, rfl⟩
theorem FV.fr {B : Nat → Prop} {h h' : H} (hf' : Fr h h') {f : Fml} {r : List Value} (hf : FV B h f r) : FV B h' f r := FV.frD (D := fun _ => False) hf'.D (fun _ _ _ => id) hf
theorem FVs.fr {B : Nat → Prop} {h h' : H} (hf' : Fr h h') {f : List Fml} {r : List (List Value)} (hf : FVs B h f r) : FVs B h' f r := FVs.frD (D := fun _ => False) hf'.D (fun _ _ _ => id) hf
end Go.Ideal.J
namespace Go.Ideal.J
open Go Go.Ideal
end Go.Ideal.J
namespace Go.Ideal.J
open Go Go.Ideal
end Go.Ideal.J
namespace Go.Ideal.J
open Go Go.Ideal
theorem FV.one {B : Nat → Prop} {h : H} {op lab : Int} {f : Fml} {r : List Value} {b e : Nat} (hf : FV B h f r) (hg : h.get b = some (.cells r e)) (hlt : b < h.next) (hB : B b) : FV B h (.mk op lab [f]) (fmL op lab (.slice (some ⟨b, 0, none⟩) 1 1)) := by
  obtain ⟨_, _, _, _, _, _, h1, h2, _⟩ := hf.cells
  unfold FV
  refine ⟨_, [r], rfl, ?_, fun b' o n c e => by cases e; exact hB, by simp, ?_⟩
  · have := Grow.full (h := h) (sz := 3) (b := b) (e := e) (rows := [r]) hlt (by simpa using hg) (by intro x hx; rw [List.mem_singleton] at hx; subst hx; exact ⟨h1, h2⟩) (by show 1 < zk; decide)
    exact this.row (by omega)
  · unfold FVs
    exact ⟨r, [], rfl, hf, by unfold FVs; rfl⟩
end Go.Ideal.J
namespace Go.Ideal.J
open Go Go.Ideal
end Go.Ideal.J
namespace Go.Ideal.J
open Go Go.Ideal
def zF : Fml := .mk 0 0 []
theorem FV.zero (B : Nat → Prop) (h : H) : FV B h zF (fmL 0 0 (.slice none 0 0)) := by
  unfold zF FV
  exact ⟨_, [], rfl, .nil, (fun b o n c e => by cases e), by simp, by unfold FVs; rfl⟩
end Go.Ideal.J
namespace Go.Ideal.J
open Go Go.Ideal
end Go.Ideal.J
namespace Go.Ideal.J
open Go Go.Ideal
end Go.Ideal.J
namespace Go.Ideal.J
open Go Go.Ideal
end Go.Ideal.J
namespace Go.Ideal.J
open Go Go.Ideal
end Go.Ideal.J
namespace Go.Ideal.J
open Go Go.Ideal
theorem zhW (x : Ed) : zbH x x = false := by
  rw [Bool.eq_false_iff]; intro h; rw [zhX] at h; omega
theorem zje : ∀ {l m : List Ed}, (l.Pairwise fun x y => zbH x y = true) → (m.Pairwise fun x y => zbH x y = true) → (∀ x, x ∈ l ↔ x ∈ m) → l = m
  | [], [], _, _, _ => rfl
  | [], b :: m, _, _, h => absurd ((h b).2 (by simp)) (by simp)
  | a :: l, [], _, _, h => absurd ((h a).1 (by simp)) (by simp)
  | a :: l, b :: m, h1, h2, h => by
    obtain ⟨ha, h1'⟩ := List.pairwise_cons.1 h1
    obtain ⟨hb, h2'⟩ := List.pairwise_cons.1 h2
    have hab : a = b := by
      rcases List.mem_cons.1 ((h a).1 (by simp)) with e | e
      · exact e
      · rcases List.mem_cons.1 ((h b).2 (by simp)) with e' | e'
        · exact e'.symm
        · have := zhV (hb a e) (ha b e')
          rw [zhW] at this; cases this
    subst hab
    rw [zje h1' h2' fun x => ?_]
    constructor
    · intro hx
      rcases List.mem_cons.1 ((h x).1 (by simp [hx])) with e | e
      · subst e; have := ha x hx; rw [zhW] at this; cases this
      · exact e
    · intro hx
      rcases List.mem_cons.1 ((h x).2 (by simp [hx])) with e | e
      · subst e; have := hb x hx; rw [zhW] at this; cases this
      · exact e
section
variable {es fs : List Ed} {N M K : Nat}
end
end Go.Ideal.J
namespace Go.Ideal.J
open Go Go.Ideal
theorem known_ok' (h : H) : zbs F (fnV n_D) [] h = some (.bool true, h) := by
  refine zbi F_D 0 (by decide) ?_
  rfl
end Go.Ideal.J
namespace Go.Ideal.J
open Go Go.Ideal
end Go.Ideal.J
namespace Go.Ideal.J
open Go Go.Ideal
end Go.Ideal.J
namespace Go.Ideal.J
open Go Go.Ideal
def two (st lb : Int) (es : List Ed) (st' lb' : Int) (fs : List Ed) : Bool := chk st lb es && chk st' lb' fs && decide (lb = lb')
open Classical in
noncomputable def zjH (st lb : Int) (es : List Ed) (st' lb' : Int) (fs : List Ed) : Value := if two st lb es st' lb' fs = true then zea (.bool (decide (Bis (zcv st.toNat es fs) 0 st))) (.int .i64 0) else zea (.bool false) (.int .i64 2)
end Go.Ideal.J
namespace Go.Ideal.J
open Go Go.Ideal
section
variable (es : List Ed) (N : Nat) (hN : N ≤ 200) (k n : Nat) (hnN : n < N) (hin : inB (N : Int) es) (hk : fnd (rN es N k) es ((k : Int) + 1) N = []) (lo pg : Nat) (h0 : H) (hlo : lo ≤ h0.next) (tl tr : Value) (lvs rvs : List Value) (hr : RC2 es N h0 tl tr lvs rvs (RZ es N k)) (hrq : ∀ (a q : Nat), rvs[a]? = some (slF q N) → q < lo) (hrl : ∀ b o n c, tr = .slice (some ⟨b, o, none⟩) n c → b < lo) {P : Value → H → Prop}
include hN hnN hlo
end
end Go.Ideal.J
set_option maxHeartbeats 4000000
namespace Go.Ideal.J
open Go Go.Ideal
structure IntR (h : H) (q N : Nat) (t : Nat → Int) : Prop where
  lt : q < h.next
  ex : ∃ bs : List Int, h.get q = some (.cells (bs.map (Value.int .i64)) 0) ∧ bs.length = N ∧ ∀ s : Nat, s < N → bs[s]? = some (t s)
theorem IntR.frD {D : Nat → Prop} {h h' : H} {q N : Nat} {t : Nat → Int} (r : IntR h q N t) (hf : FrD D h h') (hd : ¬ D q) : IntR h' q N t := by
  obtain ⟨bs, h1, h2, h3⟩ := r.ex
  exact ⟨Nat.lt_of_lt_of_le r.lt hf.next, bs, (hf.get _ r.lt hd).trans h1, h2, h3⟩
theorem IntR.get {h : H} {q N : Nat} {t : Nat → Int} (r : IntR h q N t) {s : Nat} (hs : s < N) : ∃ cs, h.get q = some (.cells cs 0) ∧ zU 1 (zby s cs) = some [.int .i64 (t s)] := by
  obtain ⟨bs, h1, h2, h3⟩ := r.ex
  exact ⟨_, h1, takeC_at (by rw [List.getElem?_map, h3 s hs]; rfl) rfl⟩
theorem IntR.set {h : H} {q N : Nat} {t : Nat → Int} (r : IntR h q N t) {s : Nat} (hs : s < N) (b : Int) : ∃ cs cs', h.get q = some (.cells cs 0) ∧ zE cs s [.int .i64 b] = some cs' ∧ IntR (h.put q (.cells cs' 0)) q N (fun c => if c = s then b else t c) := by
  obtain ⟨bs, h1, h2, h3⟩ := r.ex
  refine ⟨_, (bs.set s b).map (Value.int .i64), h1, ?_, by simpa using r.lt, bs.set s b, zw rfl, by simpa using h2, fun c hc => ?_⟩
  · rw [zja (by simp; omega)]; simp [List.map_set]
  · rw [List.getElem?_set]
    by_cases e : s = c
    · subst e; rw [if_pos rfl, if_pos (by omega), if_pos rfl]
    · rw [if_neg e, if_neg (by omega)]; exact h3 c hc
theorem IntR.congr {h : H} {q N : Nat} {t u : Nat → Int} (r : IntR h q N t) (e : ∀ s : Nat, s < N → t s = u s) : IntR h q N u := by
  obtain ⟨bs, h1, h2, h3⟩ := r.ex
  exact ⟨r.lt, bs, h1, h2, fun s hs => by rw [h3 s hs, e s hs]⟩
def cntLt (ms : List Int) (k : Int) : Nat := (ms.filter fun m => decide (m < k)).length
theorem ix_cnt {ms : List Int} (hp : ms.Pairwise (· < ·)) {k : Int} (hk : k ∈ ms) : ix ms k = some (cntLt ms k) := by
  refine zh0 hp ?_
  induction ms with
  | nil => cases hk
  | cons m ms ih =>
    obtain ⟨h1, h2⟩ := List.pairwise_cons.1 hp
    unfold cntLt
    by_cases e : m = k
    · subst e
      have : (ms.filter fun x => decide (x < m)) = [] := by
        rw [List.filter_eq_nil_iff]; intro a ha; have := h1 a ha; simp; omega
      simp [this]
    · have hk' : k ∈ ms := by
        rcases List.mem_cons.1 hk with h | h
        · exact absurd h.symm e
        · exact h
      have := h1 k hk'
      rw [List.filter_cons_of_pos (by simpa using this), List.length_cons]
      exact ih h2 hk'
theorem cntLt_zero {ms : List Int} (h : ∀ m ∈ ms, 0 ≤ m) : cntLt ms 0 = 0 := by
  unfold cntLt
  rw [List.filter_eq_nil_iff.2 (fun a ha => by have := h a ha; simp; omega)]; rfl
def rlE (ms : List Int) (cf : Nat → Int) (es : List Ed) : List Ed := (lgE ms cf es).foldl addL []
section
variable (es : List Ed) (hsz : es.length ≤ 1000) (N : Nat) (hN : N ≤ 200) (hin : inB (N : Int) es) (lb : Int) (sl cv : Value) (c : List Nat) (hc : c.length = N) (ms : List Int) (hms : ms.Pairwise (· < ·)) (bs : List Bool) (hb : bs.length = N) (hmem : ∀ k : Nat, (k : Int) ∈ ms ↔ ∃ a, a < N ∧ c.getD a 0 = k ∧ bs[a]? = some true) (hmb : ∀ m ∈ ms, 0 ≤ m ∧ m < N) (hcb : ∀ a, a < N → c.getD a 0 < N)
  (pg pr qb qa : Nat) (h0 : H) (hqa : qa < h0.next) (hrow : Row h0 3 sl (es.map edL)) (hrowc : Row h0 1 cv (c.map natL)) (hsl : ∀ b o n c, sl = .slice (some ⟨b, o, none⟩) n c → b < qa) (hcv : ∀ b o n c, cv = .slice (some ⟨b, o, none⟩) n c → b < qa) (hpg : pg < qa) (hgg : h0.get pg = some (.cells (gL (N : Int) lb sl) 0)) (hpr : pr < qa) (r0 : List Value) (hr0 : r0.length = 3) (hgr : h0.get pr = some (.cells r0 0)) (hqb : qb < qa) (hgb : h0.get qb = some (.cells (zcE bs) 0)) {P : Value → H → Prop}
  (hP : ∀ h' u ob, FrD (fun j => j = pr ∨ qa ≤ j) h0 h' → Grow h' 3 u ((rlE ms (clsI c) es).map edL) ob → (∀ b, ob = some b → qa ≤ b) → P (zea (gV (ms.length : Int) lb u) (.int .i64 0)) h')
include hsz hN hin hc hms hb hmem hmb hcb hqa hrow hrowc hsl hcv hpg hgg hpr hr0 hgr hqb hgb hP
end
end Go.Ideal.J
namespace Go.Ideal.J
open Go Go.Ideal
section
variable (es : List Ed) (hsz : es.length ≤ 1000) (N : Nat) (hN : N ≤ 200) (hin : inB (N : Int) es) (lb : Int) (sl cv : Value) (c : List Nat) (hc : c.length = N) (ms : List Int) (hms : ms.Pairwise (· < ·)) (bs : List Bool) (hb : bs.length = N) (hmem : ∀ k : Nat, (k : Int) ∈ ms ↔ ∃ a, a < N ∧ c.getD a 0 = k ∧ bs[a]? = some true) (hmb : ∀ m ∈ ms, 0 ≤ m ∧ m < N) (hcb : ∀ a, a < N → c.getD a 0 < N)
  (pg pr qb qa : Nat) (h0 : H) (hqa : qa < h0.next) (hrow : Row h0 3 sl (es.map edL)) (hrowc : Row h0 1 cv (c.map natL)) (hsl : ∀ b o n c, sl = .slice (some ⟨b, o, none⟩) n c → b < qa) (hcv : ∀ b o n c, cv = .slice (some ⟨b, o, none⟩) n c → b < qa) (hpg : pg < qa) (hgg : h0.get pg = some (.cells (gL (N : Int) lb sl) 0)) (hpr : pr < qa) (r0 : List Value) (hr0 : r0.length = 3) (hgr : h0.get pr = some (.cells r0 0)) (hqb : qb < qa) (hgb : h0.get qb = some (.cells (zcE bs) 0)) {P : Value → H → Prop}
  (hP : ∀ h' u ob, FrD (fun j => j = pr ∨ qa ≤ j) h0 h' → Grow h' 3 u ((rlE ms (clsI c) es).map edL) ob → (∀ b, ob = some b → qa ≤ b) → P (zea (gV (ms.length : Int) lb u) (.int .i64 0)) h')
include hsz hN hin hc hms hb hmem hmb hcb hqa hrow hrowc hsl hcv hpg hgg hpr hr0 hgr hqb hgb hP
end
end Go.Ideal.J
set_option maxHeartbeats 2000000
namespace Go.Ideal.J
open Go Go.Ideal
mutual
def FW (h : H) : Fml → List Value → Prop
  | .mk op lab ks, r => ∃ slv rows, r = fmL op lab slv ∧ Row h 3 slv rows ∧ FWs h ks rows
def FWs (h : H) : List Fml → List (List Value) → Prop
  | [], rows => rows = []
  | k :: ks, rows => ∃ r rs, rows = r :: rs ∧ FW h k r ∧ FWs h ks rs
end
mutual
theorem FW.fr {h h' : H} (hf' : Fr h h') : ∀ {f : Fml} {r : List Value}, FW h f r → FW h' f r
  | .mk op lab ks, r, hf => by
    unfold FW at hf ⊢
    obtain ⟨slv, rows, h1, h2, h3⟩ := hf
    exact ⟨slv, rows, h1, h2.fr hf', FWs.fr hf' h3⟩
theorem FWs.fr {h h' : H} (hf' : Fr h h') : ∀ {fs : List Fml} {rs : List (List Value)}, FWs h fs rs → FWs h' fs rs
  | [], rs, hf => by unfold FWs at hf ⊢; exact hf
  | f :: fs, rs, hf => by
    unfold FWs at hf ⊢
    obtain ⟨r, rs', h1, h2, h3⟩ := hf
    exact ⟨r, rs', h1, FW.fr hf' h2, FWs.fr hf' h3⟩
end
mutual
theorem FV.w {B : Nat → Prop} {h : H} : ∀ {f : Fml} {r : List Value}, FV B h f r → FW h f r
  | .mk op lab ks, r, hf => by
    unfold FV at hf; unfold FW
    obtain ⟨slv, rows, h1, h2, h3, h4, h5⟩ := hf
    exact ⟨slv, rows, h1, h2, FVs.w h5⟩
theorem FVs.w {B : Nat → Prop} {h : H} : ∀ {fs : List Fml} {rs : List (List Value)}, FVs B h fs rs → FWs h fs rs
  | [], rs, hf => by unfold FVs at hf; unfold FWs; exact hf
  | f :: fs, rs, hf => by
    unfold FVs at hf; unfold FWs
    obtain ⟨r, rs', h1, h2, h3⟩ := hf
    exact ⟨r, rs', h1, FV.w h2, FVs.w h3⟩
end
theorem FWs.len {h : H} : ∀ {fs : List Fml} {rs : List (List Value)}, FWs h fs rs → rs.length = fs.length
  | [], rs, hf => by unfold FWs at hf; rw [hf]; rfl
  | f :: fs, rs, hf => by
    unfold FWs at hf
    obtain ⟨r, rs', rfl, h2, h3⟩ := hf
    rw [List.length_cons, List.length_cons, FWs.len h3]
theorem FWs.at {h : H} : ∀ {fs : List Fml} {rs : List (List Value)}, FWs h fs rs → ∀ {i : Nat} {f : Fml}, fs[i]? = some f → ∃ r, rs[i]? = some r ∧ FW h f r
  | [], rs, hf, i, f, hi => by simp at hi
  | g :: fs, rs, hf, i, f, hi => by
    unfold FWs at hf
    obtain ⟨r, rs', rfl, h2, h3⟩ := hf
    cases i with
    | zero => simp at hi; subst hi; exact ⟨r, rfl, h2⟩
    | succ i => exact FWs.at h3 (by simpa using hi)
theorem FW.cells {h : H} {f : Fml} {r : List Value} (hf : FW h f r) : ∃ op lab bs n c, r = fmL op lab (.slice bs n c) := by
  cases f with
  | mk op lab ks =>
    unfold FW at hf
    obtain ⟨slv, rows, rfl, h2, h3⟩ := hf
    obtain ⟨b, c, rfl⟩ := h2.len
    exact ⟨op, lab, b, _, c, rfl⟩
end Go.Ideal.J
namespace Go.Ideal.J
open Go Go.Ideal
end Go.Ideal.J
namespace Go.Ideal.J
open Go Go.Ideal
mutual
def hv (es : List Ed) : Fml → Int → Bool
  | .mk op lab ks, s => if op = 2 then !(hvh es ks s) else if op = 4 then es.any fun x => decide (x.1 = s) && (decide (x.2.2 = lab) && hvh es ks x.2.1) else hva es ks s
def hvh (es : List Ed) : List Fml → Int → Bool
  | [], _ => false
  | k :: _, s => hv es k s
def hva (es : List Ed) : List Fml → Int → Bool
  | [], _ => true
  | k :: ks, s => hv es k s && hva es ks s
end
structure Tru (h : H) (q N : Nat) (t : Int → Bool) : Prop where
  lt : q < h.next
  ex : ∃ bs : List Bool, h.get q = some (.cells (zcE bs) 0) ∧ bs.length = N ∧ ∀ s : Nat, s < N → bs[s]? = some (t s)
theorem Tru.frD {D : Nat → Prop} {h h' : H} {q N : Nat} {t : Int → Bool} (r : Tru h q N t) (hf : FrD D h h') (hd : ¬ D q) : Tru h' q N t := by
  obtain ⟨bs, h1, h2, h3⟩ := r.ex
  exact ⟨Nat.lt_of_lt_of_le r.lt hf.next, bs, (hf.get _ r.lt hd).trans h1, h2, h3⟩
theorem Tru.fr {h h' : H} {q N : Nat} {t : Int → Bool} (r : Tru h q N t) (hf : Fr h h') : Tru h' q N t := r.frD (D := fun _ => False) hf.D (by simp)
theorem Tru.set {h : H} {q N : Nat} {t : Int → Bool} (r : Tru h q N t) {s : Nat} (hs : s < N) (b : Bool) : ∃ bs : List Bool, h.get q = some (.cells (zcE bs) 0) ∧ bs[s]? = some (t s) ∧ zU 1 (zby s (zcE bs)) = some [.bool (t s)] ∧ zE (zcE bs) s [.bool b] = some (zcE (bs.set s b)) ∧ Tru (h.put q (.cells (zcE (bs.set s b)) 0)) q N (fun c => if c = s then b else t c) := by
  obtain ⟨bs, h1, h2, h3⟩ := r.ex
  refine ⟨bs, h1, h3 s hs, takeC_at (by unfold zcE; rw [List.getElem?_map, h3 s hs]; rfl) rfl, ?_, by simpa using r.lt, bs.set s b, zw rfl, by simpa using h2, fun c hc => ?_⟩
  · rw [zja (by simp [zcE]; omega)]; simp [zcE, List.map_set]
  · rw [List.getElem?_set]
    by_cases e : s = c
    · subst e; rw [if_pos rfl, if_pos (by omega), if_pos rfl]
    · rw [if_neg e, if_neg (by omega)]; exact h3 c hc
theorem Tru.congr {h : H} {q N : Nat} {t u : Int → Bool} (r : Tru h q N t) (e : ∀ s : Nat, s < N → t s = u s) : Tru h q N u := by
  obtain ⟨bs, h1, h2, h3⟩ := r.ex
  exact ⟨r.lt, bs, h1, h2, fun s hs => by rw [h3 s hs, e s hs]⟩
end Go.Ideal.J
namespace Go.Ideal.J
open Go Go.Ideal
section
variable (la lb : List Ed) (hla : la.length ≤ 1000) (hlb : lb.length ≤ 1000) (ps : List (Int × Int)) (hsz : ps.length ≤ 100000) (v2 t3 t4 t9 va vb : Value) (h : H) (hr2 : Row h 2 v2 (ps.map prL)) (hra : Row h 3 va (la.map edL)) (hrb : Row h 3 vb (lb.map edL)) {P : Value → H → Prop}
include hla hlb hsz hr2 hra hrb
end
end Go.Ideal.J
namespace Go.Ideal.J
open Go Go.Ideal
section
variable (st lb st' lb' : Int) (es fs : List Ed) (hes : es.length ≤ 1000) (hfs : fs.length ≤ 1000) (ps : List (Int × Int)) (hsz : ps.length ≤ 100000) (v sl sl' : Value) (pg pg' : Nat) (h0 : H) (hr2 : Row h0 2 v (ps.map prL)) (hrow : Row h0 3 sl (es.map edL)) (hrow' : Row h0 3 sl' (fs.map edL))
  (hg : h0.get pg = some (.cells (gL st lb sl) 0)) (hg' : h0.get pg' = some (.cells (gL st' lb' sl') 0)) (hpg : pg < h0.next) (hpg' : pg' < h0.next) {P : Value → H → Prop}
include hes hfs hsz hr2 hrow hrow' hg hg' hpg hpg'
end
end Go.Ideal.J
namespace Go.Ideal.J
open Go Go.Ideal
theorem cls_bis {es : List Ed} {N k : Nat} (hin : inB (N : Int) es) (hk : fnd (rN es N k) es ((k : Int) + 1) N = []) {a b : Nat} (ha : a < N) (hb : b < N) : (cls (alk es N k) N).1.getD a 0 = (cls (alk es N k) N).1.getD b 0 ↔ Bis es (a : Int) (b : Int) := by
  have hB := alk_eqv hin hk
  have ci := zjy hB N (Nat.le_refl _)
  have ea : (cls (alk es N k) N).1[a]? = some ((cls (alk es N k) N).1[a]'(by rw [ci.len]; exact ha)) := List.getElem?_eq_getElem _
  have eb : (cls (alk es N k) N).1[b]? = some ((cls (alk es N k) N).1[b]'(by rw [ci.len]; exact hb)) := List.getElem?_eq_getElem _
  rw [List.getD_eq_getElem?_getD, List.getD_eq_getElem?_getD, ea, eb]
  exact (ci.iff2 hB (Nat.le_refl _) ea eb).trans (zfs hin hk ha hb)
end Go.Ideal.J
set_option maxHeartbeats 4000000
namespace Go.Ideal.J
open Go Go.Ideal
theorem srt_ext {α : Type} {lt : α → α → Prop} (asym : ∀ a b, lt a b → ¬ lt b a) : ∀ {l l' : List α}, l.Pairwise lt → l'.Pairwise lt → (∀ x, x ∈ l ↔ x ∈ l') → l = l'
  | [], [], _, _, _ => rfl
  | [], b :: l', _, _, h => by have := (h b).2 (by simp); cases this
  | a :: l, [], _, _, h => by have := (h a).1 (by simp); cases this
  | a :: l, b :: l', h1, h2, h => by
    obtain ⟨a1, a2⟩ := List.pairwise_cons.1 h1
    obtain ⟨b1, b2⟩ := List.pairwise_cons.1 h2
    have e : a = b := by
      rcases List.mem_cons.1 ((h a).1 (by simp)) with e | e
      · exact e
      · rcases List.mem_cons.1 ((h b).2 (by simp)) with e' | e'
        · exact e'.symm
        · exact absurd (a1 b e') (asym _ _ (b1 a e))
    subst e
    rw [srt_ext asym a2 b2 fun x => ?_]
    have hx := h x
    rw [List.mem_cons, List.mem_cons] at hx
    constructor
    · intro hm
      rcases hx.1 (.inr hm) with e | e
      · subst e; exact absurd (a1 x hm) (fun h => asym _ _ h h)
      · exact e
    · intro hm
      rcases hx.2 (.inr hm) with e | e
      · subst e; exact absurd (b1 x hm) (fun h => asym _ _ h h)
      · exact e
structure MsOk (es : List Ed) (N : Nat) (c : List Nat) (ms : List Int) : Prop where
  lt : ms.Pairwise (· < ·)
  bd : ∀ m ∈ ms, 0 ≤ m ∧ m < N
  mem : ∀ k : Nat, (k : Int) ∈ ms ↔ ∃ a, a < N ∧ c.getD a 0 = k ∧ Rch es a
theorem MsOk.eq {es : List Ed} {N : Nat} {c : List Nat} {ms ms' : List Int} (h : MsOk es N c ms) (h' : MsOk es N c ms') : ms = ms' :=
  srt_ext (fun a b h1 h2 => by omega) h.lt h'.lt fun x => by
    constructor
    · intro hx
      obtain ⟨k, rfl⟩ := Int.eq_ofNat_of_zero_le (h.bd x hx).1
      exact (h'.mem k).2 ((h.mem k).1 hx)
    · intro hx
      obtain ⟨k, rfl⟩ := Int.eq_ofNat_of_zero_le (h'.bd x hx).1
      exact (h.mem k).2 ((h'.mem k).1 hx)
theorem msOk_of {es : List Ed} {N : Nat} {c : List Nat} (hcb : ∀ a, a < N → c.getD a 0 < N) {vs : List Int} (hbd : ∀ v ∈ vs, 0 ≤ v ∧ v < N) (hr : ∀ a : Nat, a < N → ((a : Int) ∈ vs ↔ Rch es a)) : MsOk es N c (srtI (vs.map fun v => clsI c v.toNat)) := by
  refine ⟨srtI_lt _, fun m hm => ?_, fun k => ?_⟩
  · rw [srtI_mem, List.mem_map] at hm
    obtain ⟨v, hv, rfl⟩ := hm
    have := hbd v hv
    have := hcb v.toNat (by omega)
    unfold clsI; omega
  · rw [srtI_mem, List.mem_map]
    constructor
    · rintro ⟨v, hv, e⟩
      have hb := hbd v hv
      refine ⟨v.toNat, by omega, by unfold clsI at e; omega, (hr v.toNat (by omega)).1 (by rwa [show ((v.toNat : Nat) : Int) = v by omega])⟩
    · rintro ⟨a, ha, e, h⟩
      exact ⟨(a : Int), (hr a ha).2 h, by show clsI c ((a : Int)).toNat = (k : Int); rw [Int.toNat_natCast]; unfold clsI; rw [e]⟩
theorem cls_bd {es : List Ed} {N k : Nat} (hin : inB (N : Int) es) (hk : fnd (rN es N k) es ((k : Int) + 1) N = []) {a : Nat} (ha : a < N) : (cls (alk es N k) N).1.getD a 0 < N := by
  have ci := zjy (alk_eqv hin hk) N (Nat.le_refl _)
  have h1 := ci.len
  have h2 := ci.hn
  have := ci.ck a _ (show (cls (alk es N k) N).1[a]? = some ((cls (alk es N k) N).1.getD a 0) by rw [List.getD_eq_getElem?_getD, List.getElem?_eq_getElem (by omega)]; rfl)
  omega
end Go.Ideal.J
namespace Go.Ideal.J
open Go Go.Ideal
def ClsB (st lb : Int) (es : List Ed) (v : Value) (lo : Nat) (h' : H) : Prop :=
  (chk st lb es = false ∧ v = zea (.slice none 0 0) (.int .i64 2)) ∨
  (chk st lb es = true ∧ ∃ u k, v = zea u (.int .i64 0) ∧ fnd (rN es st.toNat k) es ((k : Int) + 1) st.toNat = [] ∧ Row h' 1 u ((cls (alk es st.toNat k) st.toNat).1.map natL) ∧ ∀ b o n c, u = .slice (some ⟨b, o, none⟩) n c → lo ≤ b)
theorem jClasses2_ok (st lb : Int) (es : List Ed) (sl : Value) (h : H) (hrow : Row h 3 sl (es.map edL)) :
    Ret F (fnV n_H) [gV st lb sl] h fun v h' => Fr h h' ∧ ClsB st lb es v h.next h' := by
  obtain ⟨P, hPd⟩ : ∃ P : Value → H → Prop, P = fun v h' => Fr h h' ∧ ClsB st lb es v h.next h' := ⟨_, rfl⟩
  rw [← hPd]
  have hsv := hrow.slvM
  refine Ret.fn F_H 1 (by decide) ?_
  rw [s_H]
  obtain ⟨h1, eh1⟩ : ∃ h1, h1 = h.new (.cells (gL st lb sl) 0) := ⟨_, rfl⟩
  have hf1 : Fr h h1 := by rw [eh1]; exact .new _ _
  have hn1 : h1.next = h.next + 1 := by rw [eh1]; simp
  have g0 : h1.get h.next = some (.cells (gL st lb sl) 0) := by rw [eh1]; simp
  obtain ⟨h2, e2, hf2⟩ := zcH st lb sl es h1 (hrow.fr hf1)
  have hfn2 := hf2.next
  have g02 := (hf2.get _ (by omega)).trans g0
  cases hc : chk st lb es with
  | false =>
    rw [hc] at e2
    refine OkV.eq (OkV.val (v := zea (.slice none 0 0) (.int .i64 2)) (h := h2) (by rw [hPd]; exact ⟨hf1.trans hf2, .inl ⟨hc, rfl⟩⟩)) ?_
    simp (disch := first | omega | (simp only [za, zb]; done) | (simp only [za, zb]; omega)) [↓zH, ↓z6, ↓zK, hsv.clean, hsv.take, ← eh1, g0, e2, erk]
  | true =>
    rw [hc] at e2
    have fm := (zgp st lb es).1 hc
    obtain ⟨N, rfl⟩ := Int.eq_ofNat_of_zero_le (show 0 ≤ st by have := fm.st1; omega)
    have hN := fm.st2
    have hlen := fm.len
    obtain ⟨v3, h3, k, ob, e3, hf3, hk, hg3, hob⟩ := zjB es fm.sortedF (by omega) N (by omega) fm.inB lb sl h2 ((hrow.fr hf1).fr hf2)
    have sv3 := hg3.slvM
    refine OkV.eq (OkV.val (v := zea v3 (.int .i64 0)) (h := h3) (by
      rw [hPd]; exact ⟨(hf1.trans hf2).trans hf3, .inr ⟨hc, v3, k, rfl, hk, hg3.row (by omega), fun b o n c e => by have := hob b (hg3.block e); omega⟩⟩)) ?_
    simp (disch := first | omega | (simp only [za, zb]; done) | (simp only [za, zb]; omega)) [↓zH, ↓z6, ↓zK, hsv.clean, hsv.take, ← eh1, g0, e2, erk, g02, e3]
end Go.Ideal.J
namespace Go.Ideal.J
open Go Go.Ideal
theorem cls_first {B : Nat → Nat → Bool} : ∀ n, (cls B (n + 1)).1[0]? = some 0
  | 0 => rfl
  | n + 1 => by
    have ih := cls_first (B := B) n
    have hl := (List.getElem?_eq_some_iff.1 ih).1
    rw [cls_s]
    split
    · show ((cls B (n + 1)).1 ++ [_])[0]? = _; rw [List.getElem?_append_left hl]; exact ih
    · show ((cls B (n + 1)).1 ++ [_])[0]? = _; rw [List.getElem?_append_left hl]; exact ih
theorem cls_range {B : Nat → Nat → Bool} : ∀ n, (∀ i j, i < j → j < n → B i j = false) → cls B n = (List.range n, List.range n)
  | 0, _ => rfl
  | n + 1, h => by
    have ih := cls_range n fun i j h1 h2 => h i j h1 (by omega)
    have : (List.range n).findIdx? (fun h => B h n) = none := by
      rw [List.findIdx?_eq_none_iff]
      intro x hx
      exact h x n (List.mem_range.1 hx) (by omega)
    rw [cls_s, ih]
    simp only [this, List.length_range, List.range_succ]
theorem lgX_some {ms : List Int} {cf : Nat → Int} {x y : Ed} (h : lgX ms cf x = some y) : ∃ f t, ix ms (cf x.1.toNat) = some f ∧ ix ms (cf x.2.1.toNat) = some t ∧ y = ((f : Int), (t : Int), x.2.2) := by
  unfold lgX at h
  split at h
  · rename_i f t h1 h2; cases h; exact ⟨f, t, h1, h2, rfl⟩
  · cases h
theorem lgX_mk {ms : List Int} {cf : Nat → Int} {x : Ed} {f t : Nat} (h1 : ix ms (cf x.1.toNat) = some f) (h2 : ix ms (cf x.2.1.toNat) = some t) : lgX ms cf x = some ((f : Int), (t : Int), x.2.2) := by
  unfold lgX; rw [h1, h2]
section
variable {es : List Ed} {N : Nat} (hin : inB (N : Int) es) (cf : Nat → Int) (ms : List Int) (hms : ms.Pairwise (· < ·)) (hcf : ∀ {a b : Nat}, a < N → b < N → (cf a = cf b ↔ Bis es (a : Int) (b : Int))) (hmem : ∀ x : Int, x ∈ ms ↔ ∃ a, a < N ∧ cf a = x ∧ Rch es a)
include hin hms hcf hmem
theorem mem_lg {x : Ed} : x ∈ srtE (lgE ms cf es) ↔ ∃ y ∈ es, lgX ms cf y = some x := by
  rw [srtE_mem]; unfold lgE; rw [List.mem_filterMap]
theorem ix_rch {a : Nat} (ha : a < N) (hr : Rch es a) : ∃ i, ix ms (cf a) = some i := ⟨_, ix_cnt hms ((hmem _).2 ⟨a, ha, rfl, hr⟩)⟩
theorem lg_fwd {a i : Nat} (ha : a < N) (hr : Rch es a) (hi : ix ms (cf a) = some i) {y : Ed} (hy : y ∈ es) (hya : y.1 = (a : Int)) : ∃ b j : Nat, y.2.1 = (b : Int) ∧ b < N ∧ Rch es b ∧ ix ms (cf b) = some j ∧ ((i : Int), (j : Int), y.2.2) ∈ srtE (lgE ms cf es) := by
  have hb := hin y hy
  obtain ⟨b, eb⟩ := Int.eq_ofNat_of_zero_le hb.2.2.1
  have e1 : y.1.toNat = a := by omega
  have e2 : y.2.1.toNat = b := by omega
  have hrb : Rch es b := by
    have := Rch.step (x := y) (by rw [e1]; exact hr) hy
    rwa [e2] at this
  have hbN : b < N := by omega
  obtain ⟨j, hj⟩ := ix_rch hin cf ms hms hcf hmem hbN hrb
  exact ⟨b, j, eb, hbN, hrb, hj, (mem_lg hin cf ms hms hcf hmem).2 ⟨y, hy, lgX_mk (by rw [e1]; exact hi) (by rw [e2]; exact hj)⟩⟩
theorem lg_bwd {a i : Nat} (ha : a < N) (hr : Rch es a) (hi : ix ms (cf a) = some i) {x : Ed} (hx : x ∈ srtE (lgE ms cf es)) (hxi : x.1 = (i : Int)) : ∃ y ∈ es, ∃ b j : Nat, y.1 = (a : Int) ∧ y.2.2 = x.2.2 ∧ y.2.1 = (b : Int) ∧ b < N ∧ Rch es b ∧ ix ms (cf b) = some j ∧ x.2.1 = (j : Int) := by
  obtain ⟨y0, hy0, hl⟩ := (mem_lg hin cf ms hms hcf hmem).1 hx
  obtain ⟨f, t, h1, h2, rfl⟩ := lgX_some hl
  simp only at hxi ⊢
  have hb := hin y0 hy0
  obtain ⟨a0, ea0⟩ := Int.eq_ofNat_of_zero_le hb.1
  obtain ⟨b0, eb0⟩ := Int.eq_ofNat_of_zero_le hb.2.2.1
  have q1 : y0.1.toNat = a0 := by omega
  have q2 : y0.2.1.toNat = b0 := by omega
  rw [q1] at h1
  rw [q2] at h2
  have hf : f = i := by omega
  subst hf
  have hcc : cf a = cf a0 := by
    have := (ix_get hi).symm.trans (ix_get h1)
    exact Option.some.inj this
  have hbis := (hcf ha (by omega)).1 hcc
  obtain ⟨t1, ht1, hR⟩ := (zeg es _ _ hbis).2 y0 (zbl.2 ⟨hy0, ea0⟩)
  obtain ⟨z, hz, z1, z2, rfl⟩ := zcf.1 ht1
  have hbz := hin z hz
  obtain ⟨bz, ebz⟩ := Int.eq_ofNat_of_zero_le hbz.2.2.1
  have hrz : Rch es bz := by
    have := Rch.step (x := z) (by rw [show z.1.toNat = a by omega]; exact hr) hz
    rwa [show z.2.1.toNat = bz by omega] at this
  rw [ebz, eb0] at hR
  have hcz : cf bz = cf b0 := (hcf (by omega) (by omega)).2 hR
  exact ⟨z, hz, bz, t, z1, z2, ebz, by omega, hrz, by rw [hcz]; exact h2, rfl⟩
theorem lg_alike (h0 : 0 < N) (hz : ix ms (cf 0) = some 0) : Bis (zcv N es (srtE (lgE ms cf es))) 0 (N : Int) := by
  refine ⟨fun u v => ∃ a i : Nat, a < N ∧ Rch es a ∧ ix ms (cf a) = some i ∧ u = (a : Int) ∧ v = (i : Int) + N, ?_, 0, 0, h0, .zero, hz, rfl, by omega⟩
  rintro u v ⟨a, i, ha, hr, hi, rfl, rfl⟩
  refine ⟨fun x hx => ?_, fun x hx => ?_⟩
  · obtain ⟨hx1, hx2⟩ := zbl.1 hx
    rcases List.mem_append.1 hx1 with hx1 | hx1
    · obtain ⟨b, j, eb, hb, hrb, hj, hm⟩ := lg_fwd hin cf ms hms hcf hmem ha hr hi hx1 hx2
      exact ⟨(j : Int) + N, zcf.2 ⟨shE N ((i : Int), (j : Int), x.2.2), List.mem_append_right _ (List.mem_map_of_mem hm), rfl, rfl, rfl⟩, b, j, hb, hrb, hj, eb, rfl⟩
    · obtain ⟨y, hy, rfl⟩ := List.mem_map.1 hx1
      obtain ⟨y0, hy0, hl⟩ := (mem_lg hin cf ms hms hcf hmem).1 hy
      obtain ⟨f, t, _, _, rfl⟩ := lgX_some hl
      have : (f : Int) + N = (a : Int) := hx2
      omega
  · obtain ⟨hx1, hx2⟩ := zbl.1 hx
    rcases List.mem_append.1 hx1 with hx1 | hx1
    · have := hin x hx1; omega
    · obtain ⟨y, hy, rfl⟩ := List.mem_map.1 hx1
      have hyi : y.1 = (i : Int) := by have : y.1 + N = (i : Int) + N := hx2; omega
      obtain ⟨z, hz, b, j, z1, z2, z3, hb, hrb, hj, hyj⟩ := lg_bwd hin cf ms hms hcf hmem ha hr hi hy hyi
      exact ⟨(b : Int), zcf.2 ⟨z, List.mem_append_left _ hz, z1, z2, z3⟩, b, j, hb, hrb, hj, rfl, by show y.2.1 + N = (j : Int) + N; rw [hyj]⟩
theorem lg_apart {a b i j : Nat} (ha : a < N) (hra : Rch es a) (hi : ix ms (cf a) = some i) (hb : b < N) (hrb : Rch es b) (hj : ix ms (cf b) = some j) (h : Bis (srtE (lgE ms cf es)) (i : Int) (j : Int)) : i = j := by
  have hbis : Bis es (a : Int) (b : Int) := by
    refine ⟨fun u v => ∃ a b i j : Nat, a < N ∧ Rch es a ∧ ix ms (cf a) = some i ∧ b < N ∧ Rch es b ∧ ix ms (cf b) = some j ∧ Bis (srtE (lgE ms cf es)) (i : Int) (j : Int) ∧ u = (a : Int) ∧ v = (b : Int), ?_, a, b, i, j, ha, hra, hi, hb, hrb, hj, h, rfl, rfl⟩
    rintro u v ⟨a, b, i, j, ha, hra, hi, hb, hrb, hj, h, rfl, rfl⟩
    obtain ⟨p1, p2⟩ := zeg _ _ _ h
    refine ⟨fun x hx => ?_, fun x hx => ?_⟩
    · obtain ⟨hx1, hx2⟩ := zbl.1 hx
      obtain ⟨a', i', ea, ha', hra', hi', hm⟩ := lg_fwd hin cf ms hms hcf hmem ha hra hi hx1 hx2
      obtain ⟨t, ht, hR⟩ := p1 _ (zbl.2 ⟨hm, rfl⟩)
      obtain ⟨z, hz, z1, z2, rfl⟩ := zcf.1 ht
      obtain ⟨w, hw, b', j', w1, w2, w3, hb', hrb', hj', ez⟩ := lg_bwd hin cf ms hms hcf hmem hb hrb hj hz z1
      rw [ez] at hR
      exact ⟨(b' : Int), zcf.2 ⟨w, hw, w1, by rw [w2]; exact z2, w3⟩, a', b', i', j', ha', hra', hi', hb', hrb', hj', hR, ea, rfl⟩
    · obtain ⟨hx1, hx2⟩ := zbl.1 hx
      obtain ⟨b', j', eb, hb', hrb', hj', hm⟩ := lg_fwd hin cf ms hms hcf hmem hb hrb hj hx1 hx2
      obtain ⟨t, ht, hR⟩ := p2 _ (zbl.2 ⟨hm, rfl⟩)
      obtain ⟨z, hz, z1, z2, rfl⟩ := zcf.1 ht
      obtain ⟨w, hw, a', i', w1, w2, w3, ha', hra', hi', ez⟩ := lg_bwd hin cf ms hms hcf hmem ha hra hi hz z1
      rw [ez] at hR
      exact ⟨(a' : Int), zcf.2 ⟨w, hw, w1, by rw [w2]; exact z2, w3⟩, a', b', i', j', ha', hra', hi', hb', hrb', hj', hR, rfl, eb⟩
  have := (hcf ha hb).2 hbis
  rw [this] at hi
  rw [hi] at hj; cases hj; rfl
theorem lg_rch (h0 : 0 < N) (hz : ix ms (cf 0) = some 0) {a : Nat} (hr : Rch es a) : ∀ {i : Nat}, ix ms (cf a) = some i → Rch (srtE (lgE ms cf es)) i := by
  induction hr with
  | zero => intro i hi; rw [hz] at hi; cases hi; exact .zero
  | @step x h hx ih =>
    intro i hi
    have hb := hin x hx
    obtain ⟨k, hk⟩ := ix_rch hin cf ms hms hcf hmem (a := x.1.toNat) (by omega) h
    obtain ⟨b, j, eb, hbN, hrb, hj, hm⟩ := lg_fwd hin cf ms hms hcf hmem (a := x.1.toNat) (by omega) h hk hx (by omega)
    have e : x.2.1.toNat = b := by omega
    rw [e] at hi
    rw [hi] at hj; cases hj
    exact Rch.step (x := ((k : Int), (i : Int), x.2.2)) (by simpa using ih hk) hm
end
end Go.Ideal.J
namespace Go.Ideal.J
open Go Go.Ideal
theorem range_ms {M : Nat} : ((List.range M).map fun a : Nat => (a : Int)).Pairwise (· < ·) := by
  rw [List.pairwise_map]
  exact List.pairwise_lt_range.imp fun h => by omega
theorem srtE_self {l : List Ed} (h : l.Pairwise fun a b => zbH a b = true) : srtE l = l :=
  zje (srtE_lt l) h fun x => srtE_mem l x
structure LeastP (es : List Ed) (N : Nat) (lb : Int) (l : List Ed) (M : Nat) : Prop where
  fm : zeL (M : Int) lb l
  le : M ≤ N
  alike : Bis (zcv N es l) 0 (N : Int)
  apart : ∀ i j : Nat, i < M → j < M → Bis l (i : Int) (j : Int) → i = j
  rch : ∀ i : Nat, i < M → Rch l i
theorem least_props {es : List Ed} {N k : Nat} {lb : Int} (fm : zeL (N : Int) lb es) (hk : fnd (rN es N k) es ((k : Int) + 1) N = []) {vs ms : List Int} {l : List Ed} (hok : LstOk es N lb (cls (alk es N k) N).1 vs ms l) : LeastP es N lb l ms.length := by
  have hin := fm.inB
  have hN1 := fm.st1
  have hN2 := fm.st2
  obtain ⟨c, ec⟩ : ∃ c, c = (cls (alk es N k) N).1 := ⟨_, rfl⟩
  have hcb : ∀ a, a < N → c.getD a 0 < N := fun a ha => by rw [ec]; exact cls_bd hin hk ha
  have hcf : ∀ {a b : Nat}, a < N → b < N → (clsI c a = clsI c b ↔ Bis es (a : Int) (b : Int)) := fun {a b} ha hb => by
    rw [← cls_bis hin hk ha hb, ← ec]; unfold clsI; omega
  have hc0 : clsI c 0 = 0 := by
    obtain ⟨n, rfl⟩ : ∃ n, N = n + 1 := ⟨N - 1, by omega⟩
    have := cls_first (B := alk es (n + 1) k) n
    rw [← ec] at this
    unfold clsI; rw [List.getD_eq_getElem?_getD, this]; rfl
  have hm0 := hok.hm
  have hl0 := hok.hl
  rw [← ec] at hm0 hl0
  have hM := msOk_of (es := es) hcb hok.bd (fun a _ => hok.rch a)
  rw [← hm0] at hM
  have hms := hM.lt
  have hmem : ∀ x : Int, x ∈ ms ↔ ∃ a, a < N ∧ clsI c a = x ∧ Rch es a := fun x => by
    constructor
    · intro hx
      obtain ⟨k, rfl⟩ := Int.eq_ofNat_of_zero_le (hM.bd x hx).1
      obtain ⟨a, h1, h2, h3⟩ := (hM.mem k).1 hx
      exact ⟨a, h1, by unfold clsI; rw [h2], h3⟩
    · rintro ⟨a, h1, rfl, h3⟩
      exact (hM.mem _).2 ⟨a, h1, rfl, h3⟩
  have h0m : clsI c 0 ∈ ms := (hmem _).2 ⟨0, by omega, rfl, .zero⟩
  have hz : ix ms (clsI c 0) = some 0 := by
    rw [ix_cnt hms h0m, hc0, cntLt_zero fun m hm => (hM.bd m hm).1]
  have hMN : ms.length ≤ N := zcR (hms.imp fun h => by omega) hM.bd
  have hM1 : 0 < ms.length := List.length_pos_iff.2 (by rintro rfl; cases h0m)
  have hrep : ∀ i : Nat, i < ms.length → ∃ a, a < N ∧ Rch es a ∧ ix ms (clsI c a) = some i := fun i hi => by
    obtain ⟨a, h1, h2, h3⟩ := (hmem ms[i]).1 (List.getElem_mem hi)
    exact ⟨a, h1, h3, zh0 hms (by rw [h2]; exact List.getElem?_eq_getElem hi)⟩
  have hsort := srtE_lt (lgE ms (clsI c) es)
  rw [← hl0] at hsort
  have hix : ∀ {a : Int} {i : Nat}, ix ms a = some i → i < ms.length := fun h => (List.getElem?_eq_some_iff.1 (ix_get h)).1
  refine ⟨⟨by omega, by omega, fm.lb1, fm.lb2, ?_, fun x hx => ?_, fun i x y hx hy => ?_⟩, hMN, ?_, fun i j hi hj hb => ?_, fun i hi => ?_⟩
  · rw [hl0]
    have h1 := srtE_len (lgE ms (clsI c) es)
    have h2 : (lgE ms (clsI c) es).length ≤ es.length := List.length_filterMap_le _ _
    have := fm.len; omega
  · rw [hl0] at hx
    obtain ⟨y, hy, he⟩ := (mem_lg hin (clsI c) ms hms hcf hmem).1 hx
    obtain ⟨f, t, h1, h2, rfl⟩ := lgX_some he
    have := hix h1
    have := hix h2
    have := fm.ok y hy
    simp only; omega
  · have h1 := List.getElem?_eq_some_iff.1 hx
    have h2 := List.getElem?_eq_some_iff.1 hy
    have := List.pairwise_iff_getElem.1 hsort i (i + 1) h1.1 h2.1 (by omega)
    rwa [h1.2, h2.2] at this
  · rw [hl0]; exact lg_alike hin (clsI c) ms hms hcf hmem (by omega) hz
  · obtain ⟨a, ha, hra, hai⟩ := hrep i hi
    obtain ⟨b, hb', hrb, hbj⟩ := hrep j hj
    rw [hl0] at hb
    exact lg_apart hin (clsI c) ms hms hcf hmem ha hra hai hb' hrb hbj hb
  · obtain ⟨a, ha, hra, hai⟩ := hrep i hi
    rw [hl0]; exact lg_rch hin (clsI c) ms hms hcf hmem (by omega) hz hra hai
theorem least_cls {l : List Ed} {M k : Nat} {lb : Int} (fm : zeL (M : Int) lb l) (hap : ∀ i j : Nat, i < M → j < M → Bis l (i : Int) (j : Int) → i = j) (hk : fnd (rN l M k) l ((k : Int) + 1) M = []) : (cls (alk l M k) M).1 = List.range M := by
  rw [cls_range M fun i j h1 h2 => ?_]
  cases h : alk l M k i j with
  | false => rfl
  | true =>
    have := hap i j (by omega) h2 ((rN_none fm.inB hk (by omega) (by omega)).1 h)
    omega
theorem zfI {M a : Nat} (h : a < M) : (List.range M).getD a 0 = a := by
  rw [List.getD_eq_getElem?_getD, List.getElem?_range h]; rfl
theorem least_again {l : List Ed} {M k : Nat} {lb : Int} (fm : zeL (M : Int) lb l) (hap : ∀ i j : Nat, i < M → j < M → Bis l (i : Int) (j : Int) → i = j) (hr : ∀ i : Nat, i < M → Rch l i) (hk : fnd (rN l M k) l ((k : Int) + 1) M = []) {vs ms : List Int} {l' : List Ed} (hok : LstOk l M lb (cls (alk l M k) M).1 vs ms l') : ms.length = M ∧ l' = l := by
  have hc := least_cls fm hap hk
  have hm0 := hok.hm
  have hl0 := hok.hl
  rw [hc] at hm0 hl0
  have hcb : ∀ a, a < M → (List.range M).getD a 0 < M := fun a ha => by rw [zfI ha]; exact ha
  have hM := msOk_of (es := l) hcb hok.bd (fun a _ => hok.rch a)
  rw [← hm0] at hM
  have hM2 : MsOk l M (List.range M) ((List.range M).map fun a : Nat => (a : Int)) := by
    refine ⟨range_ms, fun m hm => ?_, fun k => ?_⟩
    · obtain ⟨a, ha, rfl⟩ := List.mem_map.1 hm
      have := List.mem_range.1 ha; omega
    · rw [List.mem_map]
      constructor
      · rintro ⟨a, ha, e⟩
        have := List.mem_range.1 ha
        exact ⟨a, this, by rw [zfI this]; omega, hr a this⟩
      · rintro ⟨a, ha, e, _⟩
        rw [zfI ha] at e
        exact ⟨a, List.mem_range.2 ha, by omega⟩
  have em := hM.eq hM2
  subst em
  refine ⟨by simp, ?_⟩
  have hx : ∀ x ∈ l, lgX ((List.range M).map fun a : Nat => (a : Int)) (clsI (List.range M)) x = some x := fun x hx => by
    have hb := fm.ok x hx
    obtain ⟨x1, x2, x3⟩ := x
    obtain ⟨a, ha⟩ := Int.eq_ofNat_of_zero_le hb.1
    obtain ⟨b, hb'⟩ := Int.eq_ofNat_of_zero_le hb.2.2.1
    simp only at ha hb' hb
    subst ha; subst hb'
    have h1 : ∀ a : Nat, a < M → ix ((List.range M).map fun a : Nat => (a : Int)) (clsI (List.range M) a) = some a := fun a ha => by
      refine zh0 range_ms ?_
      unfold clsI
      rw [zfI ha, List.getElem?_map, List.getElem?_range ha]; rfl
    exact lgX_mk (by simpa using h1 a (by omega)) (by simpa using h1 b (by omega))
  have hlg : lgE ((List.range M).map fun a : Nat => (a : Int)) (clsI (List.range M)) l = l := by
    unfold lgE
    have : ∀ l' : List Ed, (∀ x ∈ l', lgX ((List.range M).map fun a : Nat => (a : Int)) (clsI (List.range M)) x = some x) → l'.filterMap (lgX ((List.range M).map fun a : Nat => (a : Int)) (clsI (List.range M))) = l' := fun l' => by
      induction l' with
      | nil => intro _; rfl
      | cons x l' ih => intro h; rw [List.filterMap_cons, h x (by simp), ih fun y hy => h y (by simp [hy])]
    exact this l hx
  rw [hl0, hlg]
  exact srtE_self fm.sorted
theorem jAlike2_ok (st lb st' lb' : Int) (es fs : List Ed) (sl sl' : Value) (h : H) (hrow : Row h 3 sl (es.map edL)) (hrow' : Row h 3 sl' (fs.map edL)) :
    ∃ h', zbs F (fnV n_J) [gV st lb sl, gV st' lb' sl'] h = some (zjH st lb es st' lb' fs, h') ∧ Fr h h' := by
  obtain ⟨v, h', e, rfl, hf⟩ := jAlike_ok st lb st' lb' es fs sl sl' h hrow hrow' (P := fun v h' => v = zjH st lb es st' lb' fs ∧ Fr h h')
    (fun hc h' hf => ⟨by unfold zjH two; rw [if_neg (by rw [hc]; simp)], hf⟩) (fun hc h' hf => ⟨by unfold zjH two; rw [if_pos hc], hf⟩)
  exact ⟨h', e, hf⟩
theorem jl_loop (M : Nat) (hM : M ≤ 100000) (u : Value) (h : H) (hr : Row h 1 u ((List.range M).map natL)) {P : Value → H → Prop} (hP : P (.bool true) h) : ∀ (n i : Nat), i + n = M →
    OkV (sh (rI G2) c_s_1 (K_s_1 (rI G2)) (setL [p8, p10] [u, .int .i64 (i : Int)]) h) P := by
  have sv := hr.slvM
  rw [List.length_range] at sv
  have hkn : ∀ h, zbs G2 (fnV n_D) [] h = some (.bool true, h) := fun h => zbg leG2 (known_ok' h)
  intro n
  induction n with
  | zero =>
    intro i hi
    have e : i = M := by omega
    subst e
    rw [s_s_1]
    refine OkV.eq (OkV.val hP) ?_
    simp (disch := omega) [sv.len, s_s_0, hkn]
  | succ n ih =>
    intro i hi
    have hil : i < M := by omega
    obtain ⟨b1, o1, cs1, e1, hv1, hb1, hg1, ht1⟩ := hr.index (i := i) (r := natL i) (by rw [List.getElem?_map, List.getElem?_range hil]; rfl)
    have := ih (i + 1) (by omega)
    rw [s_s_1]
    refine OkV.eq (this.lp (l_s_1 G2 _ _ _)) ?_
    simp (disch := omega) [sv.len, hil, hv1, hg1, ht1, zN]
theorem least_law (st lb : Int) (es : List Ed) (sl : Value) (h : H) (hrow : Row h 3 sl (es.map edL)) :
    Ret G2 (fnV n_s) [gV st lb sl] h fun u h' => u = .bool true ∧ Fr h h' := by
  refine Ret.fn (leG2 _ _ F_s) 1 (by decide) ?_
  obtain ⟨P, hPd⟩ : ∃ P : Value → H → Prop, P = fun v h' => v = .bool true ∧ Fr h h' := ⟨_, rfl⟩
  rw [← hPd]
  have hsv := hrow.slvM
  have hkn : ∀ h, zbs G2 (fnV n_D) [] h = some (.bool true, h) := fun h => zbg leG2 (known_ok' h)
  obtain ⟨q, eq⟩ : ∃ q, q = h.next := ⟨_, rfl⟩
  obtain ⟨h1, eh1⟩ : ∃ h1, h1 = h.new (.cells (gL st lb sl) 0) := ⟨_, rfl⟩
  have hf1 : Fr h h1 := by rw [eh1]; exact .new _ _
  have hn1 : h1.next = q + 1 := by rw [eh1, eq]; simp
  have g0 : h1.get q = some (.cells (gL st lb sl) 0) := by rw [eh1, eq]; simp
  obtain ⟨v2, h2, e2, hf2, hA2⟩ := jLeast_ok st lb es sl h1 (hrow.fr hf1)
  have hfn2 := hf2.next
  have g02 := (hf2.get _ (by omega)).trans g0
  rw [s_s]
  rcases hA2 with ⟨hc, rfl⟩ | ⟨hc, u, k, vs, ms, l, rfl, hk, hok, hru, _⟩
  · obtain ⟨h3, eh3⟩ : ∃ h3, h3 = h2.new (.cells (gL 0 0 (.slice none 0 0)) 0) := ⟨_, rfl⟩
    have g3 : h3.get h2.next = some (.cells (gL 0 0 (.slice none 0 0)) 0) := by rw [eh3]; simp
    have hput : h3.put h2.next (.cells (gL 0 0 (.slice none 0 0)) 0) = h3 := by rw [eh3, new_put]
    have e4 := zbg leG2 (same_ok 0 0 0 0 (.slice none 0 0) (.slice none 0 0) [] [] (by simp) h3 .nil .nil)
    obtain ⟨h4, eh4⟩ : ∃ h4, h4 = (h3.new (.cells (gL 0 0 (.slice none 0 0)) 0)).new (.cells (gL 0 0 (.slice none 0 0)) 0) := ⟨_, rfl⟩
    have hs : sameG 0 0 0 0 [] [] = true := rfl
    rw [← eh4, hs] at e4
    refine OkV.eq (OkV.val (v := .bool true) (h := h4) (by
      rw [hPd]
      refine ⟨rfl, ?_⟩
      rw [eh4, eh3]
      exact ((((hf1.trans hf2)).newR _).newR _).newR _)) ?_
    simp (disch := first | omega | (simp only [za, zb]; done) | (simp only [za, zb]; omega)) [↓zH, ↓z6, ↓zK, hsv.clean, hsv.take, ← eq, ← eh1, g0, e2, ← eh3, g3, hput, zp, e4, hkn]
  · have fm0 := (zgp st lb es).1 hc
    obtain ⟨N, rfl⟩ := Int.eq_ofNat_of_zero_le (show 0 ≤ st by have := fm0.st1; omega)
    have hN := fm0.st2
    have hst : ((N : Int)).toNat = N := by simp
    rw [hst] at hk hok
    have lp := least_props fm0 hk hok
    obtain ⟨M, eM⟩ : ∃ M, M = ms.length := ⟨_, rfl⟩
    rw [← eM] at lp e2
    have su := hru.slv
    have hle := lp.le
    have hcM : chk (M : Int) lb l = true := (zgp _ _ _).2 lp.fm
    have hM2 := lp.fm.st2
    have hM1 := lp.fm.st1
    have hll := lp.fm.len
    obtain ⟨h3, eh3⟩ : ∃ h3, h3 = h2.new (.cells (gL (M : Int) lb u) 0) := ⟨_, rfl⟩
    have hf3 : Fr h2 h3 := by rw [eh3]; exact .new _ _
    have hn3 : h3.next = h2.next + 1 := by rw [eh3]; simp
    have g3 : h3.get h2.next = some (.cells (gL (M : Int) lb u) 0) := by rw [eh3]; simp
    have g03 := (hf3.get _ (by omega)).trans g02
    have hF3 : Fr h h3 := (hf1.trans hf2).trans hf3
    obtain ⟨h4, e4', hf4⟩ := jAlike2_ok (N : Int) lb (M : Int) lb es l sl u h3 (hrow.fr hF3) (hru.fr hf3)
    have e4 := zbg leG2 e4'
    clear e4'
    have hal : zjH (N : Int) lb es (M : Int) lb l = zea (.bool true) (.int .i64 0) := by
      unfold zjH two
      rw [hc, hcM, hst]
      simp [lp.alike]
    rw [hal] at e4
    have hfn4 := hf4.next
    have g04 := (hf4.get _ (by omega)).trans g03
    have g34 := (hf4.get _ (by omega)).trans g3
    obtain ⟨v5, h5, e5, hf5, hA5⟩ := jLeast_ok (M : Int) lb l u h4 ((hru.fr hf3).fr hf4)
    have hfn5 := hf5.next
    have hstM : ((M : Int)).toNat = M := by simp
    rcases hA5 with ⟨hc5, _⟩ | ⟨_, u5, k5, vs5, ms5, l5, rfl, hk5, hok5, hru5, _⟩
    · rw [hcM] at hc5; cases hc5
    rw [hstM] at hk5 hok5
    obtain ⟨em, el⟩ := least_again lp.fm lp.apart lp.rch hk5 hok5
    rw [em] at e5
    subst el
    have su5 := hru5.slv
    have g05 := (hf5.get _ (by omega)).trans g04
    have g35 := (hf5.get _ (by omega)).trans g34
    obtain ⟨h6, eh6⟩ : ∃ h6, h6 = h5.new (.cells (gL (M : Int) lb u5) 0) := ⟨_, rfl⟩
    have hf6 : Fr h5 h6 := by rw [eh6]; exact .new _ _
    have hn6 : h6.next = h5.next + 1 := by rw [eh6]; simp
    have g6 : h6.get h5.next = some (.cells (gL (M : Int) lb u5) 0) := by rw [eh6]; simp
    have g36 := (hf6.get _ (by omega)).trans g35
    have g06 := (hf6.get _ (by omega)).trans g05
    have hru6 := (((hru.fr hf3).fr hf4).fr hf5).fr hf6
    obtain ⟨v7, h7, e7, hf7, hA7⟩ := jClasses2_ok (M : Int) lb l5 u h6 hru6
    have e7 := zbg leG2 e7
    have hfn7 := hf7.next
    rcases hA7 with ⟨hc7, _⟩ | ⟨_, u7, k7, rfl, hk7, hru7, _⟩
    · rw [hcM] at hc7; cases hc7
    rw [hstM] at hk7 hru7
    rw [least_cls lp.fm lp.apart hk7] at hru7
    have su7 := hru7.slvM
    rw [List.length_range] at su7
    have g37 := (hf7.get _ (by omega)).trans g36
    have g67 := (hf7.get _ (by omega)).trans g6
    have g07 := (hf7.get _ (by omega)).trans g06
    have hF7 : Fr h h7 := (((hF3.trans hf4).trans hf5).trans hf6).trans hf7
    obtain ⟨h8, eh8⟩ : ∃ h8, h8 = (h7.new (.cells (gL (M : Int) lb u) 0)).new (.cells (gL (M : Int) lb u5) 0) := ⟨_, rfl⟩
    have e8 := zbg leG2 (same_ok (M : Int) lb (M : Int) lb u u5 l5 l5 (by omega) h7 (hru6.fr hf7) ((hru5.fr hf6).fr hf7))
    have hs : sameG (M : Int) lb (M : Int) lb l5 l5 = true := by unfold sameG; simp
    rw [← eh8, hs] at e8
    have hf8 : Fr h7 h8 := by rw [eh8]; exact (Fr.new _ _).newR _
    have g38 := (hf8.get _ (by omega)).trans g37
    have g08 := (hf8.get _ (by omega)).trans g07
    have hgt : ¬ (N : Int) < (M : Int) := by omega
    have := jl_loop M (by omega) u7 h8 (hru7.fr hf8) (P := P) (by rw [hPd]; exact ⟨rfl, hF7.trans hf8⟩) M 0 (by omega)
    refine OkV.eq (this.lp (l_s_1 G2 _ _ _)) ?_
    simp (disch := first | omega | (simp only [za, zb]; done) | (simp only [za, zb]; omega)) [↓zH, ↓z6, ↓zK, hsv.clean, hsv.take, ← eq, ← eh1, g0, e2, ← eh3, su.cell, su.clean, su.take, g03, g3, e4, g34, e5, su5.cell, su5.clean, su5.take, ← eh6, g36, e7, g37, g67, e8, g38, g08, hgt, su7.len]
end Go.Ideal.J
set_option maxRecDepth 100000
namespace Go.Proofs.Ytanaepeilcjhcaa
open Go.ChangeShapes Go.WideShapes Go.ChangeAt Go.RowKit Go.Ideal Go.Ideal.J
theorem least_calls {W : World} {v : Value} {st lb : Int} {sl : Value} {es : List Ed} (hv : v = gV st lb sl) (ho : okArg W v = true) (hrow : Row (impH W) 3 sl (es.map edL)) : Calls Try.prog 10 #[v] W fun e W' => e = .returned (.bool true) ∧ Same W W' := by
  obtain ⟨u, h', he, rfl, hf⟩ := least_law st lb es sl (impH W) hrow
  subst hv
  exact calls_import Go.Ideal.X.hmix okG2 (fun v hv => by
    simp only [List.mem_cons, List.not_mem_nil, or_false] at hv
    subst hv; exact ho) he (fun i hi => hf.get i (Nat.lt_succ_of_lt hi))
theorem least_lifted (os : Os) (started : os.Started) (H : Type) (enc : TypeId × Value → H) :
    ReturnsInHanded {} Try.checked os 10 .any (Rows.judgeLeastSpec.pre6 enc Try.prog Try.f10 Rows.judgeLeastRow.domain false) (Rows.judgeLeastSpec.post enc Try.prog Try.f10 false true false false) := by
  refine returnsInHanded_of_change (C := Try.checked) Try.own started (by kernel_rfl) Try.func10
    (ChangeSpec.witness6 (enc := enc) (C := Try.checked) false ⟨#[], #[.agg #[.int .i64 0, .int .i64 0, .slice none 0 0]], []⟩ 8 (by kernel_rfl) (by kernel_rfl) (by kernel_rfl) (by kernel_rfl)) ?_
  intro W base args ds gs before hval0 hW hcnd _
  have hval : ∀ (j : Nat) t v, Try.f10.params[j]? = some t → args[j]? = some v → Value.okWide Try.prog W .any base t v := hval0
  have hW' := hW
  obtain ⟨p, q, hA0, hV, rfl, hfz, hnd⟩ := hW
  have hA : DataW.TrodAll enc Try.prog W 0 (fun _ => true) true Try.f10.params.toList args.toList ds p := hA0
  rw [Try.params10] at hA hval
  obtain ⟨v0, d0, rfl, rfl, h0⟩ := trodAll_one hA
  obtain ⟨st, lb, sl, es, hv, ho, hrow⟩ := graph_in (hval 0 24 v0 rfl rfl) h0
  obtain ⟨rfl, rfl⟩ := trodVars_none hV
  refine (least_calls hv ho hrow).mono fun e W' ⟨he, hs⟩ => ⟨_, he, ?_⟩
  exact law_post hW' rfl rfl (t := 4) (by kernel_rfl) Try.underlying4 hs Try.laidOut (fun t ht => by
    rw [Try.params10] at ht
    simp only [List.mem_cons, List.not_mem_nil, or_false] at ht
    subst ht
    exact ⟨by kernel_rfl, of_decide_eq_true (by kernel_rfl)⟩)
theorem least_holds : Rows.JudgeLeastSaid :=
  OpenClaim.holds_of_wide 10 Try.f10 rfl rfl rfl rfl rfl rfl rfl ⟨rfl, rfl, rfl, rfl, rfl⟩ rfl rfl rfl rfl rfl (by kernel_rfl) Try.func10 (by kernel_rfl)
    (of_decide_eq_true (by kernel_rfl)) (by unfold Func.isWrapper; first | (rw [if_pos (by decide +kernel)]; kernel_rfl) | (rw [if_neg (by decide +kernel)]; exact ⟨rfl, rfl⟩))
    (fun os started H enc _ => least_lifted os started H enc)
end Go.Proofs.Ytanaepeilcjhcaa
