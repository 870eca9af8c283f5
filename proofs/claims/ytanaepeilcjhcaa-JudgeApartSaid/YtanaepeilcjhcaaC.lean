/- A part of the proof: the ideal machine, and what the functions of the program answer over it. -/
import Derived.ProofKit
import Derived.JoinedOf
import Derived.KernelRfl
import Derived.Test.YtanaepeilcjhcaaB
set_option linter.unusedSimpArgs false
set_option linter.unusedVariables false
namespace Go.Ideal
variable {F : FuncId → Option zw}
inductive Grow (h : H) (sz : Nat) : Value → List (List Value) → Option Nat → Prop
  | nil : Grow h sz (.slice none 0 0) [] none
  | cells {b : Nat} {rows : List (List Value)} (hlt : b < h.next) (hg : h.get b = some (.cells rows.flatten sz)) (hr : ∀ r ∈ rows, r.length = sz ∧ r.all zX = true) : Grow h sz (.slice (some ⟨b, 0, none⟩) rows.length zH) rows (some b)
  | full {b e : Nat} {rows : List (List Value)} (hlt : b < h.next) (hg : h.get b = some (.cells rows.flatten e)) (hr : ∀ r ∈ rows, r.length = sz ∧ r.all zX = true) (hc : rows.length < zH) : Grow h sz (.slice (some ⟨b, 0, none⟩) rows.length rows.length) rows (some b)
theorem takeN_len : ∀ (l r : List Value), zfx l.length (l ++ r) = some l
  | [], r => rfl
  | a :: l, r => by rw [List.length_cons, List.cons_append, takeN_s, takeN_len l]; rfl
theorem takeC_len {l r : List Value} (h : l.all zX = true) {n : Nat} (hn : n = l.length) : zbb n (l ++ r) = some l := by subst hn; exact takeC_of (takeN_len l r) h
theorem zhu {l : List Value} (h : l.all zX = true) {n : Nat} (hn : n = l.length) : zbb n l = some l := by have := takeC_len (r := []) h hn; rwa [List.append_nil] at this
theorem dropN_len : ∀ (l r : List Value), zbY l.length (l ++ r) = r
  | [], _ => rfl
  | a :: l, r => by rw [List.length_cons, List.cons_append, dropN_s]; exact dropN_len l r
theorem zfS {sz : Nat} : ∀ {rows : List (List Value)}, (∀ r ∈ rows, r.length = sz) → rows.flatten.length = rows.length * sz
  | [], _ => by simp
  | r :: rows, h => by
    rw [List.flatten_cons, List.length_append, zfS (fun x hx => h x (by simp [hx])), h r (by simp), List.length_cons]
    rw [Nat.succ_mul]; omega
theorem zjo {rows : List (List Value)} (h : ∀ r ∈ rows, r.all zX = true) : rows.flatten.all zX = true := by
  rw [List.all_flatten]; exact List.all_eq_true.2 h
theorem flat_row {sz : Nat} : ∀ {rows : List (List Value)}, (∀ r ∈ rows, r.length = sz ∧ r.all zX = true) → ∀ {i : Nat} {r : List Value}, rows[i]? = some r → zbb sz (zbY (i * sz) rows.flatten) = some r
  | [], _, i, r, hi => by simp at hi
  | x :: rows, h, i, r, hi => by
    have hx := h x (by simp)
    rw [List.flatten_cons]
    cases i with
    | zero =>
      rw [Nat.zero_mul, zgo]
      simp at hi; subst hi
      exact takeC_len hx.2 hx.1.symm
    | succ i =>
      have e : ∀ (l r : List Value) (n : Nat), zbY (l.length + n) (l ++ r) = zbY n r := by
        intro l r n
        induction l with
        | nil => simp
        | cons a l ih => rw [List.length_cons, List.cons_append, Nat.add_right_comm, dropN_s]; exact ih
      rw [Nat.succ_mul, Nat.add_comm, ← hx.1, e x rows.flatten]
      rw [hx.1]
      exact flat_row (fun y hy => h y (by simp [hy])) (by simpa using hi)
theorem Grow.row {h : H} {sz : Nat} {v : Value} {rows : List (List Value)} {ob : Option Nat} (hg : Grow h sz v rows ob) (hs : 0 < sz) : Row h sz v rows := by
  cases hg with
  | nil => exact .nil
  | cells hlt hg hr =>
    refine .cells hlt hg (fun i r hi => ?_) (.inl ⟨rfl, rfl, hs, ?_⟩)
    · rw [Nat.zero_add]; exact flat_row hr hi
    · rw [Nat.zero_add, zfS (fun r hx => (hr r hx).1)]; exact Nat.le_refl _
  | full hlt hg hr hc =>
    refine .cells hlt hg (fun i r hi => ?_) (.inr ⟨hc, Nat.le_refl _⟩)
    rw [Nat.zero_add]; exact flat_row hr hi
theorem Grow.len {h : H} {sz : Nat} {v : Value} {rows : List (List Value)} {ob : Option Nat} (hg : Grow h sz v rows ob) : ∃ base c, v = .slice base rows.length c := by
  cases hg <;> exact ⟨_, _, rfl⟩
theorem Grow.slv {h : H} {sz : Nat} {v : Value} {rows : List (List Value)} {ob : Option Nat} (hg : Grow h sz v rows ob) : SlV v rows.length := by
  cases hg with
  | nil => exact .of _ _ _ nofun
  | cells => exact .of _ _ _ fun a e => by cases e; rfl
  | full => exact .of _ _ _ fun a e => by cases e; rfl
theorem Grow.slvM {α : Type} {h : H} {sz : Nat} {v : Value} {es : List α} {f : α → List Value} {ob : Option Nat} (hg : Grow h sz v (es.map f) ob) : SlV v es.length := by
  have := hg.slv; rwa [List.length_map] at this
theorem Grow.block {h : H} {sz : Nat} {v : Value} {rows : List (List Value)} {ob : Option Nat} (hg : Grow h sz v rows ob) {b o n c : Nat} (e : v = .slice (some ⟨b, o, none⟩) n c) : ob = some b := by
  cases hg with
  | nil => cases e
  | cells => cases e; rfl
  | full => cases e; rfl
theorem Grow.frD {D : Nat → Prop} {h h' : H} {sz : Nat} {v : Value} {rows : List (List Value)} {ob : Option Nat} (hg : Grow h sz v rows ob) (hf : FrD D h h') (hd : ∀ b, ob = some b → ¬ D b) : Grow h' sz v rows ob := by
  cases hg with
  | nil => exact .nil
  | cells hlt hg hr => exact .cells (Nat.lt_of_lt_of_le hlt hf.next) ((hf.get _ hlt (hd _ rfl)).trans hg) hr
  | full hlt hg hr hc => exact .full (Nat.lt_of_lt_of_le hlt hf.next) ((hf.get _ hlt (hd _ rfl)).trans hg) hr hc
theorem Grow.fr {h h' : H} {sz : Nat} {v : Value} {rows : List (List Value)} {ob : Option Nat} (hg : Grow h sz v rows ob) (hf : Fr h h') : Grow h' sz v rows ob := hg.frD (D := fun _ => False) hf.D (by simp)
theorem Grow.lt {h : H} {sz : Nat} {v : Value} {rows : List (List Value)} {b : Nat} (hg : Grow h sz v rows (some b)) : b < h.next := by
  cases hg with
  | cells hlt hg hr => exact hlt
  | full hlt hg hr => exact hlt
theorem zgW {h : H} {sz bytes : Nat} {v w : Value} {rows news : List (List Value)} {ob : Option Nat} (hs : 0 < sz) (hsb : sz ≠ roE) (hg : Grow h sz v rows ob) (hne : news ≠ []) (ha : zdN h sz w = some (news.length, news.flatten)) (hcell : news.flatten.all zbn = true)
    (hr : ∀ r ∈ news, r.length = sz ∧ r.all zX = true) (hb : (rows.length + news.length) * bytes ≤ 1073741824) :
    ∃ h', bltV h (.append sz bytes) [v, w] = some (.slice (some ⟨h.next, 0, none⟩) (rows.length + news.length) zH, h') ∧ Grow h' sz (.slice (some ⟨h.next, 0, none⟩) (rows.length + news.length) zH) (rows ++ news) (some h.next) ∧ h'.next = h.next + 1 ∧ FrD (fun j => ob = some j) h h' ∧ h'.get h.next = some (.cells (rows ++ news).flatten sz) := by
  have hl : 0 < news.length := List.length_pos_iff.2 hne
  have hn0 : ¬ Nat.beq news.length 0 = true := by simp; omega
  have hbb : (Nat.ble ((rows.length + news.length) * bytes) 1073741824 && news.flatten.all zbn) = true := by simp only [Bool.and_eq_true]; exact ⟨by simpa using hb, hcell⟩
  have hrows : ∀ r ∈ rows ++ news, r.length = sz ∧ r.all zX = true := by
    intro r hx
    rcases List.mem_append.1 hx with hx | hx
    · cases hg with
      | nil => cases hx
      | cells _ _ hrr => exact hrr r hx
      | full _ _ hrr => exact hrr r hx
    · exact hr r hx
  have key : ∀ h1 : H, h1.next = h.next → FrD (fun j => ob = some j) h h1 → bltV h (.append sz bytes) [v, w] = some (.slice (some ⟨h.next, 0, none⟩) (rows.length + news.length) zH, h1.new (.cells (rows ++ news).flatten sz)) →
      ∃ h', bltV h (.append sz bytes) [v, w] = some (.slice (some ⟨h.next, 0, none⟩) (rows.length + news.length) zH, h') ∧ Grow h' sz (.slice (some ⟨h.next, 0, none⟩) (rows.length + news.length) zH) (rows ++ news) (some h.next) ∧ h'.next = h.next + 1 ∧ FrD (fun j => ob = some j) h h' ∧ h'.get h.next = some (.cells (rows ++ news).flatten sz) := by
    intro h1 e1 e2 e3
    refine ⟨_, e3, ?_, by simp [e1], e2.new _, by rw [← e1]; simp⟩
    rw [← List.length_append, ← e1]
    exact .cells (by simp) (by simp) hrows
  have hb0 : bltV h (.append sz bytes) [v, w] = zcl sz bytes news.length news.flatten h v := by
    show (zdN h sz w).bind (fun nl => zcl sz bytes nl.1 nl.2 h v) = _
    rw [ha, Option.bind_some]
  cases hg with
  | nil =>
    refine key h rfl (.refl _ _) ?_
    rw [hb0]
    unfold zcl; dsimp only
    have hbb' : (Nat.ble ((0 + news.length) * bytes) 1073741824 && news.flatten.all zbn) = true := hbb
    rw [if_neg hn0, if_pos hbb', if_pos (by rfl)]
    simp [zdF]
  | @cells b rows hlt hgb hrr =>
    refine key (h.put b .dead) rfl ((FrD.refl _ _).put (D := fun j => some b = some j) (.inr rfl) _) ?_
    rw [hb0]
    have hlen : rows.flatten.length = rows.length * sz := zfS fun r hx => (hrr r hx).1
    have hdiv : (rows.flatten.length - 0) / sz = rows.length := by rw [Nat.sub_zero, hlen, Nat.mul_div_cancel _ hs]
    have hble : ¬ (Nat.ble (rows.length + news.length) rows.length = true) := by rw [Nat.ble_eq]; omega
    have hro : (Nat.beq sz sz && !Nat.beq sz roE) = true := by
      have : Nat.beq sz roE = false := by rw [Bool.eq_false_iff]; intro h; exact hsb (Nat.eq_of_beq_eq_true h)
      rw [this]; simp
    have hoc : Nat.beq zH zH = true := Nat.beq_refl _
    unfold zcl; dsimp only
    rw [if_neg hn0, if_pos hbb, hgb, Option.bind_some]
    unfold zeQ; dsimp only
    rw [if_pos hoc, if_pos hro, hdiv, if_neg hble]
    unfold zjm
    rw [zgo, zhu (zjo fun r hx => (hrr r hx).2) hlen.symm]
    simp [zdF, H.put]
  | @full b e rows hlt hgb hrr hc =>
    refine key h rfl (.refl _ _) ?_
    rw [hb0]
    have hlen : rows.flatten.length = rows.length * sz := zfS fun r hx => (hrr r hx).1
    have hble : ¬ (Nat.ble (rows.length + news.length) rows.length = true) := by rw [Nat.ble_eq]; omega
    have hoc : ¬ Nat.beq rows.length zH = true := fun h => by have := Nat.eq_of_beq_eq_true h; omega
    unfold zcl; dsimp only
    rw [if_neg hn0, if_pos hbb, hgb, Option.bind_some]
    unfold zeQ; dsimp only
    rw [if_neg hoc, if_neg hble]
    unfold zjm
    rw [zgo, zhu (zjo fun r hx => (hrr r hx).2) hlen.symm]
    simp [zdF]
theorem append_grow {h : H} {sz bytes : Nat} {v w : Value} {rows news : List (List Value)} {ob : Option Nat} (hs : 0 < sz) (hsb : sz ≠ roE) (hg : Grow h sz v rows ob) (hne : news ≠ []) (ha : zdN h sz w = some (news.length, news.flatten)) (hcell : news.flatten.all zbn = true)
    (hr : ∀ r ∈ news, r.length = sz ∧ r.all zX = true) (hb : (rows.length + news.length) * bytes ≤ 1073741824) :
    ∃ h' v', bltV h (.append sz bytes) [v, w] = some (v', h') ∧ Grow h' sz v' (rows ++ news) (some h.next) ∧ h'.next = h.next + 1 ∧ FrD (fun j => ob = some j) h h' := by
  obtain ⟨h', h1, h2, h3, h4, _⟩ := zgW hs hsb hg hne ha hcell hr hb
  exact ⟨h', _, h1, h2, h3, h4⟩
theorem zgV {h : H} {sz b e : Nat} {r : List Value} (hg : h.get b = some (.cells r e)) (hl : r.length = sz) (hc : r.all zX = true) : zdN h sz (.slice (some ⟨b, 0, none⟩) 1 1) = some ([r].length, [r].flatten) := by
  show (h.readN b 0 (1 * sz)).map _ = _
  rw [readN_of hg, zgo, zhu hc (by omega)]
  simp
theorem zdp {h : H} {sz bytes b e : Nat} {v : Value} {r : List Value} {rows : List (List Value)} {ob : Option Nat} (hs : 0 < sz) (hsb : sz ≠ roE) (hg : Grow h sz v rows ob) (hgb : h.get b = some (.cells r e)) (hl : r.length = sz) (hc : r.all zX = true) (hi : r.all zbn = true) (hb : (rows.length + 1) * bytes ≤ 1073741824) :
    ∃ h' v', bltV h (.append sz bytes) [v, .slice (some ⟨b, 0, none⟩) 1 1] = some (v', h') ∧ Grow h' sz v' (rows ++ [r]) (some h.next) ∧ h'.next = h.next + 1 ∧ FrD (fun j => ob = some j) h h' :=
  append_grow hs hsb hg (by simp) (zgV hgb hl hc) (by simpa using hi) (by simp; exact ⟨hl, by simpa using hc⟩) hb
end Go.Ideal
namespace Go.Ideal
abbrev key2 (a b : Int) : Value := .agg ⟨[.int .i64 a, .int .i64 b]⟩
abbrev kk2 : KK := .leaves [0, 1]
theorem zbI (a b c d : Int) : zbc kk2 (key2 a b) (key2 c d) = some (decide (a = c) && decide (b = d)) := by
  have : zbc kk2 (key2 a b) (key2 c d) = some (eqI a c && (eqI b d && true)) := rfl
  rw [this, zcN, zcN, Bool.and_true]; congr 1
structure zgC (es : List (Value × Value × Nat)) (r : Int → Int → Option Value) : Prop where
  look : ∀ a b, zdW kk2 (key2 a b) es = some (r a b)
  keys : ∀ e ∈ es, ∃ a b, e.1 = key2 a b
theorem zgC.nil : zgC [] fun _ _ => none := ⟨fun _ _ => rfl, fun e h => by cases h⟩
def upd2 (r : Int → Int → Option Value) (a b : Int) (v : Value) : Int → Int → Option Value := fun c d => if c = a ∧ d = b then some v else r c d
theorem zce (k key v : Value) (b : Nat) (es : List (Value × Value × Nat)) : zdW kk2 k ((key, v, b) :: es) = (zbc kk2 k key).bind fun s => match s with | true => some (some v) | false => zdW kk2 k es := rfl
theorem setE_cons (k v key w : Value) (clock b : Nat) (es : List (Value × Value × Nat)) : setE kk2 k v clock ((key, w, b) :: es) = (zbc kk2 k key).bind fun s => match s with
    | true => if z6 (zl k) (zl key) then some ((k, v, b) :: es, clock) else none
    | false => (setE kk2 k v clock es).map fun x => ((key, w, b) :: x.1, x.2) := rfl
theorem sameInts_key2 (a b : Int) : z6 (zl (key2 a b)) (zl (key2 a b)) = true := by
  show (match decide (IntKind.i64 = IntKind.i64) && eqI a a with | true => (match decide (IntKind.i64 = IntKind.i64) && eqI b b with | true => true | false => false) | false => false) = true
  simp [zcN]
theorem setE_find (a b : Int) (v : Value) : ∀ (es : List (Value × Value × Nat)) (clock : Nat), (∀ e ∈ es, ∃ a b, e.1 = key2 a b) → ∃ es' c', setE kk2 (key2 a b) v clock es = some (es', c') ∧ (∀ e ∈ es', ∃ a b, e.1 = key2 a b) ∧
    ∀ c d, zdW kk2 (key2 c d) es' = if c = a ∧ d = b then some (some v) else zdW kk2 (key2 c d) es
  | [], clock, _ => ⟨_, _, rfl, fun e h => by rw [List.mem_singleton] at h; subst h; exact ⟨_, _, rfl⟩, fun c d => by
      rw [zce, zbI]
      by_cases h1 : c = a
      · by_cases h2 : d = b
        · simp [h1, h2]
        · simp [h1, h2, zdW]
      · simp [h1, zdW]⟩
  | (key, w, n) :: es, clock, hk => by
    obtain ⟨p, q, e⟩ := hk (key, w, n) (by simp)
    have e : key = key2 p q := e
    subst e
    rw [setE_cons, zbI]
    by_cases hab : a = p ∧ b = q
    · obtain ⟨rfl, rfl⟩ := hab
      refine ⟨(key2 a b, v, n) :: es, clock, by rw [decide_eq_true rfl, decide_eq_true rfl]; show (if z6 (zl (key2 a b)) (zl (key2 a b)) = true then _ else _) = _; rw [if_pos (sameInts_key2 a b)], fun e he => ?_, fun c d => ?_⟩
      · rcases List.mem_cons.1 he with rfl | he
        · exact ⟨_, _, rfl⟩
        · exact hk e (by simp [he])
      · rw [zce, zce, zbI]
        by_cases h : c = a ∧ d = b
        · simp [h]
        · rw [if_neg h]
          have : (decide (c = a) && decide (d = b)) = false := by
            rw [Bool.eq_false_iff]; intro h'; simp at h'; exact h h'
          rw [this]; rfl
    · have hf : (decide (a = p) && decide (b = q)) = false := by
        rw [Bool.eq_false_iff]; intro h'; simp at h'; exact hab h'
      obtain ⟨es', c', h1, h2, h3⟩ := setE_find a b v es clock fun e he => hk e (by simp [he])
      refine ⟨(key2 p q, w, n) :: es', c', by rw [hf]; simp [h1], fun e he => ?_, fun c d => ?_⟩
      · rcases List.mem_cons.1 he with rfl | he
        · exact ⟨_, _, rfl⟩
        · exact h2 e he
      · rw [zce, zce, zbI, h3]
        by_cases h : c = p ∧ d = q
        · obtain ⟨rfl, rfl⟩ := h
          have : ¬ (c = a ∧ d = b) := fun h => hab ⟨h.1.symm, h.2.symm⟩
          simp [this]
        · have : (decide (c = p) && decide (d = q)) = false := by
            rw [Bool.eq_false_iff]; intro h'; simp at h'; exact h h'
          rw [this]; simp
theorem zgC.set {es : List (Value × Value × Nat)} {r : Int → Int → Option Value} (m : zgC es r) (a b : Int) (v : Value) (clock : Nat) : ∃ es' c', setE kk2 (key2 a b) v clock es = some (es', c') ∧ zgC es' (upd2 r a b v) := by
  obtain ⟨es', c', h1, h2, h3⟩ := setE_find a b v es clock m.keys
  refine ⟨es', c', h1, ⟨fun c d => ?_, h2⟩⟩
  rw [h3, m.look]
  unfold upd2
  split <;> rfl
def MapM (h : H) (m : Nat) (r : Int → Int → Option Value) : Prop := ∃ es c, h.get m = some (.map es c) ∧ zgC es r
theorem MapM.fr {D : Nat → Prop} {h h' : H} {m : Nat} {r : Int → Int → Option Value} (hm : MapM h m r) (hf : FrD D h h') (hl : m < h.next) (hd : ¬ D m) : MapM h' m r := by
  obtain ⟨es, c, h1, h2⟩ := hm
  exact ⟨es, c, (hf.get _ hl hd).trans h1, h2⟩
theorem zhS {h : H} {m : Nat} {r : Int → Int → Option Value} (hm : MapM h m r) (z : Value) (a b : Int) : zbo kk2 z true (.map (some m)) (key2 a b) h = some (.tuple #[(r a b).getD z, .bool (r a b).isSome], h) := by
  obtain ⟨es, c, h1, h2⟩ := hm
  show ((zbc kk2 (key2 a b) (key2 a b)).bind fun _ => (zbK h (.map (some m))).bind fun es => (zdW kk2 (key2 a b) es).map fun r => (zec z true r, h)) = _
  rw [zbI, Option.bind_some]
  have : zbK h (.map (some m)) = some es := by unfold zbK; simp [h1]
  rw [this, Option.bind_some, h2.look, Option.map_some]
  cases r a b <;> rfl
theorem zhh {h : H} {m : Nat} {r : Int → Int → Option Value} (hm : MapM h m r) (z : Value) (a b : Int) : zbo kk2 z false (.map (some m)) (key2 a b) h = some ((r a b).getD z, h) := by
  obtain ⟨es, c, h1, h2⟩ := hm
  show ((zbc kk2 (key2 a b) (key2 a b)).bind fun _ => (zbK h (.map (some m))).bind fun es => (zdW kk2 (key2 a b) es).map fun r => (zec z false r, h)) = _
  rw [zbI, Option.bind_some]
  have : zbK h (.map (some m)) = some es := by unfold zbK; simp [h1]
  rw [this, Option.bind_some, h2.look, Option.map_some]
  cases r a b <;> rfl
theorem upd_ok {h : H} {m : Nat} {r : Int → Int → Option Value} (hm : MapM h m r) (a b : Int) (v : Value) : ∃ o, zdh kk2 h (key2 a b) v (.map (some m)) = some (zL, h.put m o) ∧ MapM (h.put m o) m (upd2 r a b v) := by
  obtain ⟨es, c, h1, h2⟩ := hm
  obtain ⟨es', c', h3, h4⟩ := h2.set a b v c
  refine ⟨.map es' c', ?_, ⟨es', c', zx rfl, h4⟩⟩
  show (h.get m).bind (mapSet kk2 h (key2 a b) v m) = _
  rw [h1, Option.bind_some]
  show ((zbc kk2 (key2 a b) (key2 a b)).bind fun _ => (setE kk2 (key2 a b) v c es).map fun y => (zL, h.put m (.map y.1 y.2))) = _
  rw [zbI, Option.bind_some, h3]; rfl
theorem zft (a b c d : Int) (h : H) : vBin .eql (.leaves [0, 1]) (key2 a b) (key2 c d) h = some (.bool (decide (a = c ∧ b = d)), h) := by
  have e : eqV (.leaves [0, 1]) (key2 a b) (key2 c d) = some (eqI a c && (eqI b d && true)) := rfl
  show ((eqV (.leaves [0, 1]) (key2 a b) (key2 c d)).map Value.bool).map _ = _
  rw [e, zcN, zcN, Bool.and_true]
  show some (Value.bool _, h) = some (Value.bool _, h)
  congr 3
  rw [Bool.eq_iff_iff]; simp
end Go.Ideal
namespace Go.Ideal
open Go.ChangeShapes Go.WideShapes Go.RowKit
variable {P : Program} {W : World}
theorem zic {b o : Nat} {v : Value} (h : W.cell? ⟨b, o, none⟩ = some v) : ∃ c t fr, W.heap[b]? = some (.cells c t fr) ∧ c[o]? = some v := by
  unfold World.cell? at h
  dsimp only at h
  split at h
  · rename_i c t fr hb
    exact ⟨c, t, fr, hb, by simpa using h⟩
  · cases h
theorem spot_of_cell {a : Addr} {v : Value} (h : W.cell? a = some v) : a.spot = none := by
  unfold World.cell? at h
  split at h
  · split at h
    · cases h
    · rename_i hs; simpa using hs
  · cases h
theorem zeR {b o n : Nat} : (⟨b, o, none⟩ : Addr).add n = ⟨b, o + n, none⟩ := by
  unfold Addr.add
  split
  · rename_i e; subst e; rfl
  · rfl
theorem takeC_get {cs r : List Value} {n o : Nat} (hr : r.length = n) (hc : r.all zX = true) (h : ∀ k, k < n → cs[o + k]? = r[k]?) : zbb n (zbY o cs) = some r := by
  refine takeC_of ?_ hc
  rw [dropN_eq, takeN_eq]
  have hl : n ≤ (cs.drop o).length := by
    rcases Nat.lt_or_ge (cs.drop o).length n with h' | h'
    · exfalso
      have h0 : (cs.drop o).length < r.length := by omega
      have := h (cs.drop o).length h'
      rw [List.getElem?_eq_none (by rw [List.length_drop]; omega), List.getElem?_eq_getElem h0] at this
      cases this
    · exact h'
  rw [if_pos hl]
  congr 1
  apply List.ext_getElem?
  intro k
  by_cases hk : k < n
  · rw [List.getElem?_take, if_pos hk, List.getElem?_drop]; exact h k hk
  · rw [List.getElem?_take, if_neg hk, List.getElem?_eq_none (by omega)]
theorem list_of {α : Type} {Q : Nat → α → Prop} : ∀ n, (∀ i, i < n → ∃ x, Q i x) → ∃ l : List α, l.length = n ∧ ∀ i x, l[i]? = some x → Q i x
  | 0, _ => ⟨[], rfl, fun i x h => by simp at h⟩
  | n + 1, h => by
    obtain ⟨l, hl, hq⟩ := list_of n fun i hi => h i (by omega)
    obtain ⟨x, hx⟩ := h n (by omega)
    refine ⟨l ++ [x], by simp [hl], fun i y hy => ?_⟩
    by_cases e : i < n
    · rw [List.getElem?_append_left (by omega)] at hy; exact hq i y hy
    · rw [List.getElem?_append_right (by omega)] at hy
      have : i = n := by
        rcases Nat.lt_or_ge (i - l.length) 1 with h' | h'
        · omega
        · rw [List.getElem?_eq_none (by simpa using h')] at hy; cases hy
      subst this
      rw [hl, Nat.sub_self] at hy; simp at hy; subst hy; exact hx
section
variable {H : Type} {enc : TypeId × Value → H} {base : Nat} {spare : Nat → Bool} {held : Bool}
theorem zcM {t : TypeId} {k : IntKind} {fuel : Nat} {c : Value} {x : DataW H × List MemPlace} (ht : P.underlying t = some (.int k)) (h : DataW.trod enc P W base spare held fuel t [c] = some x) : ∃ n, c = .int k n ∧ (Lit.int k n).wf = true := by
  obtain ⟨n, e, _, hw⟩ := DataW.trod_int ht h
  cases e; exact ⟨n, rfl, hw⟩
theorem ints3_of_trod {t i0 i1 i2 : TypeId} {f0 f1 f2 : Field} {fuel : Nat} {cs : List Value} {x : DataW H × List MemPlace} (ht : P.underlying t = some (.struct #[f0, f1, f2])) (h0 : f0.type = i0 ∧ f0.offset = 0) (h1 : f1.type = i1 ∧ f1.offset = 1) (h2 : f2.type = i2 ∧ f2.offset = 2)
    (u0 : P.underlying i0 = some (.int .i64)) (u1 : P.underlying i1 = some (.int .i64)) (u2 : P.underlying i2 = some (.int .i64)) (c0 : P.cellsOf i0 = 1) (c1 : P.cellsOf i1 = 1) (c2 : P.cellsOf i2 = 1) (hc : P.cellsOf t = 3) (h : DataW.trod enc P W base spare held fuel t cs = some x) :
    ∃ a b c : Int, cs = [.int .i64 a, .int .i64 b, .int .i64 c] := by
  obtain ⟨xs, n, _, _, hl, hlen, hf⟩ := DataW.trod_struct ht h
  rw [hc] at hl
  match cs, hl with
  | [d0, d1, d2], _ =>
    have e0 := hf 0 f0 rfl
    have e1 := hf 1 f1 rfl
    have e2 := hf 2 f2 rfl
    rw [h0.1, h0.2, c0] at e0
    rw [h1.1, h1.2, c1] at e1
    rw [h2.1, h2.2, c2] at e2
    match xs, hlen with
    | [y0, y1, y2], _ =>
      obtain ⟨a, rfl, _⟩ := zcM u0 (show DataW.trod enc P W base spare held n i0 [d0] = some y0 from e0)
      obtain ⟨b, rfl, _⟩ := zcM u1 (show DataW.trod enc P W base spare held n i1 [d1] = some y1 from e1)
      obtain ⟨c, rfl, _⟩ := zcM u2 (show DataW.trod enc P W base spare held n i2 [d2] = some y2 from e2)
      exact ⟨a, b, c, rfl⟩
theorem row_of_trod {α : Type} {f : α → List Value} {sz : Nat} {t e : TypeId} {fuel : Nat} {v : Value} {x : DataW H × List MemPlace} (ht : P.underlying t = some (.slice e)) (hc : P.cellsOf e = sz) (hs : 0 < sz) (hlen : ∀ a, (f a).length = sz) (hclean : ∀ a, (f a).all zX = true) (hok : ∀ a, ∀ v ∈ f a, okV W v = true)
    (hel : ∀ fuel cs y, DataW.trod enc P W base spare held fuel e cs = some y → ∃ a, cs = f a)
    (hv : ∀ a len cap, v = .slice (some a) len cap → a.spot = none ∧ zbq W a.block = true)
    (h : DataW.trod enc P W base spare held fuel t [v] = some x) : okV W v = true ∧ ∃ es : List α, Row (impH W) sz v (es.map f) := by
  rcases DataW.trod_slice ht h with ⟨e0, _⟩ | ⟨a, len, cap, elems, rest, n, _, e0, _, hb, hl, hm, hlen', hel', hsp, hns⟩
  · cases e0
    exact ⟨rfl, [], .nil⟩
  · cases e0
    obtain ⟨hsp0, hic⟩ := hv a len cap rfl
    obtain ⟨b, o, s⟩ := a
    simp only at hsp0; subst hsp0
    have hic' := hic
    unfold zbq at hic
    dsimp only at hic hic'
    split at hic
    · rename_i c t' fr hbk
      have hcap : cap < zH := by unfold zH; unfold maxLen at hm; omega
      refine ⟨by simp [okV, hl, hcap, hic'], ?_⟩
      have hel2 : ∀ i, i < len → ∃ a : α, ∀ k, k < sz → W.cell? ⟨b, o + (i * sz + k), none⟩ = (f a)[k]? := by
        intro i hi
        have h1 := hel' i hi
        rw [List.getElem?_eq_getElem (by omega), hc] at h1
        obtain ⟨cs, hcs, hy⟩ := Option.bind_eq_some_iff.1 h1
        obtain ⟨a, rfl⟩ := hel _ _ _ hy
        obtain ⟨_, _, h3⟩ := World.cells?_some hcs
        refine ⟨a, fun k hk => ?_⟩
        have := h3 k hk
        rw [zeR, zeR] at this
        rw [← this, Nat.add_assoc]
      obtain ⟨es, hes, hq⟩ := list_of len hel2
      subst hes
      refine ⟨es, ?_⟩
      have hlm : es.length = (es.map f).length := (List.length_map _).symm
      rw [hlm]
      refine .cells ?_ (zeO hbk) (fun i r hi => ?_) (.inr ⟨hcap, by rw [List.length_map]; exact hl⟩)
      · rw [zfP]; exact Nat.lt_succ_of_lt (Array.getElem?_eq_some_iff.1 hbk).1
      · rw [List.getElem?_map] at hi
        obtain ⟨a, ha, rfl⟩ := Option.map_eq_some_iff.1 hi
        refine takeC_get (hlen a) (hclean a) fun k hk => ?_
        have hck := hq i a ha k hk
        have hkl : k < (f a).length := by rw [hlen]; exact hk
        have hka : (f a)[k]? = some (f a)[k] := List.getElem?_eq_getElem hkl
        rw [hka] at hck ⊢
        obtain ⟨c', t'', fr', hb', hco⟩ := zic hck
        rw [hbk] at hb'; cases hb'
        rw [List.getElem?_map, Nat.add_assoc, Array.getElem?_toList, hco]
        show some (impV W _) = _
        unfold impV
        rw [if_pos (hok a _ (List.getElem_mem _))]
    · cases hic
end
section
variable {H : Type} {enc : TypeId × Value → H} {base : Nat} {held : Bool}
theorem impV_int {k : IntKind} {n : Int} : impV W (.int k n) = .int k n := rfl
theorem impV_bool {b : Bool} : impV W (.bool b) = .bool b := rfl
theorem impV_str {s : ByteArray} : impV W (.string s) = .string s := rfl
theorem impV_ok {v : Value} (h : okV W v = true) : impV W v = v := by unfold impV; rw [if_pos h]
theorem nested_row {Q : List Value → Prop} {sz : Nat} {t e : TypeId} {fuel : Nat} {v : Value} {x : DataW H × List MemPlace} (ht : P.underlying t = some (.slice e)) (hc : P.cellsOf e = sz) (hs : 0 < sz) (hQ : ∀ r, Q r → r.length = sz ∧ r.all zX = true)
    (hel : ∀ n cs y, fuel = n + 1 → DataW.trod enc P W base (fun _ => true) held n e cs = some y → Q (cs.map (impV W)))
    (h : DataW.trod enc P W base (fun _ => true) held fuel t [v] = some x) : ∃ rows, Row (impH W) sz (impV W v) rows ∧ (∀ r ∈ rows, Q r) ∧ (∃ b n c, impV W v = .slice b n c ∧ zX (impV W v) = true) := by
  rcases DataW.trod_slice ht h with ⟨e0, _⟩ | ⟨a, len, cap, elems, rest, n, hfu, e0, _, hb, hl, hm, hlen', hel', hsp, hns⟩
  · cases e0
    exact ⟨[], .nil, by simp, _, _, _, rfl, rfl⟩
  · cases e0
    have hcap : cap < zH := by unfold zH; unfold maxLen at hm; omega
    by_cases hz : cap = 0
    · subst hz
      obtain rfl : len = 0 := by omega
      by_cases hok : okV W (.slice (some a) 0 0) = true
      · rw [impV_ok hok]
        unfold okV at hok
        simp only [Bool.and_eq_true, Option.isNone_iff_eq_none, decide_eq_true_eq] at hok
        obtain ⟨h1, h2, h3, h4⟩ := hok
        have hlt := zgj h4
        obtain ⟨b, o, s⟩ := a
        simp only at h1; subst h1
        exact ⟨[], .hole (by rw [zfP]; exact Nat.lt_succ_of_lt hlt), by simp, _, _, _, rfl, rfl⟩
      · have : impV W (.slice (some a) 0 0) = dang W := by unfold impV; rw [if_neg hok]; rfl
        rw [this]
        exact ⟨[], .hole (by rw [zfP]; exact Nat.lt_succ_self _), by simp, _, _, _, rfl, rfl⟩
    · have hcell : ∀ i, i < cap → ∃ cs y, W.cells? base (a.add (i * P.cellsOf e)) (P.cellsOf e) = some cs ∧ DataW.trod enc P W base (fun _ => true) held n e cs = some y := by
        intro i hi
        by_cases hil : i < len
        · have h1 := hel' i hil
          rw [List.getElem?_eq_getElem (by omega)] at h1
          obtain ⟨cs, hcs, hy⟩ := Option.bind_eq_some_iff.1 h1
          exact ⟨cs, _, hcs, hy⟩
        · obtain ⟨hrl, hr⟩ := hsp rfl
          have h1 := hr (i - len) (by omega)
          rw [List.getElem?_eq_getElem (by omega)] at h1
          obtain ⟨cs, hcs, hy⟩ := Option.bind_eq_some_iff.1 h1
          rw [show len + (i - len) = i by omega] at hcs
          exact ⟨cs, _, hcs, hy⟩
      have hspot : ∃ b o c t fr, a = ⟨b, o, none⟩ ∧ W.heap[b]? = some (.cells c t fr) := by
        obtain ⟨cs, y, hcs, hy⟩ := hcell 0 (by omega)
        obtain ⟨_, q2, q3⟩ := World.cells?_some hcs
        have hlc : 0 < cs.length := by
          have := (hQ _ (hel n cs y hfu hy)).1
          rw [List.length_map] at this; omega
        have hg : cs[0]? = some cs[0] := List.getElem?_eq_getElem hlc
        have h3 := q3 0 (by rw [hc]; exact hs)
        rw [hg] at h3
        have hsp0 := spot_of_cell h3
        obtain ⟨b, o, s⟩ := a
        have : s = none := by
          unfold Addr.add at hsp0
          cases s with
          | none => rfl
          | some _ => split at hsp0 <;> (try split at hsp0) <;> simp_all
        subst this
        rw [zeR, zeR] at h3
        obtain ⟨c, t', fr, hbk, _⟩ := zic h3
        exact ⟨b, o, c, t', fr, rfl, hbk⟩
      obtain ⟨b, o, c, t', fr, rfl, hbk⟩ := hspot
      have hic : zbq W b = true := by unfold zbq; rw [hbk]
      have hok : okV W (.slice (some ⟨b, o, none⟩) len cap) = true := by simp [okV, hl, hcap, hic]
      rw [impV_ok hok]
      have hel2 : ∀ i, i < len → ∃ r : List Value, zbb sz (zbY (o + i * sz) (c.toList.map (impV W))) = some r ∧ Q r := by
        intro i hi
        obtain ⟨cs, y, hcs, hy⟩ := hcell i (by omega)
        have hq := hel n cs y hfu hy
        obtain ⟨h1, h2⟩ := hQ _ hq
        refine ⟨_, takeC_get h1 h2 fun k hk => ?_, hq⟩
        obtain ⟨_, _, h3⟩ := World.cells?_some hcs
        have h3 := h3 k (by rw [hc]; exact hk)
        rw [List.length_map] at h1
        have hck : cs[k]? = some cs[k] := List.getElem?_eq_getElem (by omega)
        rw [zeR, zeR, hc, hck] at h3
        obtain ⟨c', t'', fr', hb', hco⟩ := zic h3
        rw [hbk] at hb'; cases hb'
        rw [List.getElem?_map, List.getElem?_map, Array.getElem?_toList, hco, hck]
      obtain ⟨rows, hrl, hrq⟩ := list_of len hel2
      subst hrl
      refine ⟨rows, .cells ?_ (zeO hbk) (fun i r hi => (hrq i r hi).1) (.inr ⟨hcap, hl⟩), fun r hr => ?_, _, _, _, rfl, rfl⟩
      · rw [zfP]; exact Nat.lt_succ_of_lt (Array.getElem?_eq_some_iff.1 hbk).1
      · obtain ⟨i, hi⟩ := List.mem_iff_getElem?.1 hr
        exact (hrq i r hi).2
end
theorem slice_ok {r : Reach} {base : Nat} {t e : TypeId} {v : Value} (ht : P.underlying t = some (.slice e)) (h : Cell.okWide P W r base t v) : ∀ a len cap, v = .slice (some a) len cap → a.spot = none ∧ zbq W a.block = true := by
  rintro a len cap rfl
  unfold Cell.okWide at h
  rw [ht] at h
  dsimp only at h
  unfold Cell.ok at h
  rw [ht] at h
  obtain ⟨_, _, _, hs, row, cells, hsh, _⟩ := h
  refine ⟨hs, ?_⟩
  unfold World.shape? at hsh
  unfold zbq
  split at hsh
  · rename_i hb; rw [hb]
  · cases hsh
end Go.Ideal
namespace Go.Ideal
variable {P : Program}
theorem VR.restrict {ρ σ : Rho} (hl : zf6 ρ σ) {v v' : Value} (h : VR σ v v') : ∀ {v0 : Value}, VR ρ v v0 → VR ρ v v' := by
  induction h with
  | bool b => intro v0 _; exact .bool b
  | int k n => intro v0 _; exact .int k n
  | str s => intro v0 _; exact .str s
  | ptrNil => intro v0 _; exact .ptrNil
  | ptr h => intro v0 h0; cases h0 with | ptr h' => have := hl _ _ h'; rw [h] at this; cases this; exact .ptr h'
  | sliceNil => intro v0 _; exact .sliceNil
  | slice h hc hl' => intro v0 h0; cases h0 with
    | slice h' _ _ => have := hl _ _ h'; rw [h] at this; cases this; exact .slice h' hc hl'
    | sliceO h' _ _ _ _ => exact (Nat.lt_irrefl _ hc).elim
    | sliceE h' _ _ => exact (Nat.lt_irrefl _ hc).elim
    | sliceD h' _ => have := hl _ _ h'; rw [h] at this; cases this; exact .slice h' hc hl'
  | sliceO h he hl' hs hb => intro v0 h0; cases h0 with
    | slice h' hc _ => exact (Nat.lt_irrefl _ hc).elim
    | sliceO h' _ _ _ _ => have := hl _ _ h'; rw [h] at this; cases this; exact .sliceO h' he hl' hs hb
    | sliceE h' _ _ => have := hl _ _ h'; rw [h] at this; cases this; exact .sliceO h' he hl' hs hb
  | sliceE h he hb => intro v0 h0; cases h0 with
    | slice h' hc _ => exact (Nat.lt_irrefl _ hc).elim
    | sliceO h' _ _ _ _ => have := hl _ _ h'; rw [h] at this; cases this; exact .sliceE h' he hb
    | sliceE h' _ _ => have := hl _ _ h'; rw [h] at this; cases this; exact .sliceE h' he hb
  | sliceD h hm => intro v0 h0; cases h0 with
    | slice h' _ _ => have := hl _ _ h'; rw [h] at this; cases this; exact .sliceD h' hm
    | sliceD h' _ => have := hl _ _ h'; rw [h] at this; cases this; exact .sliceD h' hm
  | mapNil => intro v0 _; exact .mapNil
  | map h => intro v0 h0; cases h0 with | map h' => have := hl _ _ h'; rw [h] at this; cases this; exact .map h'
  | func f ha hb ra rb ih1 ih2 =>
    intro v0 h0
    cases h0 with
    | func _ ha' hb' ra' rb' =>
      refine .func f ha hb (fun j x y hx hy => ?_) (fun j x y hx hy => ?_)
      · have hj : j < _ := (Array.getElem?_eq_some_iff.1 hx).1
        exact ih1 j x y hx hy (ra' j x _ hx (Array.getElem?_eq_getElem (by rw [← ha']; exact hj)))
      · have hj : j < _ := (Array.getElem?_eq_some_iff.1 hx).1
        exact ih2 j x y hx hy (rb' j x _ hx (Array.getElem?_eq_getElem (by rw [← hb']; exact hj)))
  | yield h => intro v0 h0; cases h0 with | yield h' => have := hl _ _ h'; rw [h] at this; cases this; exact .yield h'
  | nilFunc => intro v0 _; exact .nilFunc
  | agg ha ra ih =>
    intro v0 h0
    cases h0 with
    | agg ha' ra' =>
      refine .agg ha (fun j x y hx hy => ?_)
      have hj : j < _ := (Array.getElem?_eq_some_iff.1 hx).1
      exact ih j x y hx hy (ra' j x _ hx (Array.getElem?_eq_getElem (by rw [← ha']; exact hj)))
  | tuple ha ra ih =>
    intro v0 h0
    cases h0 with
    | tuple ha' ra' =>
      refine .tuple ha (fun j x y hx hy => ?_)
      have hj : j < _ := (Array.getElem?_eq_some_iff.1 hx).1
      exact ih j x y hx hy (ra' j x _ hx (Array.getElem?_eq_getElem (by rw [← ha']; exact hj)))
theorem OR.restrict {ρ σ : Rho} (hl : zf6 ρ σ) {w w' : World} {R : RB} {o : IObj} (h0 : OR P ρ w R o) (h : OR P σ w' R o) : OR P ρ w' R o := by
  cases o with
  | cells cs esz =>
    obtain ⟨h1, h2, c, t, fr, h3, h7, h4, h5, h6⟩ := h
    obtain ⟨-, -, c0, t0, fr0, -, -, -, -, k6⟩ := h0
    refine ⟨h1, h2, c, t, fr, h3, h7, h4, h5, fun j v hj => ?_⟩
    obtain ⟨v', a, b⟩ := h6 j v hj
    obtain ⟨v0, a0, b0⟩ := k6 j v hj
    refine ⟨v', a, ?_⟩
    rcases b0 with b0 | b0
    · exact .inl b0
    · rcases b with b | b
      · exact .inl b
      · exact .inr (b.restrict hl b0)
  | map es c =>
    obtain ⟨es', h1, h2, h3⟩ := h
    obtain ⟨es0, k1, k2, k3⟩ := h0
    refine ⟨es', h1, h2, fun j e hj => ?_⟩
    obtain ⟨e', a, b1, b2, b3⟩ := h3 j e hj
    obtain ⟨e0, -, d1, d2, -⟩ := k3 j e hj
    exact ⟨e', a, b1.restrict hl d1, b2.restrict hl d2, b3⟩
  | loop st pend sl rc =>
    obtain ⟨r, h1, h2, h3, h4, h5⟩ := h
    obtain ⟨r0, -, -, -, k4, -⟩ := h0
    refine ⟨r, h1, h2, h3, fun t v hv => ?_, h5⟩
    obtain ⟨v', a, b⟩ := h4 t v hv
    obtain ⟨v0, -, d⟩ := k4 t v hv
    exact ⟨v', a, b.restrict hl d⟩
  | dead => trivial
theorem HR.restrict {ρ σ : Rho} {h h2 : H} {w w2 : World} (hr : HR P ρ h w) (hr2 : HR P σ h2 w2) (he : Ext ρ w σ w2) (hf : ∀ i, i < h.next → h2.get i = h.get i) : HR P ρ h w2 ∧ Ext ρ w ρ w2 :=
  ⟨⟨fun i R o hi ho => (hr.obj i R o hi ho).restrict he.le (hr2.obj i R o (he.le i R hi) ((hf i (hr.lt ho)).trans ho)), hr.nxt, hr.sep, fun i R hi => Nat.lt_of_lt_of_le (hr.blk i R hi) he.size⟩,
   ⟨fun _ _ h => h, he.size, fun i R h => .inl ⟨i, R, h, rfl⟩, he.frame, he.loops, he.os, he.out, he.froz⟩⟩
def LeF (F G : FuncId → Option zw) : Prop := ∀ g cf, F g = some cf → G g = some cf
theorem E_leF {F G : FuncId → Option zw} (hFG : LeF F G) : ∀ (n : Nat), Le (E F n) (E G n)
  | 0 => fun t o h => by cases h
  | n + 1 => by
    have ih := E_leF hFG n
    intro t o h
    cases t with
    | code c s g => exact zib ih (show zb3 c (E F n) s g = some o from h)
    | call f a g =>
      have h1 : zbd F (E G n) a g f = some o := zie ih (show zbd F (E F n) a g f = some o from h)
      show zbd G (E G n) a g f = some o
      unfold zbd at h1 ⊢
      split at h1
      · obtain ⟨cf, hcf, h1⟩ := aof h1
        rw [hFG _ _ hcf, Option.bind_some]; exact h1
      · exact h1
      · exact h1
theorem zel {F G : FuncId → Option zw} (hFG : LeF F G) {f : Value} {args : List Value} {h : H} {v : Value} {h' : H} (hv : zbv F f args h = some (v, h')) : zbv G f args h = some (v, h') := by
  obtain ⟨n, hn⟩ := zcO.1 hv
  exact zcO.2 ⟨n, E_leF hFG n _ _ hn⟩
def appC : Nat → Code → Code → Code
  | k + 1, .seq a b, z => .seq a (appC k b z)
  | _, c, z => .seq c z
theorem piece_run {F : FuncId → Option zw} {c : CC} {k : K} {s : ze} {h : H} {r : Out} (hv : sh (rI F) c k s h = some r) : ∃ n o, E F n (.code c s h) = some o ∧ apK k o = some r := by
  obtain ⟨n, o, h1, -, h3⟩ := zcF soundI keepsI c hv (zb2 c) trivial
  exact ⟨n, o, h1, h3⟩
section
variable {F : FuncId → Option zw} (hmix : P.follows .mixedOrders = true) (hF : ∀ g cf, F g = some cf → FnOk P g cf)
include hmix hF
theorem zia {n : Nat} {c : CC} {s : ze} {h : H} {o : Out} (he : E F n (.code c s h) = some o) {code : Code} {N : Nat} (hc : zA P N code = some (zR c)) {ρ : Rho} {a : Act} {w : World} {Ds : List Nat} (hN : a.tmps.size = N) (hs : SR ρ s a.tmps) (hr : HR P ρ h w) (hd : a.defers = Ds.map zbi) (hD : zb8 ρ w Ds) :
    code.wpIn Fence.wide 0 P (zdP P ρ w N Ds o) a w :=
  (E_sound hmix hF n _ _ he code N hc none ρ a w Ds (by intro l hl; cases hl) hN hs hr hd hD).wpIn
theorem wp_app {Q : Exit → Act → World → Prop} {z : Code} : ∀ (k n : Nat) (c : CC) (code : Code) (N : Nat), zA P N code = some (zR c) → ∀ (s : ze) (h : H) (o : Out), E F n (.code c s h) = some o → ∀ (ρ : Rho) (a : Act) (w : World) (Ds : List Nat), a.tmps.size = N → SR ρ s a.tmps → HR P ρ h w → a.defers = Ds.map zbi → zb8 ρ w Ds →
    (∀ e a1 w1, zdP P ρ w N Ds o e a1 w1 → (Exit.then (z.wpIn Fence.wide 0 P Q) Q) e a1 w1) → (appC k code z).wpIn Fence.wide 0 P Q a w := by
  intro k
  induction k with
  | zero =>
    intro n c code N hc s h o he ρ a w Ds hN hs hr hd hD hz
    have hb : appC 0 code z = .seq code z := by cases code <;> rfl
    rw [hb]
    exact wpIn_seq (wpIn_mono (zia hmix hF he hc hN hs hr hd hD) hz)
  | succ k ih =>
    intro n c code N hc s h o he ρ a w Ds hN hs hr hd hD hz
    by_cases hseq : ∃ x y, code = .seq x y
    · obtain ⟨x, y, rfl⟩ := hseq
      obtain ⟨cx, hx, hc⟩ := aof hc
      obtain ⟨cy, hy, hc⟩ := amf hc
      obtain ⟨ca, L, cb, rfl, rfl, rfl⟩ := strip_seq hc
      cases n with
      | zero => cases he
      | succ n =>
        rw [zf9] at he
        obtain ⟨o1, h1, h2⟩ := aof (show (E F n (.code ca s h)).bind (thenK (E F n) L cb) = some o from he)
        show (Code.seq x (appC k y z)).wpIn Fence.wide 0 P Q a w
        refine wpIn_seq (wpIn_mono (zia hmix hF h1 hx hN hs hr hd hD) ?_)
        rintro e a1 w1 ⟨σ, Ds1, s1, hh1, hee, hN1, hd1, ⟨hD1, hds1⟩, hs1, hr1, hcase⟩
        rcases hcase with ⟨rfl, rfl⟩ | ⟨i, rfl, rfl⟩ | ⟨rfl, rfl⟩
        · exact ih n cb y N hy _ _ _ h2 σ a1 w1 Ds1 hN1 (hs1.keep L) hr1 hd1 hD1 (fun e a2 w2 hp => hz e a2 w2 (hp.ext hee hds1))
        · cases h2
          exact hz (.exit i) a1 w1 ⟨σ, Ds1, s1, hh1, hee, hN1, hd1, ⟨hD1, hds1⟩, hs1, hr1, .inr (.inl ⟨i, rfl, rfl⟩)⟩
        · cases h2
          exact hz .ret a1 w1 ⟨σ, Ds1, s1, hh1, hee, hN1, hd1, ⟨hD1, hds1⟩, hs1, hr1, .inr (.inr ⟨rfl, rfl⟩)⟩
    · have hb : appC (k + 1) code z = .seq code z := by cases code <;> first | rfl | exact absurd ⟨_, _, rfl⟩ hseq
      rw [hb]
      exact wpIn_seq (wpIn_mono (zia hmix hF he hc hN hs hr hd hD) hz)
end
theorem SR.skip {ρ : Rho} {s : ze} {tmps : Array Value} (h : SR ρ s tmps) {t : Nat} (hn : s.get (bits t) = none) (v : Value) : SR ρ s (tmps.setIfInBounds t v) := by
  intro u x hx
  obtain ⟨x', h1, h2⟩ := h u x hx
  have hne : t ≠ u := by rintro rfl; rw [hn] at hx; cases hx
  exact ⟨x', by rw [Array.getElem?_setIfInBounds, if_neg hne]; exact h1, h2⟩
theorem zhL {ih : IH} {M : Nat} (hih : ∀ t o, ih t = some o → zgB P M t o) {N : Nat} {ops : Array Oper} (r : Option Nat) {w0 : World} {ρ0 : Rho} {Ds : List Nat} {sF : ze} {hF : H} {aI : Act} {Q : Exit → Act → World → Prop}
    (hQ : ∀ a' w', zdP P ρ0 w0 N Ds (.nrm sF hF) .normal a' w' → (∀ t, (∀ o ∈ ops.toList, o.dst ≠ some t) → a'.tmps[t]? = aI.tmps[t]?) → Q .normal a' w') :
    ∀ (m k : Nat) (l : List CI) (ρ : Rho) (s : ze) (h : H) (a : Act) (w : World), k + m = ops.size → allO (zK P N ops) (ops.toList.drop k) = some l → zdd ih l s h = some (sF, hF) →
      HR P ρ h w → SR ρ s a.tmps → a.tmps.size = N → a.defers = Ds.map zbi → zb8 ρ w Ds → Ext ρ0 w0 ρ w → (∀ t, (∀ o ∈ ops.toList, o.dst ≠ some t) → a.tmps[t]? = aI.tmps[t]?) → wpOpsIn (Wf r) 0 P ops Q (List.range' k m) a w
  | 0, k, l, ρ, s, h, a, w, hk, hl, hrun, hr, hs, hN, hd, hD, hE, hkeep => by
    have : ops.toList.drop k = [] := by apply List.drop_eq_nil_of_le; simp; omega
    rw [this] at hl; cases hl
    rw [zgb] at hrun; cases hrun
    exact hQ a w ⟨ρ, Ds, _, _, hE, hN, hd, ⟨hD, fun D h => .inl h⟩, hs, hr, .inl ⟨rfl, rfl⟩⟩ hkeep
  | m + 1, k, l, ρ, s, h, a, w, hk, hl, hrun, hr, hs, hN, hd, hD, hE, hkeep => by
    have hlt : k < ops.size := by omega
    have hdr : ops.toList.drop k = ops[k] :: ops.toList.drop (k + 1) := by
      rw [← List.getElem_cons_drop (by simpa using hlt)]; simp
    rw [hdr] at hl
    obtain ⟨c, hc, hl⟩ := aof hl
    obtain ⟨l', hl', e⟩ := amf hl
    subst e
    rw [zcG] at hrun
    obtain ⟨⟨v, h1⟩, hstep, hrest⟩ := aof hrun
    obtain ⟨b, hb, hstep⟩ := aof hstep
    obtain ⟨hop, hdst, hdlt⟩ := zba hc
    have hwant := zcn hc hs hb
    have hmem : ops[k] ∈ ops.toList := by simp
    have hput : ∀ v', ∀ t, (∀ o ∈ ops.toList, o.dst ≠ some t) → (a.put ops[k].dst v').tmps[t]? = aI.tmps[t]? := by
      intro v' t ht
      rw [← hkeep t ht]
      have hne := ht _ hmem
      cases hd : ops[k].dst with
      | none => rfl
      | some d =>
        show (a.tmps.setIfInBounds d v')[t]? = _
        rw [Array.getElem?_setIfInBounds, if_neg (by rintro rfl; exact hne hd)]
    rw [List.range'_succ]
    simp only [wpOpsIn, Array.getElem?_eq_getElem hlt, hwant]
    cases b with
    | true =>
      simp only [if_true]
      refine zgf hih hc r hr hs hstep (fun v' w' σ q1 q2 q3 => ?_)
      obtain ⟨p1, p2, p3⟩ := put_rel hdst hdlt (hs.mono q3.le) hN q1
      exact zhL hih r hQ m (k + 1) l' σ _ _ _ _ (by omega) hl' hrest q2 p1 p2 (p3.trans hd) (hD.ext q3) (hE.trans q3) (hput v')
    | false =>
      simp only [Bool.false_eq_true, if_false]
      cases hstep
      obtain ⟨p1, p2, p3⟩ := put_rel (v' := undef) hdst hdlt hs hN (VR.tuple_of (VRL.nil ρ))
      exact ⟨fun f _ => Wf_fn r f, zhL hih r hQ m (k + 1) l' ρ _ _ _ _ (by omega) hl' hrest hr p1 p2 (p3.trans hd) hD hE (hput undef)⟩
theorem Ext.keeps {ρ σ : Rho} {w w' : World} (he : Ext ρ w σ w') {it : Nat} {x : Obj} (hx : w.heap[it]? = some x) (hn : ∀ i S, ρ i = some S → S.blk ≠ it) : w'.heap[it]? = some x ∧ ∀ i S, σ i = some S → S.blk ≠ it := by
  have hlt := (Array.getElem?_eq_some_iff.1 hx).1
  refine ⟨(he.frame it hlt hn).trans hx, fun i S hi e => ?_⟩
  rcases he.fresh i S hi with ⟨j, T, hj, hs⟩ | hb
  · exact hn j T hj (hs.trans e)
  · omega
end Go.Ideal
noncomputable section
namespace Go.Ideal.J
open Go Go.Ideal
set_option maxRecDepth 100000
abbrev n_e : Nat := 8
abbrev n_m : Nat := 13
abbrev n_A : Nat := 16
abbrev n_I : Nat := 17
abbrev n_N : Nat := 22
abbrev n_K : Nat := 24
abbrev n_G : Nat := 26
abbrev n_H : Nat := 33
abbrev n_E : Nat := 37
abbrev n_b : Nat := 38
abbrev n_i : Nat := 39
abbrev n_f : Nat := 40
abbrev n_J : Nat := 44
abbrev n_k : Nat := 46
abbrev n_o : Nat := 48
abbrev n_h : Nat := 49
abbrev n_d : Nat := 52
abbrev n_y : Nat := 54
abbrev n_z : Nat := 57
abbrev n_t : Nat := 63
abbrev n_g : Nat := 64
abbrev n_v : Nat := 65
abbrev n_x : Nat := 69
abbrev n_a : Nat := 70
abbrev n_O : Nat := 71
abbrev n_D : Nat := 75
abbrev n_j : Nat := 80
abbrev n_B : Nat := 81
abbrev p0 : List Bool := []
abbrev p1 : List Bool := [true]
abbrev p2 : List Bool := [false, true]
abbrev p3 : List Bool := [true, true]
abbrev p4 : List Bool := [false, false, true]
abbrev p5 : List Bool := [true, false, true]
abbrev p6 : List Bool := [false, true, true]
abbrev p7 : List Bool := [true, true, true]
abbrev p8 : List Bool := [false, false, false, true]
abbrev p9 : List Bool := [true, false, false, true]
abbrev p10 : List Bool := [false, true, false, true]
abbrev p11 : List Bool := [true, true, false, true]
abbrev p12 : List Bool := [false, false, true, true]
abbrev p13 : List Bool := [true, false, true, true]
abbrev p14 : List Bool := [false, true, true, true]
abbrev p15 : List Bool := [true, true, true, true]
abbrev p16 : List Bool := [false, false, false, false, true]
abbrev p17 : List Bool := [true, false, false, false, true]
abbrev p18 : List Bool := [false, true, false, false, true]
abbrev p19 : List Bool := [true, true, false, false, true]
abbrev p20 : List Bool := [false, false, true, false, true]
abbrev p21 : List Bool := [true, false, true, false, true]
abbrev p22 : List Bool := [false, true, true, false, true]
abbrev p23 : List Bool := [true, true, true, false, true]
abbrev p24 : List Bool := [false, false, false, true, true]
abbrev p25 : List Bool := [true, false, false, true, true]
abbrev p26 : List Bool := [false, true, false, true, true]
abbrev p27 : List Bool := [true, true, false, true, true]
abbrev p28 : List Bool := [false, false, true, true, true]
abbrev p29 : List Bool := [true, false, true, true, true]
abbrev p30 : List Bool := [false, true, true, true, true]
abbrev p31 : List Bool := [true, true, true, true, true]
abbrev p32 : List Bool := [false, false, false, false, false, true]
abbrev p33 : List Bool := [true, false, false, false, false, true]
abbrev p34 : List Bool := [false, true, false, false, false, true]
abbrev p35 : List Bool := [true, true, false, false, false, true]
abbrev p36 : List Bool := [false, false, true, false, false, true]
abbrev p37 : List Bool := [true, false, true, false, false, true]
abbrev p38 : List Bool := [false, true, true, false, false, true]
abbrev p39 : List Bool := [true, true, true, false, false, true]
abbrev p40 : List Bool := [false, false, false, true, false, true]
abbrev p41 : List Bool := [true, false, false, true, false, true]
abbrev p42 : List Bool := [false, true, false, true, false, true]
abbrev p43 : List Bool := [true, true, false, true, false, true]
abbrev p44 : List Bool := [false, false, true, true, false, true]
abbrev p45 : List Bool := [true, false, true, true, false, true]
abbrev p46 : List Bool := [false, true, true, true, false, true]
abbrev p47 : List Bool := [true, true, true, true, false, true]
abbrev p48 : List Bool := [false, false, false, false, true, true]
abbrev p49 : List Bool := [true, false, false, false, true, true]
abbrev p50 : List Bool := [false, true, false, false, true, true]
abbrev p51 : List Bool := [true, true, false, false, true, true]
abbrev p52 : List Bool := [false, false, true, false, true, true]
abbrev p53 : List Bool := [true, false, true, false, true, true]
abbrev p54 : List Bool := [false, true, true, false, true, true]
abbrev p55 : List Bool := [true, true, true, false, true, true]
abbrev p56 : List Bool := [false, false, false, true, true, true]
abbrev p57 : List Bool := [true, false, false, true, true, true]
abbrev p58 : List Bool := [false, true, false, true, true, true]
abbrev p59 : List Bool := [true, true, false, true, true, true]
abbrev p60 : List Bool := [false, false, true, true, true, true]
abbrev p61 : List Bool := [true, false, true, true, true, true]
abbrev p62 : List Bool := [false, true, true, true, true, true]
abbrev p63 : List Bool := [true, true, true, true, true, true]
abbrev p64 : List Bool := [false, false, false, false, false, false, true]
abbrev p65 : List Bool := [true, false, false, false, false, false, true]
abbrev p66 : List Bool := [false, true, false, false, false, false, true]
abbrev p67 : List Bool := [true, true, false, false, false, false, true]
abbrev p68 : List Bool := [false, false, true, false, false, false, true]
abbrev p69 : List Bool := [true, false, true, false, false, false, true]
abbrev p70 : List Bool := [false, true, true, false, false, false, true]
abbrev p71 : List Bool := [true, true, true, false, false, false, true]
abbrev p72 : List Bool := [false, false, false, true, false, false, true]
abbrev p73 : List Bool := [true, false, false, true, false, false, true]
abbrev p74 : List Bool := [false, true, false, true, false, false, true]
abbrev p75 : List Bool := [true, true, false, true, false, false, true]
abbrev p76 : List Bool := [false, false, true, true, false, false, true]
abbrev p77 : List Bool := [true, false, true, true, false, false, true]
abbrev p78 : List Bool := [false, true, true, true, false, false, true]
abbrev p79 : List Bool := [true, true, true, true, false, false, true]
abbrev p80 : List Bool := [false, false, false, false, true, false, true]
abbrev p81 : List Bool := [true, false, false, false, true, false, true]
abbrev p82 : List Bool := [false, true, false, false, true, false, true]
abbrev p83 : List Bool := [true, true, false, false, true, false, true]
abbrev p84 : List Bool := [false, false, true, false, true, false, true]
abbrev p85 : List Bool := [true, false, true, false, true, false, true]
abbrev p86 : List Bool := [false, true, true, false, true, false, true]
abbrev p87 : List Bool := [true, true, true, false, true, false, true]
abbrev p88 : List Bool := [false, false, false, true, true, false, true]
abbrev p89 : List Bool := [true, false, false, true, true, false, true]
abbrev p90 : List Bool := [false, true, false, true, true, false, true]
abbrev p91 : List Bool := [true, true, false, true, true, false, true]
abbrev p92 : List Bool := [false, false, true, true, true, false, true]
abbrev p93 : List Bool := [true, false, true, true, true, false, true]
abbrev p94 : List Bool := [false, true, true, true, true, false, true]
abbrev p95 : List Bool := [true, true, true, true, true, false, true]
abbrev p96 : List Bool := [false, false, false, false, false, true, true]
abbrev p97 : List Bool := [true, false, false, false, false, true, true]
abbrev p98 : List Bool := [false, true, false, false, false, true, true]
abbrev p99 : List Bool := [true, true, false, false, false, true, true]
abbrev p100 : List Bool := [false, false, true, false, false, true, true]
abbrev p101 : List Bool := [true, false, true, false, false, true, true]
abbrev p102 : List Bool := [false, true, true, false, false, true, true]
abbrev p103 : List Bool := [true, true, true, false, false, true, true]
abbrev p104 : List Bool := [false, false, false, true, false, true, true]
abbrev p105 : List Bool := [true, false, false, true, false, true, true]
abbrev p106 : List Bool := [false, true, false, true, false, true, true]
abbrev p107 : List Bool := [true, true, false, true, false, true, true]
abbrev p108 : List Bool := [false, false, true, true, false, true, true]
abbrev p109 : List Bool := [true, false, true, true, false, true, true]
abbrev p110 : List Bool := [false, true, true, true, false, true, true]
abbrev p111 : List Bool := [true, true, true, true, false, true, true]
abbrev p112 : List Bool := [false, false, false, false, true, true, true]
abbrev p113 : List Bool := [true, false, false, false, true, true, true]
abbrev p114 : List Bool := [false, true, false, false, true, true, true]
abbrev p115 : List Bool := [true, true, false, false, true, true, true]
abbrev p116 : List Bool := [false, false, true, false, true, true, true]
abbrev p117 : List Bool := [true, false, true, false, true, true, true]
abbrev p118 : List Bool := [false, true, true, false, true, true, true]
abbrev p119 : List Bool := [true, true, true, false, true, true, true]
abbrev p120 : List Bool := [false, false, false, true, true, true, true]
abbrev p121 : List Bool := [true, false, false, true, true, true, true]
abbrev p122 : List Bool := [false, true, false, true, true, true, true]
abbrev p123 : List Bool := [true, true, false, true, true, true, true]
abbrev p124 : List Bool := [false, false, true, true, true, true, true]
abbrev p125 : List Bool := [true, false, true, true, true, true, true]
abbrev p126 : List Bool := [false, true, true, true, true, true, true]
abbrev p127 : List Bool := [true, true, true, true, true, true, true]
abbrev p128 : List Bool := [false, false, false, false, false, false, false, true]
abbrev p129 : List Bool := [true, false, false, false, false, false, false, true]
abbrev p130 : List Bool := [false, true, false, false, false, false, false, true]
abbrev p131 : List Bool := [true, true, false, false, false, false, false, true]
abbrev p132 : List Bool := [false, false, true, false, false, false, false, true]
abbrev p133 : List Bool := [true, false, true, false, false, false, false, true]
abbrev p134 : List Bool := [false, true, true, false, false, false, false, true]
abbrev p135 : List Bool := [true, true, true, false, false, false, false, true]
abbrev p136 : List Bool := [false, false, false, true, false, false, false, true]
abbrev p137 : List Bool := [true, false, false, true, false, false, false, true]
abbrev p138 : List Bool := [false, true, false, true, false, false, false, true]
abbrev p139 : List Bool := [true, true, false, true, false, false, false, true]
abbrev p140 : List Bool := [false, false, true, true, false, false, false, true]
abbrev p141 : List Bool := [true, false, true, true, false, false, false, true]
abbrev p142 : List Bool := [false, true, true, true, false, false, false, true]
abbrev p143 : List Bool := [true, true, true, true, false, false, false, true]
abbrev p144 : List Bool := [false, false, false, false, true, false, false, true]
abbrev p145 : List Bool := [true, false, false, false, true, false, false, true]
abbrev p146 : List Bool := [false, true, false, false, true, false, false, true]
abbrev p147 : List Bool := [true, true, false, false, true, false, false, true]
abbrev p148 : List Bool := [false, false, true, false, true, false, false, true]
abbrev p149 : List Bool := [true, false, true, false, true, false, false, true]
abbrev p150 : List Bool := [false, true, true, false, true, false, false, true]
abbrev p151 : List Bool := [true, true, true, false, true, false, false, true]
abbrev p152 : List Bool := [false, false, false, true, true, false, false, true]
abbrev p153 : List Bool := [true, false, false, true, true, false, false, true]
abbrev p154 : List Bool := [false, true, false, true, true, false, false, true]
abbrev p155 : List Bool := [true, true, false, true, true, false, false, true]
abbrev p156 : List Bool := [false, false, true, true, true, false, false, true]
abbrev p157 : List Bool := [true, false, true, true, true, false, false, true]
abbrev p158 : List Bool := [false, true, true, true, true, false, false, true]
abbrev p159 : List Bool := [true, true, true, true, true, false, false, true]
abbrev p160 : List Bool := [false, false, false, false, false, true, false, true]
abbrev p161 : List Bool := [true, false, false, false, false, true, false, true]
abbrev p162 : List Bool := [false, true, false, false, false, true, false, true]
abbrev p163 : List Bool := [true, true, false, false, false, true, false, true]
abbrev p164 : List Bool := [false, false, true, false, false, true, false, true]
abbrev p165 : List Bool := [true, false, true, false, false, true, false, true]
abbrev p166 : List Bool := [false, true, true, false, false, true, false, true]
abbrev p167 : List Bool := [true, true, true, false, false, true, false, true]
abbrev p168 : List Bool := [false, false, false, true, false, true, false, true]
abbrev p169 : List Bool := [true, false, false, true, false, true, false, true]
abbrev p170 : List Bool := [false, true, false, true, false, true, false, true]
abbrev p171 : List Bool := [true, true, false, true, false, true, false, true]
abbrev p172 : List Bool := [false, false, true, true, false, true, false, true]
abbrev p173 : List Bool := [true, false, true, true, false, true, false, true]
abbrev p174 : List Bool := [false, true, true, true, false, true, false, true]
abbrev p175 : List Bool := [true, true, true, true, false, true, false, true]
abbrev p176 : List Bool := [false, false, false, false, true, true, false, true]
abbrev p177 : List Bool := [true, false, false, false, true, true, false, true]
abbrev p178 : List Bool := [false, true, false, false, true, true, false, true]
def c_e_4 : CC := (.ops [⟨(some p53), .mv (.t p11), none, 0⟩, ⟨(some p54), .bin .add .other (.t p53) (.c (.int .i64 1)), none, 0⟩, ⟨(some p11), .mv (.t p54), none, 0⟩])
def c_e_3 : CC := (.seq (.seq (.ops [⟨(some p49), .mv (.t p11), none, 0⟩, ⟨(some p50), .mv (.t p7), none, 0⟩, ⟨(some p51), .blt .len [(.t p50)], none, 0⟩, ⟨(some p52), .bin .lss .other (.t p49) (.t p51), none, 0⟩]) [p1, p2, p3, p7, p9, p10, p11, p52] (.cond (.t p52) .skip (.exit 2))) [p1, p2, p3, p7, p9, p10, p11] (.seq (.block 3 (.seq (.draw [⟨(some p55), .mv (.t p7), none, 0⟩, ⟨(some p56), .mv (.t p10), none, 0⟩, ⟨(some p57), .indexAddr 1 (.t p55) (.t p56), none, 0⟩, ⟨(some p58), .load1 (.t p57), none, 0⟩, ⟨(some p59), .mv (.t p7), none, 0⟩, ⟨(some p60), .mv (.t p11), none, 0⟩, ⟨(some p61), .indexAddr 1 (.t p59) (.t p60), none, 0⟩, ⟨(some p62), .load1 (.t p61), none, 0⟩, ⟨(some p63), .bin .eql .other (.t p58) (.t p62), none, 0⟩]) [p1, p2, p3, p7, p9, p10, p11, p63] (.cond (.t p63) (.ops [⟨(some p64), .mv (.t p9), none, 0⟩, ⟨(some p65), .mv (.t p10), none, 0⟩, ⟨(some p66), .mv (.t p11), none, 0⟩, ⟨(some p67), .build [(.int .i64 0), (.int .i64 0)] [(0, 1, (.t p65)), (1, 1, (.t p66))], none, 0⟩, ⟨(some p68), .buildSlice 1 2 [(.int .i64 0), (.int .i64 0)] [(0, (.t p67))], none, 0⟩, ⟨(some p69), .blt (.append 2 16) [(.t p64), (.t p68)], none, 0⟩, ⟨(some p9), .mv (.t p69), none, 0⟩]) .skip))) [p1, p2, p3, p7, p9, p10, p11] c_e_4))
def c_e_2 : CC := (.ops [⟨(some p47), .mv (.t p10), none, 0⟩, ⟨(some p48), .bin .add .other (.t p47) (.c (.int .i64 1)), none, 0⟩, ⟨(some p10), .mv (.t p48), none, 0⟩])
def c_e_1 : CC := (.seq (.seq (.ops [⟨(some p43), .mv (.t p10), none, 0⟩, ⟨(some p44), .mv (.t p7), none, 0⟩, ⟨(some p45), .blt .len [(.t p44)], none, 0⟩, ⟨(some p46), .bin .lss .other (.t p43) (.t p45), none, 0⟩]) [p1, p2, p3, p7, p9, p10, p46] (.cond (.t p46) .skip (.exit 0))) [p1, p2, p3, p7, p9, p10] (.seq (.block 1 (.seq (.ops [⟨(some p11), .mv (.c (.int .i64 0)), none, 0⟩]) [p1, p2, p3, p7, p9, p10, p11] (.block 2 (.loop [p1, p2, p3, p7, p9, p10, p11] c_e_3)))) [p1, p2, p3, p7, p9, p10] c_e_2))
def c_e_0 : CC := (.seq (.ops [⟨(some p71), .loadN 3 (.t p3), none, 0⟩, ⟨(some p72), .loadN 3 (.t p3), none, 0⟩, ⟨(some p73), .mv (.t p9), none, 0⟩, ⟨(some p74), .call (.c (.func (.func n_N) #[] #[])) [(.t p71), (.t p72), (.t p73)], none, 0⟩, ⟨(some p70), .mv (.t p74), none, 0⟩, ⟨(some p75), .extract (.t p70) 0, none, 0⟩, ⟨(some p76), .extract (.t p70) 1, none, 0⟩, ⟨(some p12), .mv (.t p75), none, 0⟩, ⟨(some p8), .mv (.t p76), none, 0⟩]) [p1, p2, p3, p7, p8, p12] (.seq (.seq (.ops [⟨(some p77), .mv (.t p12), none, 0⟩, ⟨(some p78), .un .not (.t p77), none, 0⟩, ⟨(some p79), .mv (.t p78), none, 0⟩, ⟨(some p80), .mv (.t p8), (some (p79, false)), 0⟩, ⟨(some p81), .bin .neq .other (.t p80) (.c (.int .i64 0)), (some (p79, false)), 0⟩, ⟨(some p82), .pick (.t p79) (.c (.bool true)) (.t p81), none, 0⟩]) [p1, p2, p3, p7, p82] (.cond (.t p82) (.seq (.ops [⟨(some p6), .mv (.c (.bool false)), none, 0⟩]) [p6] .ret) .skip)) [p1, p2, p3, p7] (.seq (.draw [⟨(some p83), .mv (.t p1), none, 0⟩, ⟨(some p84), .conv .i64 (.t p83), none, 0⟩, ⟨(some p85), .fieldAddr 0 (.t p3), none, 0⟩, ⟨(some p86), .load1 (.t p85), none, 0⟩, ⟨(some p87), .bin .rem .other (.t p84) (.t p86), none, 0⟩, ⟨(some p88), .mv (.t p2), none, 0⟩, ⟨(some p89), .conv .i64 (.t p88), none, 0⟩, ⟨(some p90), .fieldAddr 0 (.t p3), none, 0⟩, ⟨(some p91), .load1 (.t p90), none, 0⟩, ⟨(some p92), .bin .rem .other (.t p89) (.t p91), none, 0⟩, ⟨(some p13), .mv (.t p87), none, 0⟩, ⟨(some p14), .mv (.t p92), none, 0⟩]) [p3, p7, p13, p14] (.seq (.ops [⟨(some p94), .loadN 3 (.t p3), none, 0⟩, ⟨(some p95), .mv (.t p13), none, 0⟩, ⟨(some p96), .mv (.t p14), none, 0⟩, ⟨(some p97), .call (.c (.func (.func n_I) #[] #[])) [(.t p94), (.t p95), (.t p96)], none, 0⟩, ⟨(some p93), .mv (.t p97), none, 0⟩, ⟨(some p98), .extract (.t p93) 0, none, 0⟩, ⟨(some p99), .extract (.t p93) 1, none, 0⟩, ⟨(some p15), .alloc [(.int .i64 0), (.int .i64 0), (.slice none 0 0)], none, 0⟩, ⟨none, .store 3 (.t p15) (.t p98), none, 0⟩, ⟨(some p8), .mv (.t p99), none, 0⟩]) [p3, p7, p8, p13, p14, p15] (.seq (.seq (.ops [⟨(some p100), .mv (.t p8), none, 0⟩, ⟨(some p101), .bin .neq .other (.t p100) (.c (.int .i64 0)), none, 0⟩]) [p3, p7, p8, p13, p14, p15, p101] (.cond (.t p101) (.seq (.draw [⟨(some p102), .mv (.t p8), none, 0⟩, ⟨(some p103), .bin .eql .other (.t p102) (.c (.int .i64 5)), none, 0⟩, ⟨(some p104), .mv (.t p103), none, 0⟩, ⟨(some p105), .mv (.t p7), (some (p104, true)), 0⟩, ⟨(some p106), .mv (.t p13), (some (p104, true)), 0⟩, ⟨(some p107), .indexAddr 1 (.t p105) (.t p106), (some (p104, true)), 0⟩, ⟨(some p108), .load1 (.t p107), (some (p104, true)), 0⟩, ⟨(some p109), .mv (.t p7), (some (p104, true)), 0⟩, ⟨(some p110), .mv (.t p14), (some (p104, true)), 0⟩, ⟨(some p111), .indexAddr 1 (.t p109) (.t p110), (some (p104, true)), 0⟩, ⟨(some p112), .load1 (.t p111), (some (p104, true)), 0⟩, ⟨(some p113), .bin .eql .other (.t p108) (.t p112), (some (p104, true)), 0⟩, ⟨(some p114), .pick (.t p104) (.t p113) (.c (.bool false)), none, 0⟩, ⟨(some p115), .mv (.t p114), none, 0⟩, ⟨(some p116), .mv (.t p8), (some (p115, false)), 0⟩, ⟨(some p117), .bin .eql .other (.t p116) (.c (.int .i64 3)), (some (p115, false)), 0⟩, ⟨(some p118), .mv (.t p117), (some (p115, false)), 0⟩, ⟨(some p119), .mv (.t p7), (some (p118, true)), 0⟩, ⟨(some p120), .mv (.t p13), (some (p118, true)), 0⟩, ⟨(some p121), .indexAddr 1 (.t p119) (.t p120), (some (p118, true)), 0⟩, ⟨(some p122), .load1 (.t p121), (some (p118, true)), 0⟩, ⟨(some p123), .mv (.t p7), (some (p118, true)), 0⟩, ⟨(some p124), .mv (.t p14), (some (p118, true)), 0⟩, ⟨(some p125), .indexAddr 1 (.t p123) (.t p124), (some (p118, true)), 0⟩, ⟨(some p126), .load1 (.t p125), (some (p118, true)), 0⟩, ⟨(some p127), .bin .neq .other (.t p122) (.t p126), (some (p118, true)), 0⟩, ⟨(some p128), .pick (.t p118) (.t p127) (.c (.bool false)), (some (p115, false)), 0⟩, ⟨(some p129), .pick (.t p115) (.c (.bool true)) (.t p128), none, 0⟩, ⟨(some p130), .mv (.t p129), none, 0⟩, ⟨(some p131), .fieldAddr 0 (.t p15), (some (p130, true)), 0⟩, ⟨(some p132), .load1 (.t p131), (some (p130, true)), 0⟩, ⟨(some p133), .bin .eql .other (.t p132) (.c (.int .i64 0)), (some (p130, true)), 0⟩, ⟨(some p134), .pick (.t p130) (.t p133) (.c (.bool false)), none, 0⟩, ⟨(some p135), .mv (.t p134), none, 0⟩, ⟨(some p136), .call (.c (.func (.func n_A) #[] #[])) [], (some (p135, true)), 0⟩, ⟨(some p137), .pick (.t p135) (.t p136) (.c (.bool false)), none, 1⟩, ⟨(some p6), .mv (.t p137), none, 1⟩]) [p6] .ret) .skip)) [p3, p7, p13, p14, p15] (.seq (.ops [⟨(some p139), .loadN 3 (.t p3), none, 0⟩, ⟨(some p140), .loadN 3 (.t p15), none, 0⟩, ⟨(some p141), .mv (.t p13), none, 0⟩, ⟨(some p142), .call (.c (.func (.func n_K) #[] #[])) [(.t p139), (.t p140), (.t p141)], none, 0⟩, ⟨(some p138), .mv (.t p142), none, 0⟩, ⟨(some p143), .extract (.t p138) 0, none, 0⟩, ⟨(some p144), .extract (.t p138) 1, none, 0⟩, ⟨(some p16), .mv (.t p143), none, 0⟩, ⟨(some p17), .mv (.t p144), none, 0⟩]) [p3, p7, p13, p14, p15, p16, p17] (.seq (.ops [⟨(some p146), .loadN 3 (.t p3), none, 0⟩, ⟨(some p147), .loadN 3 (.t p15), none, 0⟩, ⟨(some p148), .mv (.t p14), none, 0⟩, ⟨(some p149), .call (.c (.func (.func n_K) #[] #[])) [(.t p146), (.t p147), (.t p148)], none, 0⟩, ⟨(some p145), .mv (.t p149), none, 0⟩, ⟨(some p150), .extract (.t p145) 0, none, 0⟩, ⟨(some p151), .extract (.t p145) 1, none, 0⟩, ⟨(some p18), .mv (.t p150), none, 0⟩, ⟨(some p19), .mv (.t p151), none, 0⟩]) [p7, p13, p14, p16, p17, p18, p19] (.seq (.draw [⟨(some p152), .mv (.t p17), none, 0⟩, ⟨(some p153), .bin .eql .other (.t p152) (.c (.int .i64 0)), none, 0⟩, ⟨(some p154), .mv (.t p153), none, 0⟩, ⟨(some p155), .mv (.t p19), (some (p154, true)), 0⟩, ⟨(some p156), .bin .eql .other (.t p155) (.c (.int .i64 0)), (some (p154, true)), 0⟩, ⟨(some p157), .pick (.t p154) (.t p156) (.c (.bool false)), none, 0⟩, ⟨(some p158), .mv (.t p157), none, 0⟩, ⟨(some p159), .mv (.t p16), (some (p158, true)), 0⟩, ⟨(some p160), .pick (.t p158) (.t p159) (.c (.bool false)), none, 0⟩, ⟨(some p161), .mv (.t p160), none, 0⟩, ⟨(some p162), .mv (.t p18), (some (p161, true)), 0⟩, ⟨(some p163), .un .not (.t p162), (some (p161, true)), 0⟩, ⟨(some p164), .pick (.t p161) (.t p163) (.c (.bool false)), none, 0⟩, ⟨(some p165), .mv (.t p164), none, 0⟩, ⟨(some p166), .mv (.t p7), (some (p165, true)), 0⟩, ⟨(some p167), .mv (.t p13), (some (p165, true)), 0⟩, ⟨(some p168), .indexAddr 1 (.t p166) (.t p167), (some (p165, true)), 0⟩, ⟨(some p169), .load1 (.t p168), (some (p165, true)), 0⟩, ⟨(some p170), .mv (.t p7), (some (p165, true)), 0⟩, ⟨(some p171), .mv (.t p14), (some (p165, true)), 0⟩, ⟨(some p172), .indexAddr 1 (.t p170) (.t p171), (some (p165, true)), 0⟩, ⟨(some p173), .load1 (.t p172), (some (p165, true)), 0⟩, ⟨(some p174), .bin .neq .other (.t p169) (.t p173), (some (p165, true)), 0⟩, ⟨(some p175), .pick (.t p165) (.t p174) (.c (.bool false)), none, 0⟩, ⟨(some p176), .mv (.t p175), none, 0⟩, ⟨(some p177), .call (.c (.func (.func n_A) #[] #[])) [], (some (p176, true)), 0⟩, ⟨(some p178), .pick (.t p176) (.t p177) (.c (.bool false)), none, 1⟩, ⟨(some p6), .mv (.t p178), none, 1⟩]) [p6] .ret))))))))
def c_e : CC := (.seq (.ops [⟨(some p3), .box (.t p0), none, 0⟩, ⟨(some p6), .mv (.c (.bool false)), none, 0⟩]) [p1, p2, p3] (.seq (.ops [⟨(some p21), .loadN 3 (.t p3), none, 0⟩, ⟨(some p22), .call (.c (.func (.func n_G) #[] #[])) [(.t p21)], none, 0⟩, ⟨(some p20), .mv (.t p22), none, 0⟩, ⟨(some p23), .extract (.t p20) 0, none, 0⟩, ⟨(some p24), .extract (.t p20) 1, none, 0⟩, ⟨(some p7), .mv (.t p23), none, 0⟩, ⟨(some p8), .mv (.t p24), none, 0⟩]) [p1, p2, p3, p7, p8] (.seq (.seq (.ops [⟨(some p25), .mv (.t p8), none, 0⟩, ⟨(some p26), .bin .neq .other (.t p25) (.c (.int .i64 0)), none, 0⟩]) [p1, p2, p3, p7, p26] (.cond (.t p26) (.seq (.ops [⟨(some p27), .mv (.t p7), none, 0⟩, ⟨(some p28), .blt .len [(.t p27)], none, 0⟩, ⟨(some p29), .bin .eql .other (.t p28) (.c (.int .i64 0)), none, 0⟩, ⟨(some p30), .mv (.t p29), none, 0⟩, ⟨(some p31), .call (.c (.func (.func n_A) #[] #[])) [], (some (p30, true)), 0⟩, ⟨(some p32), .pick (.t p30) (.t p31) (.c (.bool false)), none, 0⟩, ⟨(some p6), .mv (.t p32), none, 0⟩]) [p6] .ret) .skip)) [p1, p2, p3, p7] (.seq (.seq (.ops [⟨(some p33), .mv (.t p7), none, 0⟩, ⟨(some p34), .blt .len [(.t p33)], none, 0⟩, ⟨(some p35), .fieldAddr 0 (.t p3), none, 0⟩, ⟨(some p36), .load1 (.t p35), none, 0⟩, ⟨(some p37), .bin .neq .other (.t p34) (.t p36), none, 0⟩, ⟨(some p38), .mv (.t p37), none, 0⟩, ⟨(some p39), .fieldAddr 0 (.t p3), (some (p38, false)), 0⟩, ⟨(some p40), .load1 (.t p39), (some (p38, false)), 0⟩, ⟨(some p41), .bin .lss .other (.t p40) (.c (.int .i64 1)), (some (p38, false)), 0⟩, ⟨(some p42), .pick (.t p38) (.c (.bool true)) (.t p41), none, 0⟩]) [p1, p2, p3, p7, p42] (.cond (.t p42) (.seq (.ops [⟨(some p6), .mv (.c (.bool false)), none, 0⟩]) [p6] .ret) .skip)) [p1, p2, p3, p7] (.seq (.ops [⟨(some p9), .mv (.c (.slice none 0 0)), none, 0⟩]) [p1, p2, p3, p7, p9] (.seq (.seq (.ops [⟨(some p10), .mv (.c (.int .i64 0)), none, 0⟩]) [p1, p2, p3, p7, p9, p10] (.block 0 (.loop [p1, p2, p3, p7, p9, p10] c_e_1))) [p1, p2, p3, p7, p9] c_e_0))))))
def f_e : zw := ⟨179, [.tmp p6], c_e, none⟩
def zfX : CC := (.seq (.ops [⟨(some p33), .bin .lss .other (.t p32) (.t p31), none, 0⟩]) [p1, p30, p31, p32, p33] (.seq (.cond (.t p33) .skip (.exit 0)) [p1, p30, p31, p32] (.seq (.block 1 (.seq (.ops [⟨(some p34), .mv (.t p32), none, 0⟩, ⟨(some p35), .indexAddr 3 (.t p30) (.t p32), none, 0⟩, ⟨(some p36), .loadN 3 (.t p35), none, 0⟩, ⟨(some p4), .alloc [(.int .i64 0), (.int .i64 0), (.int .i64 0)], none, 0⟩, ⟨(some p3), .mv (.t p34), none, 0⟩, ⟨none, .store 3 (.t p4) (.t p36), none, 0⟩]) [p1, p3, p4, p30, p31, p32] (.seq (.draw [⟨(some p37), .fieldAddr 0 (.t p4), none, 0⟩, ⟨(some p38), .load1 (.t p37), none, 0⟩, ⟨(some p39), .fieldAddr 1 (.t p4), none, 0⟩, ⟨(some p40), .load1 (.t p39), none, 0⟩, ⟨(some p41), .fieldAddr 2 (.t p4), none, 0⟩, ⟨(some p42), .load1 (.t p41), none, 0⟩, ⟨(some p43), .blt .min [(.t p38), (.t p40), (.t p42)], none, 0⟩, ⟨(some p44), .bin .lss .other (.t p43) (.c (.int .i64 0)), none, 0⟩, ⟨(some p45), .mv (.t p44), none, 0⟩, ⟨(some p46), .fieldAddr 0 (.t p4), (some (p45, false)), 0⟩, ⟨(some p47), .load1 (.t p46), (some (p45, false)), 0⟩, ⟨(some p48), .fieldAddr 1 (.t p4), (some (p45, false)), 0⟩, ⟨(some p49), .load1 (.t p48), (some (p45, false)), 0⟩, ⟨(some p50), .blt .max [(.t p47), (.t p49)], (some (p45, false)), 0⟩, ⟨(some p51), .fieldAddr 0 (.t p1), (some (p45, false)), 0⟩, ⟨(some p52), .load1 (.t p51), (some (p45, false)), 0⟩, ⟨(some p53), .bin .geq .other (.t p50) (.t p52), (some (p45, false)), 0⟩, ⟨(some p54), .pick (.t p45) (.c (.bool true)) (.t p53), none, 0⟩, ⟨(some p55), .mv (.t p54), none, 0⟩, ⟨(some p56), .fieldAddr 2 (.t p4), (some (p55, false)), 0⟩, ⟨(some p57), .load1 (.t p56), (some (p55, false)), 0⟩, ⟨(some p58), .fieldAddr 1 (.t p1), (some (p55, false)), 0⟩, ⟨(some p59), .load1 (.t p58), (some (p55, false)), 0⟩, ⟨(some p60), .bin .geq .other (.t p57) (.t p59), (some (p55, false)), 0⟩, ⟨(some p61), .pick (.t p55) (.c (.bool true)) (.t p60), none, 0⟩, ⟨(some p62), .mv (.t p61), none, 0⟩, ⟨(some p63), .mv (.t p3), (some (p62, false)), 0⟩, ⟨(some p64), .bin .gtr .other (.t p63) (.c (.int .i64 0)), (some (p62, false)), 0⟩, ⟨(some p65), .mv (.t p64), (some (p62, false)), 0⟩, ⟨(some p66), .fieldAddr 2 (.t p1), (some (p65, true)), 0⟩, ⟨(some p67), .load1 (.t p66), (some (p65, true)), 0⟩, ⟨(some p68), .mv (.t p3), (some (p65, true)), 0⟩, ⟨(some p69), .bin .sub .other (.t p68) (.c (.int .i64 1)), (some (p65, true)), 0⟩, ⟨(some p70), .indexAddr 3 (.t p67) (.t p69), (some (p65, true)), 0⟩, ⟨(some p71), .loadN 3 (.t p70), (some (p65, true)), 0⟩, ⟨(some p72), .loadN 3 (.t p4), (some (p65, true)), 0⟩, ⟨(some p73), .call (.c (.func (.func n_H) #[] #[])) [(.t p71), (.t p72)], (some (p65, true)), 0⟩, ⟨(some p74), .bin .geq .other (.t p73) (.c (.int .i64 0)), (some (p65, true)), 1⟩, ⟨(some p75), .pick (.t p65) (.t p74) (.c (.bool false)), (some (p62, false)), 1⟩, ⟨(some p76), .pick (.t p62) (.c (.bool true)) (.t p75), none, 1⟩]) [p1, p30, p31, p32, p76] (.cond (.t p76) (.seq (.ops [⟨(some p2), .mv (.c (.int .i64 2)), none, 0⟩]) [p2] .ret) .skip)))) [p1, p30, p31, p32] (.ops [⟨(some p77), .bin .add .other (.t p32) (.c (.int .i64 1)), none, 0⟩, ⟨(some p32), .mv (.t p77), none, 0⟩]))))
def zgr : CC := (.seq (.ops [⟨(some p2), .mv (.c (.int .i64 0)), none, 0⟩]) [p2] .ret)
def c_m : CC := (.seq (.ops [⟨(some p1), .box (.t p0), none, 0⟩, ⟨(some p2), .mv (.c (.int .i64 0)), none, 0⟩]) [p1] (.seq (.seq (.ops [⟨(some p5), .fieldAddr 0 (.t p1), none, 0⟩, ⟨(some p6), .load1 (.t p5), none, 0⟩, ⟨(some p7), .bin .lss .other (.t p6) (.c (.int .i64 1)), none, 0⟩, ⟨(some p8), .mv (.t p7), none, 0⟩, ⟨(some p9), .fieldAddr 0 (.t p1), (some (p8, false)), 0⟩, ⟨(some p10), .load1 (.t p9), (some (p8, false)), 0⟩, ⟨(some p11), .bin .gtr .other (.t p10) (.c (.int .i64 60)), (some (p8, false)), 0⟩, ⟨(some p12), .pick (.t p8) (.c (.bool true)) (.t p11), none, 0⟩, ⟨(some p13), .mv (.t p12), none, 0⟩, ⟨(some p14), .fieldAddr 1 (.t p1), (some (p13, false)), 0⟩, ⟨(some p15), .load1 (.t p14), (some (p13, false)), 0⟩, ⟨(some p16), .bin .lss .other (.t p15) (.c (.int .i64 1)), (some (p13, false)), 0⟩, ⟨(some p17), .pick (.t p13) (.c (.bool true)) (.t p16), none, 0⟩, ⟨(some p18), .mv (.t p17), none, 0⟩, ⟨(some p19), .fieldAddr 1 (.t p1), (some (p18, false)), 0⟩, ⟨(some p20), .load1 (.t p19), (some (p18, false)), 0⟩, ⟨(some p21), .bin .gtr .other (.t p20) (.c (.int .i64 41)), (some (p18, false)), 0⟩, ⟨(some p22), .pick (.t p18) (.c (.bool true)) (.t p21), none, 0⟩, ⟨(some p23), .mv (.t p22), none, 0⟩, ⟨(some p24), .fieldAddr 2 (.t p1), (some (p23, false)), 0⟩, ⟨(some p25), .load1 (.t p24), (some (p23, false)), 0⟩, ⟨(some p26), .blt .len [(.t p25)], (some (p23, false)), 0⟩, ⟨(some p27), .bin .gtr .other (.t p26) (.c (.int .i64 400)), (some (p23, false)), 0⟩, ⟨(some p28), .pick (.t p23) (.c (.bool true)) (.t p27), none, 0⟩]) [p1, p28] (.cond (.t p28) (.seq (.ops [⟨(some p2), .mv (.c (.int .i64 2)), none, 0⟩]) [p2] .ret) .skip)) [p1] (.seq (.seq (.ops [⟨(some p29), .fieldAddr 2 (.t p1), none, 0⟩, ⟨(some p30), .load1 (.t p29), none, 0⟩, ⟨(some p31), .blt .len [(.t p30)], none, 0⟩, ⟨(some p32), .mv (.c (.int .i64 0)), none, 0⟩]) [p1, p30, p31, p32] (.block 0 (.loop [p1, p30, p31, p32] zfX))) [] zgr)))
def f_m : zw := ⟨78, [.tmp p2], c_m, none⟩
def c_I : CC := (.seq (.ops [⟨(some p3), .box (.t p0), none, 0⟩, ⟨(some p6), .alloc [(.int .i64 0), (.int .i64 0), (.slice none 0 0)], none, 0⟩, ⟨(some p7), .mv (.c (.int .i64 0)), none, 0⟩]) [p1, p2, p3, p6] (.seq (.seq (.ops [⟨(some p11), .loadN 3 (.t p3), none, 0⟩, ⟨(some p12), .mv (.t p1), none, 0⟩, ⟨(some p13), .call (.c (.func (.func n_E) #[] #[])) [(.t p11), (.t p12)], none, 0⟩, ⟨(some p14), .un .not (.t p13), none, 0⟩, ⟨(some p15), .mv (.t p14), none, 0⟩, ⟨(some p16), .loadN 3 (.t p3), (some (p15, false)), 0⟩, ⟨(some p17), .mv (.t p2), (some (p15, false)), 0⟩, ⟨(some p18), .call (.c (.func (.func n_E) #[] #[])) [(.t p16), (.t p17)], (some (p15, false)), 0⟩, ⟨(some p19), .un .not (.t p18), (some (p15, false)), 0⟩, ⟨(some p20), .pick (.t p15) (.c (.bool true)) (.t p19), none, 0⟩]) [p1, p2, p3, p6, p20] (.cond (.t p20) (.seq (.ops [⟨(some p21), .build [(.int .i64 0), (.int .i64 0), (.slice none 0 0)] [], none, 0⟩, ⟨none, .store 3 (.t p6) (.t p21), none, 0⟩, ⟨(some p7), .mv (.c (.int .i64 2)), none, 0⟩]) [p6, p7] .ret) .skip)) [p1, p2, p3, p6] (.seq (.draw [⟨(some p22), .loadN 3 (.t p3), none, 0⟩, ⟨(some p23), .call (.c (.func (.func n_b) #[] #[])) [(.t p22)], none, 0⟩, ⟨(some p24), .loadN 3 (.t p3), none, 0⟩, ⟨(some p25), .makeMap, none, 0⟩, ⟨(some p26), .build [(.map none), (.int .i64 0), (.int .i64 0), (.slice none 0 0), (.map none)] [(0, 1, (.t p23)), (1, 3, (.t p24)), (4, 1, (.t p25))], none, 1⟩, ⟨(some p8), .alloc [(.map none), (.int .i64 0), (.int .i64 0), (.slice none 0 0), (.map none)], none, 0⟩, ⟨none, .store 5 (.t p8) (.t p26), none, 1⟩]) [p1, p2, p6, p8] (.seq (.seq (.ops [⟨(some p28), .fieldAddr 0 (.t p8), none, 0⟩, ⟨(some p29), .load1 (.t p28), none, 0⟩, ⟨(some p30), .mv (.t p1), none, 0⟩, ⟨(some p31), .mv (.t p2), none, 0⟩, ⟨(some p32), .build [(.int .i64 0), (.int .i64 0)] [(0, 1, (.t p30)), (1, 1, (.t p31))], none, 0⟩, ⟨(some p33), .lookup (.leaves [0, 1]) (.int .i64 0) true (.t p29) (.t p32), none, 0⟩, ⟨(some p27), .mv (.t p33), none, 0⟩, ⟨(some p34), .extract (.t p27) 0, none, 0⟩, ⟨(some p35), .extract (.t p27) 1, none, 0⟩, ⟨(some p9), .mv (.t p34), none, 0⟩, ⟨(some p10), .mv (.t p35), none, 0⟩]) [p1, p2, p6, p8, p10] (.seq (.ops [⟨(some p36), .mv (.t p10), none, 0⟩, ⟨(some p37), .un .not (.t p36), none, 0⟩]) [p1, p2, p6, p8, p37] (.cond (.t p37) (.seq (.ops [⟨(some p38), .build [(.int .i64 0), (.int .i64 0), (.slice none 0 0)] [], none, 0⟩, ⟨none, .store 3 (.t p6) (.t p38), none, 0⟩, ⟨(some p7), .mv (.c (.int .i64 5)), none, 0⟩]) [p6, p7] .ret) .skip))) [p1, p2, p6, p8] (.seq (.seq (.ops [⟨(some p39), .loadN 5 (.t p8), none, 0⟩, ⟨(some p40), .mv (.t p1), none, 0⟩, ⟨(some p41), .mv (.t p2), none, 0⟩, ⟨(some p42), .call (.c (.func (.func n_i) #[] #[])) [(.t p39), (.t p40), (.t p41)], none, 0⟩, ⟨(some p43), .bin .gtr .other (.t p42) (.c (.int .i64 3000)), none, 0⟩]) [p1, p2, p6, p8, p43] (.cond (.t p43) (.seq (.ops [⟨(some p44), .build [(.int .i64 0), (.int .i64 0), (.slice none 0 0)] [], none, 0⟩, ⟨none, .store 3 (.t p6) (.t p44), none, 0⟩, ⟨(some p7), .mv (.c (.int .i64 3)), none, 0⟩]) [p6, p7] .ret) .skip)) [p1, p2, p6, p8] (.seq (.ops [⟨(some p45), .loadN 5 (.t p8), none, 0⟩, ⟨(some p46), .mv (.t p1), none, 0⟩, ⟨(some p47), .mv (.t p2), none, 0⟩, ⟨(some p48), .call (.c (.func (.func n_f) #[] #[])) [(.t p45), (.t p46), (.t p47)], none, 0⟩, ⟨none, .store 3 (.t p6) (.t p48), none, 0⟩, ⟨(some p7), .mv (.c (.int .i64 0)), none, 0⟩]) [p6, p7] .ret))))))
def f_I : zw := ⟨49, [.cell (some 3) p6, .tmp p7], c_I, none⟩
def c_K : CC := (.seq (.ops [⟨(some p3), .box (.t p0), none, 0⟩, ⟨(some p4), .box (.t p1), none, 0⟩, ⟨(some p6), .mv (.c (.bool false)), none, 0⟩, ⟨(some p7), .mv (.c (.int .i64 0)), none, 0⟩]) [p2, p3, p4] (.seq (.ops [⟨(some p8), .alloc [(.int .i64 0)], none, 0⟩, ⟨none, .store 1 (.t p8) (.c (.int .i64 3000)), none, 0⟩]) [p2, p3, p4, p8] (.seq (.seq (.ops [⟨(some p9), .loadN 3 (.t p3), none, 0⟩, ⟨(some p10), .mv (.t p2), none, 0⟩, ⟨(some p11), .call (.c (.func (.func n_E) #[] #[])) [(.t p9), (.t p10)], none, 0⟩, ⟨(some p12), .un .not (.t p11), none, 0⟩, ⟨(some p13), .mv (.t p12), none, 0⟩, ⟨(some p14), .loadN 3 (.t p3), (some (p13, false)), 0⟩, ⟨(some p15), .loadN 3 (.t p4), (some (p13, false)), 0⟩, ⟨(some p16), .call (.c (.func (.func n_o) #[] #[])) [(.t p14), (.t p15), (.t p8)], (some (p13, false)), 0⟩, ⟨(some p17), .un .not (.t p16), (some (p13, false)), 0⟩, ⟨(some p18), .pick (.t p13) (.c (.bool true)) (.t p17), none, 0⟩]) [p2, p3, p4, p18] (.cond (.t p18) (.seq (.ops [⟨(some p6), .mv (.c (.bool false)), none, 0⟩, ⟨(some p7), .mv (.c (.int .i64 2)), none, 0⟩]) [p6, p7] .ret) .skip)) [p2, p3, p4] (.seq (.ops [⟨(some p19), .loadN 3 (.t p3), none, 0⟩, ⟨(some p20), .loadN 3 (.t p4), none, 0⟩, ⟨(some p21), .call (.c (.func (.func n_h) #[] #[])) [(.t p19), (.t p20)], none, 0⟩, ⟨(some p22), .mv (.t p2), none, 0⟩, ⟨(some p23), .indexAddr 1 (.t p21) (.t p22), none, 0⟩, ⟨(some p24), .load1 (.t p23), none, 0⟩, ⟨(some p6), .mv (.t p24), none, 0⟩, ⟨(some p7), .mv (.c (.int .i64 0)), none, 0⟩]) [p6, p7] .ret))))
def f_K : zw := ⟨25, [.tmp p6, .tmp p7], c_K, none⟩
def c_G : CC := (.seq (.ops [⟨(some p1), .box (.t p0), none, 0⟩, ⟨(some p2), .mv (.c (.slice none 0 0)), none, 0⟩, ⟨(some p3), .mv (.c (.int .i64 0)), none, 0⟩]) [p1] (.seq (.seq (.ops [⟨(some p4), .loadN 3 (.t p1), none, 0⟩, ⟨(some p5), .call (.c (.func (.func n_m) #[] #[])) [(.t p4)], none, 0⟩, ⟨(some p6), .bin .neq .other (.t p5) (.c (.int .i64 0)), none, 0⟩]) [p1, p6] (.cond (.t p6) (.seq (.ops [⟨(some p2), .mv (.c (.slice none 0 0)), none, 0⟩, ⟨(some p3), .mv (.c (.int .i64 2)), none, 0⟩]) [p2, p3] .ret) .skip)) [p1] (.seq (.ops [⟨(some p7), .loadN 3 (.t p1), none, 0⟩, ⟨(some p8), .call (.c (.func (.func n_d) #[] #[])) [(.t p7)], none, 0⟩, ⟨(some p2), .mv (.t p8), none, 0⟩, ⟨(some p3), .mv (.c (.int .i64 0)), none, 0⟩]) [p2, p3] .ret)))
def f_G : zw := ⟨9, [.tmp p2, .tmp p3], c_G, none⟩
def c_H : CC := (.seq (.ops [⟨(some p2), .box (.t p0), none, 0⟩, ⟨(some p3), .box (.t p1), none, 0⟩, ⟨(some p4), .mv (.c (.int .i64 0)), none, 0⟩]) [p2, p3] (.seq (.draw [⟨(some p5), .fieldAddr 0 (.t p2), none, 0⟩, ⟨(some p6), .load1 (.t p5), none, 0⟩, ⟨(some p7), .fieldAddr 0 (.t p3), none, 0⟩, ⟨(some p8), .load1 (.t p7), none, 0⟩, ⟨(some p9), .call (.c (.func (.func n_z) #[] #[])) [(.t p6), (.t p8)], none, 0⟩, ⟨(some p10), .fieldAddr 2 (.t p2), none, 0⟩, ⟨(some p11), .load1 (.t p10), none, 0⟩, ⟨(some p12), .fieldAddr 2 (.t p3), none, 0⟩, ⟨(some p13), .load1 (.t p12), none, 0⟩, ⟨(some p14), .call (.c (.func (.func n_z) #[] #[])) [(.t p11), (.t p13)], none, 1⟩, ⟨(some p15), .fieldAddr 1 (.t p2), none, 0⟩, ⟨(some p16), .load1 (.t p15), none, 0⟩, ⟨(some p17), .fieldAddr 1 (.t p3), none, 0⟩, ⟨(some p18), .load1 (.t p17), none, 0⟩, ⟨(some p19), .call (.c (.func (.func n_z) #[] #[])) [(.t p16), (.t p18)], none, 2⟩, ⟨(some p20), .buildSlice 3 1 [(.int .i64 0)] [(0, (.t p9)), (1, (.t p14)), (2, (.t p19))], none, 3⟩, ⟨(some p21), .call (.c (.func (.func n_t) #[] #[])) [(.t p20)], none, 3⟩, ⟨(some p4), .mv (.t p21), none, 4⟩]) [p4] .ret))
def f_H : zw := ⟨22, [.tmp p4], c_H, none⟩
def c_E : CC := (.seq (.ops [⟨(some p2), .box (.t p0), none, 0⟩, ⟨(some p4), .mv (.c (.bool false)), none, 0⟩]) [p1, p2] (.seq (.ops [⟨(some p5), .loadN 3 (.t p2), none, 0⟩, ⟨(some p6), .call (.c (.func (.func n_m) #[] #[])) [(.t p5)], none, 0⟩, ⟨(some p7), .bin .eql .other (.t p6) (.c (.int .i64 0)), none, 0⟩, ⟨(some p8), .mv (.t p7), none, 0⟩, ⟨(some p9), .mv (.t p1), (some (p8, true)), 0⟩, ⟨(some p10), .bin .geq .other (.t p9) (.c (.int .i64 0)), (some (p8, true)), 0⟩, ⟨(some p11), .pick (.t p8) (.t p10) (.c (.bool false)), none, 0⟩, ⟨(some p12), .mv (.t p11), none, 0⟩, ⟨(some p13), .mv (.t p1), (some (p12, true)), 0⟩, ⟨(some p14), .fieldAddr 0 (.t p2), (some (p12, true)), 0⟩, ⟨(some p15), .load1 (.t p14), (some (p12, true)), 0⟩, ⟨(some p16), .bin .lss .other (.t p13) (.t p15), (some (p12, true)), 0⟩, ⟨(some p17), .pick (.t p12) (.t p16) (.c (.bool false)), none, 0⟩, ⟨(some p4), .mv (.t p17), none, 0⟩]) [p4] .ret))
def f_E : zw := ⟨18, [.tmp p4], c_E, none⟩
def c_b_7 : CC := (.seq (.ops [⟨(some p57), .mv (.t p11), none, 0⟩]) [p1, p3, p4, p5, p6, p7, p18, p19, p22, p23, p57] (.cond (.t p57) (.ops [⟨(some p58), .mv (.t p5), none, 0⟩, ⟨(some p59), .mv (.t p6), none, 0⟩, ⟨(some p60), .mv (.t p7), none, 0⟩, ⟨(some p61), .build [(.int .i64 0), (.int .i64 0)] [(0, 1, (.t p59)), (1, 1, (.t p60))], none, 0⟩, ⟨(some p62), .buildSlice 1 2 [(.int .i64 0), (.int .i64 0)] [(0, (.t p61))], none, 0⟩, ⟨(some p63), .blt (.append 2 16) [(.t p58), (.t p62)], none, 0⟩, ⟨(some p5), .mv (.t p63), none, 0⟩]) .skip))
def zik : CC := (.ops [⟨(some p64), .bin .add .other (.t p23) (.c (.int .i64 1)), none, 0⟩, ⟨(some p23), .mv (.t p64), none, 0⟩])
def zg5 : CC := (.seq (.ops [⟨(some p24), .bin .lss .other (.t p23) (.t p22), none, 0⟩]) [p1, p3, p4, p5, p6, p18, p19, p22, p23, p24] (.seq (.cond (.t p24) .skip (.exit 4)) [p1, p3, p4, p5, p6, p18, p19, p22, p23] (.seq (.block 5 (.seq (.ops [⟨(some p25), .mv (.t p23), none, 0⟩, ⟨(some p7), .mv (.t p25), none, 0⟩]) [p1, p3, p4, p5, p6, p7, p18, p19, p22, p23] (.seq (.seq (.ops [⟨(some p27), .mv (.t p3), none, 0⟩, ⟨(some p28), .mv (.t p6), none, 0⟩, ⟨(some p29), .mv (.t p7), none, 0⟩, ⟨(some p30), .build [(.int .i64 0), (.int .i64 0)] [(0, 1, (.t p28)), (1, 1, (.t p29))], none, 0⟩, ⟨(some p31), .lookup (.leaves [0, 1]) (.int .i64 0) true (.t p27) (.t p30), none, 0⟩, ⟨(some p26), .mv (.t p31), none, 0⟩, ⟨(some p32), .extract (.t p26) 0, none, 0⟩, ⟨(some p33), .extract (.t p26) 1, none, 0⟩, ⟨(some p8), .mv (.t p32), none, 0⟩, ⟨(some p9), .mv (.t p33), none, 0⟩]) [p1, p3, p4, p5, p6, p7, p9, p18, p19, p22, p23] (.seq (.ops [⟨(some p34), .mv (.t p9), none, 0⟩]) [p1, p3, p4, p5, p6, p7, p18, p19, p22, p23, p34] (.cond (.t p34) (.exit 5) .skip))) [p1, p3, p4, p5, p6, p7, p18, p19, p22, p23] (.seq (.ops [⟨(some p36), .mv (.t p3), none, 0⟩, ⟨(some p37), .loadN 3 (.t p1), none, 0⟩, ⟨(some p38), .mv (.t p6), none, 0⟩, ⟨(some p39), .mv (.t p7), none, 0⟩, ⟨(some p40), .mv (.t p4), none, 0⟩, ⟨(some p41), .bin .sub .other (.t p40) (.c (.int .i64 1)), none, 0⟩, ⟨(some p42), .call (.c (.func (.func n_g) #[] #[])) [(.t p36), (.t p37), (.t p38), (.t p39), (.t p41)], none, 0⟩, ⟨(some p35), .mv (.t p42), none, 0⟩, ⟨(some p43), .extract (.t p35) 0, none, 0⟩, ⟨(some p44), .extract (.t p35) 1, none, 0⟩, ⟨(some p10), .alloc [(.int .i64 0), (.int .i64 0), (.int .i64 0)], none, 0⟩, ⟨none, .store 3 (.t p10) (.t p43), none, 0⟩, ⟨(some p11), .mv (.t p44), none, 0⟩]) [p1, p3, p4, p5, p6, p7, p11, p18, p19, p22, p23] (.seq (.seq (.ops [⟨(some p45), .mv (.t p11), none, 0⟩, ⟨(some p46), .un .not (.t p45), none, 0⟩]) [p1, p3, p4, p5, p6, p7, p11, p18, p19, p22, p23, p46] (.cond (.t p46) (.ops [⟨(some p48), .mv (.t p3), none, 0⟩, ⟨(some p49), .loadN 3 (.t p1), none, 0⟩, ⟨(some p50), .mv (.t p7), none, 0⟩, ⟨(some p51), .mv (.t p6), none, 0⟩, ⟨(some p52), .mv (.t p4), none, 0⟩, ⟨(some p53), .bin .sub .other (.t p52) (.c (.int .i64 1)), none, 0⟩, ⟨(some p54), .call (.c (.func (.func n_g) #[] #[])) [(.t p48), (.t p49), (.t p50), (.t p51), (.t p53)], none, 0⟩, ⟨(some p47), .mv (.t p54), none, 0⟩, ⟨(some p55), .extract (.t p47) 0, none, 0⟩, ⟨(some p56), .extract (.t p47) 1, none, 0⟩, ⟨(some p11), .mv (.t p56), none, 0⟩]) .skip)) [p1, p3, p4, p5, p6, p7, p11, p18, p19, p22, p23] c_b_7))))) [p1, p3, p4, p5, p6, p18, p19, p22, p23] zik)))
def zg6 : CC := (.ops [⟨(some p65), .bin .add .other (.t p19) (.c (.int .i64 1)), none, 0⟩, ⟨(some p19), .mv (.t p65), none, 0⟩])
def zg7 : CC := (.seq (.ops [⟨(some p20), .bin .lss .other (.t p19) (.t p18), none, 0⟩]) [p1, p3, p4, p5, p18, p19, p20] (.seq (.cond (.t p20) .skip (.exit 2)) [p1, p3, p4, p5, p18, p19] (.seq (.block 3 (.seq (.ops [⟨(some p21), .mv (.t p19), none, 0⟩, ⟨(some p6), .mv (.t p21), none, 0⟩]) [p1, p3, p4, p5, p6, p18, p19] (.seq (.ops [⟨(some p22), .mv (.t p6), none, 0⟩, ⟨(some p23), .mv (.c (.int .i64 0)), none, 0⟩]) [p1, p3, p4, p5, p6, p18, p19, p22, p23] (.block 4 (.loop [p1, p3, p4, p5, p6, p18, p19, p22, p23] zg5))))) [p1, p3, p4, p5, p18, p19] zg6)))
def zg4 : CC := (.seq (.ops [⟨(some p73), .bin .lss .other (.t p72) (.t p71), none, 0⟩]) [p1, p3, p4, p70, p71, p72, p73] (.seq (.cond (.t p73) .skip (.exit 6)) [p1, p3, p4, p70, p71, p72] (.seq (.block 7 (.seq (.ops [⟨(some p74), .indexAddr 2 (.t p70) (.t p72), none, 0⟩, ⟨(some p75), .loadN 2 (.t p74), none, 0⟩, ⟨(some p13), .alloc [(.int .i64 0), (.int .i64 0)], none, 0⟩, ⟨none, .store 2 (.t p13) (.t p75), none, 0⟩]) [p1, p3, p4, p13, p70, p71, p72] (.draw [⟨(some p76), .mv (.t p3), none, 0⟩, ⟨(some p77), .loadN 2 (.t p13), none, 0⟩, ⟨(some p84), .mv (.t p4), none, 0⟩, ⟨none, .mapUpdate (.leaves [0, 1]) (.t p76) (.t p77) (.t p84), none, 0⟩, ⟨(some p78), .mv (.t p3), none, 0⟩, ⟨(some p79), .indexArr 2 1 (.t p13) (.c (.int .i64 1)), none, 0⟩, ⟨(some p80), .load1 (.t p79), none, 0⟩, ⟨(some p81), .indexArr 2 1 (.t p13) (.c (.int .i64 0)), none, 0⟩, ⟨(some p82), .load1 (.t p81), none, 0⟩, ⟨(some p83), .build [(.int .i64 0), (.int .i64 0)] [(0, 1, (.t p80)), (1, 1, (.t p82))], none, 0⟩, ⟨(some p85), .mv (.t p4), none, 0⟩, ⟨none, .mapUpdate (.leaves [0, 1]) (.t p78) (.t p83) (.t p85), none, 1⟩]))) [p1, p3, p4, p70, p71, p72] (.ops [⟨(some p86), .bin .add .other (.t p72) (.c (.int .i64 1)), none, 0⟩, ⟨(some p72), .mv (.t p86), none, 0⟩]))))
def zgs : CC := (.seq (.seq (.ops [⟨(some p66), .mv (.t p5), none, 0⟩, ⟨(some p67), .blt .len [(.t p66)], none, 0⟩, ⟨(some p68), .bin .eql .other (.t p67) (.c (.int .i64 0)), none, 0⟩]) [p1, p3, p4, p5, p68] (.cond (.t p68) (.seq (.ops [⟨(some p69), .mv (.t p3), none, 0⟩, ⟨(some p2), .mv (.t p69), none, 0⟩]) [p2] .ret) .skip)) [p1, p3, p4, p5] (.seq (.ops [⟨(some p70), .mv (.t p5), none, 0⟩, ⟨(some p71), .blt .len [(.t p70)], none, 0⟩, ⟨(some p72), .mv (.c (.int .i64 0)), none, 0⟩]) [p1, p3, p4, p70, p71, p72] (.block 6 (.loop [p1, p3, p4, p70, p71, p72] zg4))))
def c_b_1 : CC := (.ops [⟨(some p15), .mv (.t p4), none, 0⟩, ⟨(some p16), .bin .add .other (.t p15) (.c (.int .i64 1)), none, 0⟩, ⟨(some p4), .mv (.t p16), none, 0⟩])
def zg8 : CC := (.seq (.block 1 (.seq (.ops [⟨(some p5), .mv (.c (.slice none 0 0)), none, 0⟩]) [p1, p3, p4, p5] (.seq (.seq (.ops [⟨(some p17), .fieldAddr 0 (.t p1), none, 0⟩, ⟨(some p18), .load1 (.t p17), none, 0⟩, ⟨(some p19), .mv (.c (.int .i64 0)), none, 0⟩]) [p1, p3, p4, p5, p18, p19] (.block 2 (.loop [p1, p3, p4, p5, p18, p19] zg7))) [p1, p3, p4, p5] zgs))) [p1, p3, p4] c_b_1)
def c_b : CC := (.seq (.ops [⟨(some p1), .box (.t p0), none, 0⟩, ⟨(some p2), .mv (.c (.map none)), none, 0⟩]) [p1] (.seq (.ops [⟨(some p14), .makeMap, none, 0⟩, ⟨(some p3), .mv (.t p14), none, 0⟩]) [p1, p3] (.seq (.ops [⟨(some p4), .mv (.c (.int .i64 1)), none, 0⟩]) [p1, p3, p4] (.block 0 (.loop [p1, p3, p4] zg8)))))
def f_b : zw := ⟨87, [.tmp p2], c_b, none⟩
def c_i_1 : CC := (.ops [⟨(some p13), .mv (.t p48), none, 0⟩])
def c_i_2 : CC := (.block 1 (.draw [⟨(some p50), .loadN 5 (.t p3), none, 0⟩, ⟨(some p51), .fieldAddr 1 (.t p11), none, 0⟩, ⟨(some p52), .load1 (.t p51), none, 0⟩, ⟨(some p53), .mv (.t p13), none, 0⟩, ⟨(some p54), .call (.c (.func (.func n_i) #[] #[])) [(.t p50), (.t p52), (.t p53)], none, 0⟩, ⟨(some p49), .load1 (.t p10), none, 0⟩, ⟨(some p55), .bin .add .other (.t p49) (.t p54), none, 1⟩, ⟨(some p56), .blt .min [(.t p55), (.c (.int .i64 3001))], none, 1⟩, ⟨none, .store 1 (.t p10) (.t p56), none, 1⟩]))
def zeT : RC := ⟨(n_i * 1000 + 1), [p3, p10, p11], [p48], c_i_1, c_i_2⟩
def c_i_0 : CC := (.seq (.ops [⟨(some p63), .fieldAddr 4 (.t p3), none, 0⟩, ⟨(some p64), .load1 (.t p63), none, 0⟩, ⟨(some p65), .loadN 2 (.t p7), none, 0⟩, ⟨(some p66), .load1 (.t p10), none, 0⟩, ⟨none, .mapUpdate (.leaves [0, 1]) (.t p64) (.t p65) (.t p66), none, 0⟩]) [p10] (.seq (.ops [⟨(some p67), .load1 (.t p10), none, 0⟩, ⟨(some p6), .mv (.t p67), none, 0⟩]) [p6] .ret))
def c_i : CC := (.seq (.ops [⟨(some p3), .box (.t p0), none, 0⟩, ⟨(some p6), .mv (.c (.int .i64 0)), none, 0⟩]) [p1, p2, p3, p6] (.seq (.ops [⟨(some p14), .mv (.t p1), none, 0⟩, ⟨(some p15), .mv (.t p2), none, 0⟩, ⟨(some p16), .build [(.int .i64 0), (.int .i64 0)] [(0, 1, (.t p14)), (1, 1, (.t p15))], none, 0⟩, ⟨(some p7), .alloc [(.int .i64 0), (.int .i64 0)], none, 0⟩, ⟨none, .store 2 (.t p7) (.t p16), none, 0⟩]) [p1, p2, p3, p6, p7] (.seq (.seq (.ops [⟨(some p18), .fieldAddr 4 (.t p3), none, 0⟩, ⟨(some p19), .load1 (.t p18), none, 0⟩, ⟨(some p20), .loadN 2 (.t p7), none, 0⟩, ⟨(some p21), .lookup (.leaves [0, 1]) (.int .i64 0) true (.t p19) (.t p20), none, 0⟩, ⟨(some p17), .mv (.t p21), none, 0⟩, ⟨(some p22), .extract (.t p17) 0, none, 0⟩, ⟨(some p23), .extract (.t p17) 1, none, 0⟩, ⟨(some p8), .mv (.t p22), none, 0⟩, ⟨(some p9), .mv (.t p23), none, 0⟩]) [p1, p2, p3, p6, p7, p8, p9] (.seq (.ops [⟨(some p24), .mv (.t p9), none, 0⟩]) [p1, p2, p3, p6, p7, p8, p24] (.cond (.t p24) (.seq (.ops [⟨(some p25), .mv (.t p8), none, 0⟩, ⟨(some p6), .mv (.t p25), none, 0⟩]) [p6] .ret) .skip))) [p1, p2, p3, p6, p7] (.seq (.ops [⟨(some p10), .alloc [(.int .i64 0)], none, 0⟩, ⟨none, .store 1 (.t p10) (.c (.int .i64 1)), none, 0⟩]) [p1, p2, p3, p6, p7, p10] (.seq (.seq (.draw [⟨(some p27), .fieldAddr 0 (.t p3), none, 0⟩, ⟨(some p28), .load1 (.t p27), none, 0⟩, ⟨(some p29), .fieldAddr 1 (.t p3), none, 0⟩, ⟨(some p30), .loadN 3 (.t p29), none, 0⟩, ⟨(some p31), .mv (.t p1), none, 0⟩, ⟨(some p32), .mv (.t p2), none, 0⟩, ⟨(some p33), .fieldAddr 0 (.t p3), none, 0⟩, ⟨(some p34), .load1 (.t p33), none, 0⟩, ⟨(some p35), .loadN 2 (.t p7), none, 0⟩, ⟨(some p36), .lookup (.leaves [0, 1]) (.int .i64 0) false (.t p34) (.t p35), none, 0⟩, ⟨(some p37), .bin .sub .other (.t p36) (.c (.int .i64 1)), none, 0⟩, ⟨(some p38), .call (.c (.func (.func n_g) #[] #[])) [(.t p28), (.t p30), (.t p31), (.t p32), (.t p37)], none, 0⟩, ⟨(some p26), .mv (.t p38), none, 1⟩, ⟨(some p39), .extract (.t p26) 0, none, 1⟩, ⟨(some p11), .alloc [(.int .i64 0), (.int .i64 0), (.int .i64 0)], none, 0⟩, ⟨none, .store 3 (.t p11) (.t p39), none, 1⟩, ⟨(some p40), .extract (.t p26) 1, none, 1⟩, ⟨(some p12), .mv (.t p40), none, 2⟩]) [p1, p2, p3, p6, p7, p10, p11, p12] (.seq (.ops [⟨(some p41), .mv (.t p12), none, 0⟩]) [p1, p2, p3, p6, p7, p10, p11, p41] (.cond (.t p41) (.seq (.ops [⟨none, .store 1 (.t p10) (.c (.int .i64 2)), none, 0⟩]) [p2, p3, p6, p7, p10, p11] (.seq (.ops [⟨(some p42), .fieldAddr 1 (.t p3), none, 0⟩, ⟨(some p43), .loadN 3 (.t p42), none, 0⟩, ⟨(some p44), .mv (.t p2), none, 0⟩, ⟨(some p45), .fieldAddr 2 (.t p11), none, 0⟩, ⟨(some p46), .load1 (.t p45), none, 0⟩, ⟨(some p47), .call (.c (.func (.func n_v) #[] #[])) [(.t p43), (.t p44), (.t p46)], none, 0⟩]) [p3, p6, p7, p10, p11, p47] (.block 0 (.rangeFunc (n_i * 1000 + 1) [p3, p10, p11] (.t p47) [p48] c_i_1 c_i_2)))) (.ops [⟨(some p57), .loadN 5 (.t p3), none, 0⟩, ⟨(some p58), .mv (.t p2), none, 0⟩, ⟨(some p59), .mv (.t p1), none, 0⟩, ⟨(some p60), .call (.c (.func (.func n_i) #[] #[])) [(.t p57), (.t p58), (.t p59)], none, 0⟩, ⟨(some p61), .bin .add .other (.c (.int .i64 1)) (.t p60), none, 0⟩, ⟨(some p62), .blt .min [(.t p61), (.c (.int .i64 3001))], none, 0⟩, ⟨none, .store 1 (.t p10) (.t p62), none, 0⟩])))) [p3, p7, p10] c_i_0)))))
def f_i : zw := ⟨68, [.tmp p6], c_i, none⟩
def c_f_1 : CC := (.ops [⟨(some p10), .mv (.t p43), none, 0⟩])
def c_f_2 : CC := (.block 1 (.draw2 [⟨(some p46), .loadN 5 (.t p3), none, 0⟩, ⟨(some p47), .fieldAddr 1 (.t p7), none, 0⟩, ⟨(some p48), .load1 (.t p47), none, 0⟩, ⟨(some p49), .mv (.t p10), none, 0⟩, ⟨(some p50), .call (.c (.func (.func n_f) #[] #[])) [(.t p46), (.t p48), (.t p49)], none, 0⟩, ⟨(some p44), .fieldAddr 2 (.t p9), none, 0⟩, ⟨(some p45), .load1 (.t p44), none, 0⟩, ⟨(some p51), .blt .len [(.t p45)], none, 0⟩, ⟨(some p52), .buildSlice 1 3 [(.int .i64 0), (.int .i64 0), (.slice none 0 0)] [(0, (.c (.agg ⟨[(.int .i64 0), (.int .i64 0), (.slice none 0 0)]⟩)))], none, 0⟩, ⟨(some p53), .blt (.append 3 40) [(.t p45), (.t p52)], none, 1⟩, ⟨(some p54), .indexAddr 3 (.t p53) (.t p51), none, 2⟩, ⟨(some p55), .fieldAddr 2 (.t p9), none, 2⟩] ⟨none, .store 3 (.t p54) (.t p50), none, 0⟩ ⟨none, .store 1 (.t p55) (.t p53), none, 0⟩))
def zdD : RC := ⟨(n_f * 1000 + 1), [p3, p7, p9], [p43], c_f_1, c_f_2⟩
def c_f_0 : CC := (.seq (.ops [⟨(some p56), .fieldAddr 2 (.t p7), none, 0⟩, ⟨(some p57), .load1 (.t p56), none, 0⟩, ⟨(some p58), .loadN 3 (.t p9), none, 0⟩, ⟨(some p59), .buildSlice 1 3 [(.int .i64 0), (.int .i64 0), (.slice none 0 0)] [(0, (.t p58))], none, 0⟩, ⟨(some p60), .build [(.int .i64 0), (.int .i64 0), (.slice none 0 0)] [(0, 1, (.c (.int .i64 4))), (1, 1, (.t p57)), (2, 1, (.t p59))], none, 0⟩, ⟨none, .store 3 (.t p6) (.t p60), none, 0⟩]) [p6] .ret)
def c_f : CC := (.seq (.ops [⟨(some p3), .box (.t p0), none, 0⟩, ⟨(some p6), .alloc [(.int .i64 0), (.int .i64 0), (.slice none 0 0)], none, 0⟩]) [p1, p2, p3, p6] (.seq (.draw [⟨(some p12), .fieldAddr 0 (.t p3), none, 0⟩, ⟨(some p13), .load1 (.t p12), none, 0⟩, ⟨(some p14), .fieldAddr 1 (.t p3), none, 0⟩, ⟨(some p15), .loadN 3 (.t p14), none, 0⟩, ⟨(some p16), .mv (.t p1), none, 0⟩, ⟨(some p17), .mv (.t p2), none, 0⟩, ⟨(some p18), .fieldAddr 0 (.t p3), none, 0⟩, ⟨(some p19), .load1 (.t p18), none, 0⟩, ⟨(some p20), .mv (.t p1), none, 0⟩, ⟨(some p21), .mv (.t p2), none, 0⟩, ⟨(some p22), .build [(.int .i64 0), (.int .i64 0)] [(0, 1, (.t p20)), (1, 1, (.t p21))], none, 0⟩, ⟨(some p23), .lookup (.leaves [0, 1]) (.int .i64 0) false (.t p19) (.t p22), none, 0⟩, ⟨(some p24), .bin .sub .other (.t p23) (.c (.int .i64 1)), none, 0⟩, ⟨(some p25), .call (.c (.func (.func n_g) #[] #[])) [(.t p13), (.t p15), (.t p16), (.t p17), (.t p24)], none, 0⟩, ⟨(some p11), .mv (.t p25), none, 1⟩, ⟨(some p26), .extract (.t p11) 0, none, 1⟩, ⟨(some p7), .alloc [(.int .i64 0), (.int .i64 0), (.int .i64 0)], none, 0⟩, ⟨none, .store 3 (.t p7) (.t p26), none, 1⟩, ⟨(some p27), .extract (.t p11) 1, none, 1⟩, ⟨(some p8), .mv (.t p27), none, 2⟩]) [p1, p2, p3, p6, p7, p8] (.seq (.seq (.ops [⟨(some p28), .mv (.t p8), none, 0⟩, ⟨(some p29), .un .not (.t p28), none, 0⟩]) [p1, p2, p3, p6, p7, p29] (.cond (.t p29) (.seq (.ops [⟨(some p30), .loadN 5 (.t p3), none, 0⟩, ⟨(some p31), .mv (.t p2), none, 0⟩, ⟨(some p32), .mv (.t p1), none, 0⟩, ⟨(some p33), .call (.c (.func (.func n_f) #[] #[])) [(.t p30), (.t p31), (.t p32)], none, 0⟩, ⟨(some p34), .buildSlice 1 3 [(.int .i64 0), (.int .i64 0), (.slice none 0 0)] [(0, (.t p33))], none, 0⟩, ⟨(some p35), .build [(.int .i64 0), (.int .i64 0), (.slice none 0 0)] [(0, 1, (.c (.int .i64 2))), (2, 1, (.t p34))], none, 0⟩, ⟨none, .store 3 (.t p6) (.t p35), none, 0⟩]) [p6] .ret) .skip)) [p2, p3, p6, p7] (.seq (.ops [⟨(some p36), .build [(.int .i64 0), (.int .i64 0), (.slice none 0 0)] [(0, 1, (.c (.int .i64 3)))], none, 0⟩, ⟨(some p9), .alloc [(.int .i64 0), (.int .i64 0), (.slice none 0 0)], none, 0⟩, ⟨none, .store 3 (.t p9) (.t p36), none, 0⟩]) [p2, p3, p6, p7, p9] (.seq (.seq (.ops [⟨(some p37), .fieldAddr 1 (.t p3), none, 0⟩, ⟨(some p38), .loadN 3 (.t p37), none, 0⟩, ⟨(some p39), .mv (.t p2), none, 0⟩, ⟨(some p40), .fieldAddr 2 (.t p7), none, 0⟩, ⟨(some p41), .load1 (.t p40), none, 0⟩, ⟨(some p42), .call (.c (.func (.func n_v) #[] #[])) [(.t p38), (.t p39), (.t p41)], none, 0⟩]) [p3, p6, p7, p9, p42] (.block 0 (.rangeFunc (n_f * 1000 + 1) [p3, p7, p9] (.t p42) [p43] c_f_1 c_f_2))) [p6, p7, p9] c_f_0)))))
def f_f : zw := ⟨61, [.cell (some 3) p6], c_f, none⟩
def c_J : CC := (.seq (.ops [⟨(some p2), .box (.t p0), none, 0⟩, ⟨(some p3), .box (.t p1), none, 0⟩, ⟨(some p4), .mv (.c (.bool false)), none, 0⟩]) [p2, p3] (.seq (.ops [⟨(some p5), .loadN 3 (.t p2), none, 0⟩, ⟨(some p6), .call (.c (.func (.func n_m) #[] #[])) [(.t p5)], none, 0⟩, ⟨(some p7), .bin .eql .other (.t p6) (.c (.int .i64 0)), none, 0⟩, ⟨(some p8), .mv (.t p7), none, 0⟩, ⟨(some p9), .loadN 3 (.t p3), (some (p8, true)), 0⟩, ⟨(some p10), .call (.c (.func (.func n_m) #[] #[])) [(.t p9)], (some (p8, true)), 0⟩, ⟨(some p11), .bin .eql .other (.t p10) (.c (.int .i64 0)), (some (p8, true)), 0⟩, ⟨(some p12), .pick (.t p8) (.t p11) (.c (.bool false)), none, 0⟩, ⟨(some p13), .mv (.t p12), none, 0⟩, ⟨(some p14), .fieldAddr 1 (.t p2), (some (p13, true)), 0⟩, ⟨(some p15), .load1 (.t p14), (some (p13, true)), 0⟩, ⟨(some p16), .fieldAddr 1 (.t p3), (some (p13, true)), 0⟩, ⟨(some p17), .load1 (.t p16), (some (p13, true)), 0⟩, ⟨(some p18), .bin .eql .other (.t p15) (.t p17), (some (p13, true)), 0⟩, ⟨(some p19), .pick (.t p13) (.t p18) (.c (.bool false)), none, 0⟩, ⟨(some p4), .mv (.t p19), none, 0⟩]) [p4] .ret))
def f_J : zw := ⟨20, [.tmp p4], c_J, none⟩
def c_k_6 : CC := (.seq (.ops [⟨(some p35), .load1 (.t p10), none, 0⟩, ⟨(some p36), .loadN 2 (.t p15), none, 0⟩, ⟨(some p37), .lookup (.leaves [0, 1]) (.bool false) false (.t p35) (.t p36), none, 0⟩]) [p37] (.cond (.t p37) (.exit 1) .skip))
def c_k_4 : CC := (.ops [⟨(some p14), .mv (.t p25), none, 0⟩])
def c_k_5 : CC := (.block 3 (.seq (.ops [⟨(some p26), .fieldAddr 1 (.t p13), none, 0⟩, ⟨(some p27), .load1 (.t p26), none, 0⟩, ⟨(some p28), .mv (.t p14), none, 0⟩, ⟨(some p29), .build [(.int .i64 0), (.int .i64 0)] [(0, 1, (.t p27)), (1, 1, (.t p28))], none, 0⟩, ⟨(some p15), .alloc [(.int .i64 0), (.int .i64 0)], none, 0⟩, ⟨none, .store 2 (.t p15) (.t p29), none, 0⟩]) [p10, p11, p13, p14, p15] (.seq (.seq (.ops [⟨(some p30), .load1 (.t p11), none, 0⟩]) [p10, p13, p14, p15, p30] (.cond (.t p30) (.ops [⟨(some p31), .mv (.t p14), none, 0⟩, ⟨(some p32), .fieldAddr 1 (.t p13), none, 0⟩, ⟨(some p33), .load1 (.t p32), none, 0⟩, ⟨(some p34), .build [(.int .i64 0), (.int .i64 0)] [(0, 1, (.t p31)), (1, 1, (.t p33))], none, 0⟩, ⟨none, .store 2 (.t p15) (.t p34), none, 0⟩]) .skip)) [p10, p15] c_k_6)))
def zfh : RC := ⟨(n_k * 1000 + 4), [p10, p11, p13], [p25], c_k_4, c_k_5⟩
def c_k_3 : CC := (.seq (.ops [⟨none, .store 1 (.t p12) (.c (.bool false)), none, 0⟩]) [] .ret)
def c_k_1 : CC := (.ops [⟨(some p13), .alloc [(.int .i64 0), (.int .i64 0), (.int .i64 0)], none, 0⟩, ⟨none, .store 3 (.t p13) (.t p19), none, 0⟩])
def c_k_2 : CC := (.block 1 (.seq (.seq (.ops [⟨(some p20), .loadN 3 (.t p7), none, 0⟩, ⟨(some p21), .load1 (.t p9), none, 0⟩, ⟨(some p22), .fieldAddr 2 (.t p13), none, 0⟩, ⟨(some p23), .load1 (.t p22), none, 0⟩, ⟨(some p24), .call (.c (.func (.func n_v) #[] #[])) [(.t p20), (.t p21), (.t p23)], none, 0⟩]) [p10, p11, p12, p13, p24] (.block 2 (.rangeFunc (n_k * 1000 + 4) [p10, p11, p13] (.t p24) [p25] c_k_4 c_k_5))) [p12] c_k_3))
def zfi : RC := ⟨(n_k * 1000 + 1), [p7, p9, p10, p11, p12], [p19], c_k_1, c_k_2⟩
def c_k_0 : CC := (.seq (.ops [⟨none, .store 1 (.t p12) (.c (.bool true)), none, 0⟩]) [p12] .ret)
def c_k : CC := (.seq (.ops [⟨(some p6), .box (.t p0), none, 0⟩, ⟨(some p7), .box (.t p1), none, 0⟩, ⟨(some p9), .box (.t p3), none, 0⟩, ⟨(some p10), .box (.t p4), none, 0⟩, ⟨(some p11), .box (.t p5), none, 0⟩, ⟨(some p12), .alloc [(.bool false)], none, 0⟩]) [p2, p6, p7, p9, p10, p11, p12] (.seq .skip [p2, p6, p7, p9, p10, p11, p12] (.seq (.seq (.ops [⟨(some p16), .loadN 3 (.t p6), none, 0⟩, ⟨(some p17), .mv (.t p2), none, 0⟩, ⟨(some p18), .call (.c (.func (.func n_y) #[] #[])) [(.t p16), (.t p17)], none, 0⟩]) [p7, p9, p10, p11, p12, p18] (.block 0 (.rangeFunc (n_k * 1000 + 1) [p7, p9, p10, p11, p12] (.t p18) [p19] c_k_1 c_k_2))) [p12] c_k_0)))
def f_k : zw := ⟨38, [.cell none p12], c_k, none⟩
def c_o_1 : CC := (.cond (.t p26) (.ops [⟨(some p7), .mv (.c (.int .i64 1)), none, 0⟩]) (.seq (.ops [⟨(some p30), .bin .eql .other (.t p23) (.c (.int .i64 3)), none, 0⟩, ⟨(some p29), .mv (.t p30), none, 0⟩]) [p2, p3, p4, p7, p29] (.cond (.t p29) .skip (.seq (.ops [⟨(some p6), .mv (.c (.bool false)), none, 0⟩]) [p6] .ret))))
def c_o_3 : CC := (.seq (.ops [⟨(some p62), .bin .lss .other (.t p61) (.t p60), none, 0⟩]) [p2, p3, p59, p60, p61, p62] (.seq (.cond (.t p62) .skip (.exit 1)) [p2, p3, p59, p60, p61] (.seq (.block 2 (.seq (.ops [⟨(some p63), .indexAddr 3 (.t p59) (.t p61), none, 0⟩, ⟨(some p64), .loadN 3 (.t p63), none, 0⟩, ⟨(some p9), .alloc [(.int .i64 0), (.int .i64 0), (.slice none 0 0)], none, 0⟩, ⟨none, .store 3 (.t p9) (.t p64), none, 0⟩]) [p2, p3, p9, p59, p60, p61] (.seq (.ops [⟨(some p65), .loadN 3 (.t p3), none, 0⟩, ⟨(some p66), .loadN 3 (.t p9), none, 0⟩, ⟨(some p67), .mv (.t p2), none, 0⟩, ⟨(some p68), .call (.c (.func (.func n_o) #[] #[])) [(.t p65), (.t p66), (.t p67)], none, 0⟩, ⟨(some p69), .un .not (.t p68), none, 0⟩]) [p2, p3, p59, p60, p61, p69] (.cond (.t p69) (.seq (.ops [⟨(some p6), .mv (.c (.bool false)), none, 0⟩]) [p6] .ret) .skip)))) [p2, p3, p59, p60, p61] (.ops [⟨(some p70), .bin .add .other (.t p61) (.c (.int .i64 1)), none, 0⟩, ⟨(some p61), .mv (.t p70), none, 0⟩]))))
def c_o_2 : CC := (.seq (.ops [⟨(some p6), .mv (.c (.bool true)), none, 0⟩]) [p6] .ret)
def c_o_0 : CC := (.seq (.seq (.ops [⟨(some p31), .fieldAddr 2 (.t p4), none, 0⟩, ⟨(some p32), .load1 (.t p31), none, 0⟩, ⟨(some p33), .blt .len [(.t p32)], none, 0⟩, ⟨(some p34), .mv (.t p7), none, 0⟩, ⟨(some p35), .bin .neq .other (.t p33) (.t p34), none, 0⟩, ⟨(some p36), .mv (.t p35), none, 0⟩, ⟨(some p37), .fieldAddr 1 (.t p4), (some (p36, false)), 0⟩, ⟨(some p38), .load1 (.t p37), (some (p36, false)), 0⟩, ⟨(some p39), .bin .neq .other (.t p38) (.c (.int .i64 0)), (some (p36, false)), 0⟩, ⟨(some p40), .mv (.t p39), (some (p36, false)), 0⟩, ⟨(some p41), .fieldAddr 0 (.t p4), (some (p40, true)), 0⟩, ⟨(some p42), .load1 (.t p41), (some (p40, true)), 0⟩, ⟨(some p43), .bin .neq .other (.t p42) (.c (.int .i64 4)), (some (p40, true)), 0⟩, ⟨(some p44), .pick (.t p40) (.t p43) (.c (.bool false)), (some (p36, false)), 0⟩, ⟨(some p45), .pick (.t p36) (.c (.bool true)) (.t p44), none, 0⟩, ⟨(some p46), .mv (.t p45), none, 0⟩, ⟨(some p47), .fieldAddr 1 (.t p4), (some (p46, false)), 0⟩, ⟨(some p48), .load1 (.t p47), (some (p46, false)), 0⟩, ⟨(some p49), .bin .lss .other (.t p48) (.c (.int .i64 0)), (some (p46, false)), 0⟩, ⟨(some p50), .pick (.t p46) (.c (.bool true)) (.t p49), none, 0⟩, ⟨(some p51), .mv (.t p50), none, 0⟩, ⟨(some p52), .fieldAddr 1 (.t p4), (some (p51, false)), 0⟩, ⟨(some p53), .load1 (.t p52), (some (p51, false)), 0⟩, ⟨(some p54), .fieldAddr 1 (.t p3), (some (p51, false)), 0⟩, ⟨(some p55), .load1 (.t p54), (some (p51, false)), 0⟩, ⟨(some p56), .bin .geq .other (.t p53) (.t p55), (some (p51, false)), 0⟩, ⟨(some p57), .pick (.t p51) (.c (.bool true)) (.t p56), none, 0⟩]) [p2, p3, p4, p57] (.cond (.t p57) (.seq (.ops [⟨(some p6), .mv (.c (.bool false)), none, 0⟩]) [p6] .ret) .skip)) [p2, p3, p4] (.seq (.seq (.ops [⟨(some p58), .fieldAddr 2 (.t p4), none, 0⟩, ⟨(some p59), .load1 (.t p58), none, 0⟩, ⟨(some p60), .blt .len [(.t p59)], none, 0⟩, ⟨(some p61), .mv (.c (.int .i64 0)), none, 0⟩]) [p2, p3, p59, p60, p61] (.block 1 (.loop [p2, p3, p59, p60, p61] c_o_3))) [] c_o_2))
def c_o : CC := (.seq (.ops [⟨(some p3), .box (.t p0), none, 0⟩, ⟨(some p4), .box (.t p1), none, 0⟩, ⟨(some p6), .mv (.c (.bool false)), none, 0⟩]) [p2, p3, p4] (.seq (.seq (.ops [⟨(some p10), .mv (.t p2), none, 0⟩, ⟨(some p11), .nilCheck (.t p10), none, 0⟩, ⟨(some p12), .load1 (.t p11), none, 0⟩, ⟨(some p13), .bin .sub .other (.t p12) (.c (.int .i64 1)), none, 0⟩, ⟨(some p14), .nilCheck (.t p10), none, 0⟩, ⟨none, .store 1 (.t p14) (.t p13), none, 0⟩]) [p2, p3, p4] (.seq (.ops [⟨(some p15), .mv (.t p2), none, 0⟩, ⟨(some p16), .nilCheck (.t p15), none, 0⟩, ⟨(some p17), .load1 (.t p16), none, 0⟩, ⟨(some p18), .bin .lss .other (.t p17) (.c (.int .i64 0)), none, 0⟩]) [p2, p3, p4, p18] (.cond (.t p18) (.seq (.ops [⟨(some p6), .mv (.c (.bool false)), none, 0⟩]) [p6] .ret) .skip))) [p2, p3, p4] (.seq (.ops [⟨(some p19), .fieldAddr 2 (.t p4), none, 0⟩, ⟨(some p20), .load1 (.t p19), none, 0⟩, ⟨(some p21), .blt .len [(.t p20)], none, 0⟩, ⟨(some p7), .mv (.t p21), none, 0⟩]) [p2, p3, p4, p7] (.seq (.seq (.ops [⟨(some p22), .fieldAddr 0 (.t p4), none, 0⟩, ⟨(some p23), .load1 (.t p22), none, 0⟩]) [p2, p3, p4, p7, p23] (.block 0 (.seq (.ops [⟨(some p25), .bin .eql .other (.t p23) (.c (.int .i64 1)), none, 0⟩, ⟨(some p24), .mv (.t p25), none, 0⟩]) [p2, p3, p4, p7, p23, p24] (.cond (.t p24) (.ops [⟨(some p7), .mv (.c (.int .i64 0)), none, 0⟩]) (.seq (.seq (.ops [⟨(some p27), .bin .eql .other (.t p23) (.c (.int .i64 2)), none, 0⟩, ⟨(some p26), .mv (.t p27), none, 0⟩]) [p2, p3, p4, p7, p23, p26] (.cond (.t p26) .skip (.ops [⟨(some p28), .bin .eql .other (.t p23) (.c (.int .i64 4)), none, 0⟩, ⟨(some p26), .mv (.t p28), none, 0⟩]))) [p2, p3, p4, p7, p23, p26] c_o_1))))) [p2, p3, p4, p7] c_o_0))))
def f_o : zw := ⟨71, [.tmp p6], c_o, none⟩
def c_h_1 : CC := (.seq (.ops [⟨(some p68), .bin .lss .other (.t p67) (.t p66), none, 0⟩]) [p5, p65, p66, p67, p68] (.seq (.cond (.t p68) .skip (.exit 7)) [p5, p65, p66, p67] (.seq (.block 8 (.seq (.ops [⟨(some p69), .mv (.t p67), none, 0⟩, ⟨(some p70), .indexAddr 1 (.t p65) (.t p67), none, 0⟩, ⟨(some p71), .load1 (.t p70), none, 0⟩, ⟨(some p6), .mv (.t p69), none, 0⟩, ⟨(some p7), .mv (.t p71), none, 0⟩]) [p5, p6, p7, p65, p66, p67] (.ops [⟨(some p72), .mv (.t p5), none, 0⟩, ⟨(some p73), .mv (.t p6), none, 0⟩, ⟨(some p74), .mv (.t p7), none, 0⟩, ⟨(some p75), .un .not (.t p74), none, 0⟩, ⟨(some p76), .indexAddr 1 (.t p72) (.t p73), none, 0⟩, ⟨none, .store 1 (.t p76) (.t p75), none, 0⟩]))) [p5, p65, p66, p67] (.ops [⟨(some p77), .bin .add .other (.t p67) (.c (.int .i64 1)), none, 0⟩, ⟨(some p67), .mv (.t p77), none, 0⟩]))))
def c_h_2 : CC := (.seq (.ops [⟨(some p90), .bin .lss .other (.t p89) (.t p88), none, 0⟩]) [p3, p5, p8, p87, p88, p89, p90] (.seq (.cond (.t p90) .skip (.exit 9)) [p3, p5, p8, p87, p88, p89] (.seq (.block 10 (.seq (.ops [⟨(some p91), .indexAddr 3 (.t p87) (.t p89), none, 0⟩, ⟨(some p92), .loadN 3 (.t p91), none, 0⟩, ⟨(some p10), .alloc [(.int .i64 0), (.int .i64 0), (.int .i64 0)], none, 0⟩, ⟨none, .store 3 (.t p10) (.t p92), none, 0⟩]) [p3, p5, p8, p10, p87, p88, p89] (.draw [⟨(some p93), .mv (.t p5), none, 0⟩, ⟨(some p94), .fieldAddr 0 (.t p10), none, 0⟩, ⟨(some p95), .load1 (.t p94), none, 0⟩, ⟨(some p96), .mv (.t p5), none, 0⟩, ⟨(some p97), .fieldAddr 0 (.t p10), none, 0⟩, ⟨(some p98), .load1 (.t p97), none, 0⟩, ⟨(some p99), .indexAddr 1 (.t p96) (.t p98), none, 0⟩, ⟨(some p100), .load1 (.t p99), none, 0⟩, ⟨(some p101), .mv (.t p100), none, 0⟩, ⟨(some p102), .fieldAddr 2 (.t p10), (some (p101, false)), 0⟩, ⟨(some p103), .load1 (.t p102), (some (p101, false)), 0⟩, ⟨(some p104), .fieldAddr 1 (.t p3), (some (p101, false)), 0⟩, ⟨(some p105), .load1 (.t p104), (some (p101, false)), 0⟩, ⟨(some p106), .bin .eql .other (.t p103) (.t p105), (some (p101, false)), 0⟩, ⟨(some p107), .mv (.t p106), (some (p101, false)), 0⟩, ⟨(some p108), .mv (.t p8), (some (p107, true)), 0⟩, ⟨(some p109), .fieldAddr 1 (.t p10), (some (p107, true)), 0⟩, ⟨(some p110), .load1 (.t p109), (some (p107, true)), 0⟩, ⟨(some p111), .indexAddr 1 (.t p108) (.t p110), (some (p107, true)), 0⟩, ⟨(some p112), .load1 (.t p111), (some (p107, true)), 0⟩, ⟨(some p113), .pick (.t p107) (.t p112) (.c (.bool false)), (some (p101, false)), 0⟩, ⟨(some p114), .pick (.t p101) (.c (.bool true)) (.t p113), none, 0⟩, ⟨(some p115), .indexAddr 1 (.t p93) (.t p95), none, 0⟩, ⟨none, .store 1 (.t p115) (.t p114), none, 0⟩]))) [p3, p5, p8, p87, p88, p89] (.ops [⟨(some p116), .bin .add .other (.t p89) (.c (.int .i64 1)), none, 0⟩, ⟨(some p89), .mv (.t p116), none, 0⟩]))))
def c_h_4 : CC := (.seq (.ops [⟨(some p24), .bin .lss .other (.t p23) (.t p22), none, 0⟩]) [p2, p3, p5, p22, p23, p24] (.seq (.cond (.t p24) .skip (.exit 1)) [p2, p3, p5, p22, p23] (.seq (.block 2 (.seq (.ops [⟨(some p25), .mv (.t p23), none, 0⟩, ⟨(some p11), .mv (.t p25), none, 0⟩]) [p2, p3, p5, p11, p22, p23] (.ops [⟨(some p26), .mv (.t p5), none, 0⟩, ⟨(some p27), .mv (.t p11), none, 0⟩, ⟨(some p28), .indexAddr 1 (.t p26) (.t p27), none, 0⟩, ⟨none, .store 1 (.t p28) (.c (.bool true)), none, 0⟩]))) [p2, p3, p5, p22, p23] (.ops [⟨(some p29), .bin .add .other (.t p23) (.c (.int .i64 1)), none, 0⟩, ⟨(some p23), .mv (.t p29), none, 0⟩]))))
def c_h_7 : CC := (.seq (.ops [⟨(some p42), .bin .lss .other (.t p41) (.t p40), none, 0⟩]) [p2, p5, p31, p32, p33, p39, p40, p41, p42] (.seq (.cond (.t p42) .skip (.exit 5)) [p2, p5, p31, p32, p33, p39, p40, p41] (.seq (.block 6 (.seq (.ops [⟨(some p43), .mv (.t p41), none, 0⟩, ⟨(some p44), .indexAddr 1 (.t p39) (.t p41), none, 0⟩, ⟨(some p45), .load1 (.t p44), none, 0⟩, ⟨(some p14), .mv (.t p43), none, 0⟩, ⟨(some p15), .mv (.t p45), none, 0⟩]) [p2, p5, p14, p15, p31, p32, p33, p39, p40, p41] (.ops [⟨(some p46), .mv (.t p5), none, 0⟩, ⟨(some p47), .mv (.t p14), none, 0⟩, ⟨(some p48), .mv (.t p5), none, 0⟩, ⟨(some p49), .mv (.t p14), none, 0⟩, ⟨(some p50), .indexAddr 1 (.t p48) (.t p49), none, 0⟩, ⟨(some p51), .load1 (.t p50), none, 0⟩, ⟨(some p52), .mv (.t p51), none, 0⟩, ⟨(some p53), .mv (.t p15), (some (p52, true)), 0⟩, ⟨(some p54), .pick (.t p52) (.t p53) (.c (.bool false)), none, 0⟩, ⟨(some p55), .indexAddr 1 (.t p46) (.t p47), none, 0⟩, ⟨none, .store 1 (.t p55) (.t p54), none, 0⟩]))) [p2, p5, p31, p32, p33, p39, p40, p41] (.ops [⟨(some p56), .bin .add .other (.t p41) (.c (.int .i64 1)), none, 0⟩, ⟨(some p41), .mv (.t p56), none, 0⟩]))))
def c_h_6 : CC := (.ops [⟨(some p57), .bin .add .other (.t p33) (.c (.int .i64 1)), none, 0⟩, ⟨(some p33), .mv (.t p57), none, 0⟩])
def c_h_5 : CC := (.seq (.ops [⟨(some p34), .bin .lss .other (.t p33) (.t p32), none, 0⟩]) [p2, p5, p31, p32, p33, p34] (.seq (.cond (.t p34) .skip (.exit 3)) [p2, p5, p31, p32, p33] (.seq (.block 4 (.seq (.ops [⟨(some p35), .indexAddr 3 (.t p31) (.t p33), none, 0⟩, ⟨(some p36), .loadN 3 (.t p35), none, 0⟩, ⟨(some p13), .alloc [(.int .i64 0), (.int .i64 0), (.slice none 0 0)], none, 0⟩, ⟨none, .store 3 (.t p13) (.t p36), none, 0⟩]) [p2, p5, p13, p31, p32, p33] (.seq (.ops [⟨(some p37), .loadN 3 (.t p2), none, 0⟩, ⟨(some p38), .loadN 3 (.t p13), none, 0⟩, ⟨(some p39), .call (.c (.func (.func n_h) #[] #[])) [(.t p37), (.t p38)], none, 0⟩, ⟨(some p40), .blt .len [(.t p39)], none, 0⟩, ⟨(some p41), .mv (.c (.int .i64 0)), none, 0⟩]) [p2, p5, p31, p32, p33, p39, p40, p41] (.block 5 (.loop [p2, p5, p31, p32, p33, p39, p40, p41] c_h_7))))) [p2, p5, p31, p32, p33] c_h_6)))
def c_h_3 : CC := (.seq (.ops [⟨(some p30), .fieldAddr 2 (.t p3), none, 0⟩, ⟨(some p31), .load1 (.t p30), none, 0⟩, ⟨(some p32), .blt .len [(.t p31)], none, 0⟩, ⟨(some p33), .mv (.c (.int .i64 0)), none, 0⟩]) [p2, p5, p31, p32, p33] (.block 3 (.loop [p2, p5, p31, p32, p33] c_h_5)))
def zfl : CC := (.seq (.ops [⟨(some p117), .mv (.t p5), none, 0⟩, ⟨(some p4), .mv (.t p117), none, 0⟩]) [p4] .ret)
def c_h : CC := (.seq (.ops [⟨(some p2), .box (.t p0), none, 0⟩, ⟨(some p3), .box (.t p1), none, 0⟩, ⟨(some p4), .mv (.c (.slice none 0 0)), none, 0⟩]) [p2, p3] (.seq (.ops [⟨(some p16), .fieldAddr 0 (.t p2), none, 0⟩, ⟨(some p17), .load1 (.t p16), none, 0⟩, ⟨(some p18), .makeSlice 1 1 [(.bool false)] (.t p17) (.t p17), none, 0⟩, ⟨(some p5), .mv (.t p18), none, 0⟩]) [p2, p3, p5] (.seq (.seq (.ops [⟨(some p19), .fieldAddr 0 (.t p3), none, 0⟩, ⟨(some p20), .load1 (.t p19), none, 0⟩]) [p2, p3, p5, p20] (.block 0 (.seq (.ops [⟨(some p59), .bin .eql .other (.t p20) (.c (.int .i64 2)), none, 0⟩, ⟨(some p58), .mv (.t p59), none, 0⟩]) [p2, p3, p5, p20, p58] (.cond (.t p58) (.seq (.draw [⟨(some p60), .loadN 3 (.t p2), none, 0⟩, ⟨(some p61), .fieldAddr 2 (.t p3), none, 0⟩, ⟨(some p62), .load1 (.t p61), none, 0⟩, ⟨(some p63), .indexAddr 3 (.t p62) (.c (.int .i64 0)), none, 0⟩, ⟨(some p64), .loadN 3 (.t p63), none, 0⟩, ⟨(some p65), .call (.c (.func (.func n_h) #[] #[])) [(.t p60), (.t p64)], none, 0⟩, ⟨(some p66), .blt .len [(.t p65)], none, 1⟩, ⟨(some p67), .mv (.c (.int .i64 0)), none, 0⟩]) [p5, p65, p66, p67] (.block 7 (.loop [p5, p65, p66, p67] c_h_1))) (.seq (.ops [⟨(some p79), .bin .eql .other (.t p20) (.c (.int .i64 4)), none, 0⟩, ⟨(some p78), .mv (.t p79), none, 0⟩]) [p2, p3, p5, p78] (.cond (.t p78) (.seq (.draw [⟨(some p80), .loadN 3 (.t p2), none, 0⟩, ⟨(some p81), .fieldAddr 2 (.t p3), none, 0⟩, ⟨(some p82), .load1 (.t p81), none, 0⟩, ⟨(some p83), .indexAddr 3 (.t p82) (.c (.int .i64 0)), none, 0⟩, ⟨(some p84), .loadN 3 (.t p83), none, 0⟩, ⟨(some p85), .call (.c (.func (.func n_h) #[] #[])) [(.t p80), (.t p84)], none, 0⟩, ⟨(some p8), .mv (.t p85), none, 1⟩]) [p2, p3, p5, p8] (.seq (.ops [⟨(some p86), .fieldAddr 2 (.t p2), none, 0⟩, ⟨(some p87), .load1 (.t p86), none, 0⟩, ⟨(some p88), .blt .len [(.t p87)], none, 0⟩, ⟨(some p89), .mv (.c (.int .i64 0)), none, 0⟩]) [p3, p5, p8, p87, p88, p89] (.block 9 (.loop [p3, p5, p8, p87, p88, p89] c_h_2)))) (.seq (.seq (.ops [⟨(some p21), .mv (.t p5), none, 0⟩, ⟨(some p22), .blt .len [(.t p21)], none, 0⟩, ⟨(some p23), .mv (.c (.int .i64 0)), none, 0⟩]) [p2, p3, p5, p22, p23] (.block 1 (.loop [p2, p3, p5, p22, p23] c_h_4))) [p2, p3, p5] c_h_3))))))) [p5] zfl)))
def f_h : zw := ⟨118, [.tmp p4], c_h, none⟩
def zg1 : CC := (.seq (.ops [⟨(some p21), .bin .lss .other (.t p20) (.t p19), none, 0⟩]) [p3, p4, p5, p6, p14, p15, p18, p19, p20, p21] (.seq (.cond (.t p21) .skip (.exit 2)) [p3, p4, p5, p6, p14, p15, p18, p19, p20] (.seq (.block 3 (.seq (.ops [⟨(some p22), .mv (.t p20), none, 0⟩, ⟨(some p23), .indexAddr 1 (.t p18) (.t p20), none, 0⟩, ⟨(some p24), .load1 (.t p23), none, 0⟩, ⟨(some p7), .mv (.t p22), none, 0⟩, ⟨(some p8), .mv (.t p24), none, 0⟩]) [p3, p4, p5, p6, p7, p8, p14, p15, p18, p19, p20] (.seq (.ops [⟨(some p26), .mv (.t p3), none, 0⟩, ⟨(some p27), .mv (.t p8), none, 0⟩, ⟨(some p28), .mv (.t p6), none, 0⟩, ⟨(some p29), .build [(.int .i64 0), (.int .i64 0)] [(0, 1, (.t p27)), (1, 1, (.t p28))], none, 0⟩, ⟨(some p30), .lookup (.leaves [0, 1]) (.int .i64 0) true (.t p26) (.t p29), none, 0⟩, ⟨(some p25), .mv (.t p30), none, 0⟩, ⟨(some p31), .extract (.t p25) 0, none, 0⟩, ⟨(some p32), .extract (.t p25) 1, none, 0⟩, ⟨(some p9), .mv (.t p31), none, 0⟩, ⟨(some p10), .mv (.t p32), none, 0⟩]) [p3, p4, p5, p6, p7, p10, p14, p15, p18, p19, p20] (.seq (.ops [⟨(some p33), .mv (.t p10), none, 0⟩, ⟨(some p34), .un .not (.t p33), none, 0⟩]) [p3, p4, p5, p6, p7, p14, p15, p18, p19, p20, p34] (.cond (.t p34) (.seq (.ops [⟨(some p35), .mv (.t p4), none, 0⟩, ⟨(some p36), .mv (.t p7), none, 0⟩, ⟨(some p37), .buildSlice 1 1 [(.int .i64 0)] [(0, (.t p36))], none, 0⟩, ⟨(some p38), .blt (.append 1 8) [(.t p35), (.t p37)], none, 0⟩, ⟨(some p4), .mv (.t p38), none, 0⟩]) [p3, p4, p5, p14, p15] (.exit 1)) .skip))))) [p3, p4, p5, p6, p14, p15, p18, p19, p20] (.ops [⟨(some p39), .bin .add .other (.t p20) (.c (.int .i64 1)), none, 0⟩, ⟨(some p20), .mv (.t p39), none, 0⟩]))))
def zg2 : CC := (.seq (.ops [⟨(some p40), .mv (.t p4), none, 0⟩, ⟨(some p41), .mv (.t p5), none, 0⟩, ⟨(some p42), .blt .len [(.t p41)], none, 0⟩, ⟨(some p43), .buildSlice 1 1 [(.int .i64 0)] [(0, (.t p42))], none, 0⟩, ⟨(some p44), .blt (.append 1 8) [(.t p40), (.t p43)], none, 0⟩, ⟨(some p4), .mv (.t p44), none, 0⟩]) [p3, p4, p5, p6, p14, p15] (.ops [⟨(some p45), .mv (.t p5), none, 0⟩, ⟨(some p46), .mv (.t p6), none, 0⟩, ⟨(some p47), .buildSlice 1 1 [(.int .i64 0)] [(0, (.t p46))], none, 0⟩, ⟨(some p48), .blt (.append 1 8) [(.t p45), (.t p47)], none, 0⟩, ⟨(some p5), .mv (.t p48), none, 0⟩]))
def ziY : CC := (.ops [⟨(some p49), .bin .add .other (.t p15) (.c (.int .i64 1)), none, 0⟩, ⟨(some p15), .mv (.t p49), none, 0⟩])
def zg3 : CC := (.seq (.ops [⟨(some p16), .bin .lss .other (.t p15) (.t p14), none, 0⟩]) [p3, p4, p5, p14, p15, p16] (.seq (.cond (.t p16) .skip (.exit 0)) [p3, p4, p5, p14, p15] (.seq (.block 1 (.seq (.ops [⟨(some p17), .mv (.t p15), none, 0⟩, ⟨(some p6), .mv (.t p17), none, 0⟩]) [p3, p4, p5, p6, p14, p15] (.seq (.seq (.ops [⟨(some p18), .mv (.t p5), none, 0⟩, ⟨(some p19), .blt .len [(.t p18)], none, 0⟩, ⟨(some p20), .mv (.c (.int .i64 0)), none, 0⟩]) [p3, p4, p5, p6, p14, p15, p18, p19, p20] (.block 2 (.loop [p3, p4, p5, p6, p14, p15, p18, p19, p20] zg1))) [p3, p4, p5, p6, p14, p15] zg2))) [p3, p4, p5, p14, p15] ziY)))
def zij : CC := (.seq (.ops [⟨(some p50), .mv (.t p4), none, 0⟩, ⟨(some p2), .mv (.t p50), none, 0⟩]) [p2] .ret)
def c_d : CC := (.seq (.ops [⟨(some p1), .box (.t p0), none, 0⟩, ⟨(some p2), .mv (.c (.slice none 0 0)), none, 0⟩]) [p1] (.seq (.ops [⟨(some p11), .loadN 3 (.t p1), none, 0⟩, ⟨(some p12), .call (.c (.func (.func n_b) #[] #[])) [(.t p11)], none, 0⟩, ⟨(some p3), .mv (.t p12), none, 0⟩]) [p1, p3] (.seq (.ops [⟨(some p4), .mv (.c (.slice none 0 0)), none, 0⟩, ⟨(some p5), .mv (.c (.slice none 0 0)), none, 0⟩]) [p1, p3, p4, p5] (.seq .skip [p1, p3, p4, p5] (.seq (.seq (.ops [⟨(some p13), .fieldAddr 0 (.t p1), none, 0⟩, ⟨(some p14), .load1 (.t p13), none, 0⟩, ⟨(some p15), .mv (.c (.int .i64 0)), none, 0⟩]) [p3, p4, p5, p14, p15] (.block 0 (.loop [p3, p4, p5, p14, p15] zg3))) [p4] zij)))))
def f_d : zw := ⟨51, [.tmp p2], c_d, none⟩
def c_y : CC := (.seq (.ops [⟨(some p2), .box (.t p0), none, 0⟩, ⟨(some p3), .box (.t p1), none, 0⟩, ⟨(some p4), .mv (.c .nilFunc), none, 0⟩]) [p2, p3] (.seq (.ops [⟨(some p5), .makeFunc (.func n_x) [] [(.t p2), (.t p3)], none, 0⟩, ⟨(some p4), .mv (.t p5), none, 0⟩]) [p4] .ret))
def f_y : zw := ⟨6, [.tmp p4], c_y, none⟩
def c_z : CC := (.seq (.ops [⟨(some p4), .mv (.c (.int .i64 0)), none, 0⟩]) [p0, p1] (.seq (.ops [⟨(some p7), .mv (.t p0), none, 0⟩, ⟨(some p8), .call (.c (.func (.func n_D) #[] #[])) [(.t p7)], none, 0⟩, ⟨(some p5), .mv (.t p8), none, 0⟩]) [p0, p1, p5] (.seq (.ops [⟨(some p9), .mv (.t p1), none, 0⟩, ⟨(some p10), .call (.c (.func (.func n_D) #[] #[])) [(.t p9)], none, 0⟩, ⟨(some p6), .mv (.t p10), none, 0⟩]) [p0, p1, p5, p6] (.seq (.seq (.ops [⟨(some p11), .mv (.t p5), none, 0⟩]) [p0, p1, p6, p11] (.cond (.t p11) (.seq (.seq (.ops [⟨(some p12), .mv (.t p6), none, 0⟩]) [p12] (.cond (.t p12) (.seq (.ops [⟨(some p4), .mv (.c (.int .i64 0)), none, 0⟩]) [p4] .ret) .skip)) [] (.seq (.ops [⟨(some p4), .mv (.c (.int .i64 (-1))), none, 0⟩]) [p4] .ret)) .skip)) [p0, p1, p6] (.seq (.seq (.ops [⟨(some p13), .mv (.t p6), none, 0⟩]) [p0, p1, p13] (.cond (.t p13) (.seq (.ops [⟨(some p4), .mv (.c (.int .i64 1)), none, 0⟩]) [p4] .ret) .skip)) [p0, p1] (.seq (.seq (.ops [⟨(some p14), .mv (.t p0), none, 0⟩, ⟨(some p15), .mv (.t p1), none, 0⟩, ⟨(some p16), .bin .lss .other (.t p14) (.t p15), none, 0⟩]) [p0, p1, p16] (.cond (.t p16) (.seq (.ops [⟨(some p4), .mv (.c (.int .i64 (-1))), none, 0⟩]) [p4] .ret) .skip)) [p0, p1] (.seq (.seq (.ops [⟨(some p17), .mv (.t p0), none, 0⟩, ⟨(some p18), .mv (.t p1), none, 0⟩, ⟨(some p19), .bin .gtr .other (.t p17) (.t p18), none, 0⟩]) [p19] (.cond (.t p19) (.seq (.ops [⟨(some p4), .mv (.c (.int .i64 1)), none, 0⟩]) [p4] .ret) .skip)) [] (.seq (.ops [⟨(some p4), .mv (.c (.int .i64 0)), none, 0⟩]) [p4] .ret))))))))
def f_z : zw := ⟨20, [.tmp p4], c_z, none⟩
def zih : CC := (.seq (.ops [⟨(some p9), .bin .lss .other (.t p8) (.t p7), none, 0⟩]) [p3, p6, p7, p8, p9] (.seq (.cond (.t p9) .skip (.exit 0)) [p3, p6, p7, p8] (.seq (.block 1 (.seq (.ops [⟨(some p10), .indexAddr 1 (.t p6) (.t p8), none, 0⟩, ⟨(some p11), .load1 (.t p10), none, 0⟩, ⟨(some p5), .mv (.t p11), none, 0⟩]) [p3, p5, p6, p7, p8] (.seq (.ops [⟨(some p12), .mv (.t p5), none, 0⟩, ⟨(some p13), .mv (.t p3), none, 0⟩, ⟨(some p14), .bin .neq .other (.t p12) (.t p13), none, 0⟩]) [p3, p5, p6, p7, p8, p14] (.cond (.t p14) (.seq (.ops [⟨(some p15), .mv (.t p5), none, 0⟩, ⟨(some p2), .mv (.t p15), none, 0⟩]) [p2] .ret) .skip)))) [p3, p6, p7, p8] (.ops [⟨(some p16), .bin .add .other (.t p8) (.c (.int .i64 1)), none, 0⟩, ⟨(some p8), .mv (.t p16), none, 0⟩]))))
def zii : CC := (.seq (.ops [⟨(some p17), .mv (.t p3), none, 0⟩, ⟨(some p2), .mv (.t p17), none, 0⟩]) [p2] .ret)
def c_t : CC := (.seq (.ops [⟨(some p2), .mv (.c (.int .i64 0)), none, 0⟩]) [p0] (.seq (.ops [⟨(some p3), .mv (.c (.int .i64 0)), none, 0⟩]) [p0, p3] (.seq (.seq (.ops [⟨(some p6), .mv (.t p0), none, 0⟩, ⟨(some p7), .blt .len [(.t p6)], none, 0⟩, ⟨(some p8), .mv (.c (.int .i64 0)), none, 0⟩]) [p3, p6, p7, p8] (.block 0 (.loop [p3, p6, p7, p8] zih))) [p3] zii)))
def f_t : zw := ⟨18, [.tmp p2], c_t, none⟩
def c_g_1 : CC := (.ops [⟨(some p12), .alloc [(.int .i64 0), (.int .i64 0), (.int .i64 0)], none, 0⟩, ⟨none, .store 3 (.t p12) (.t p16), none, 0⟩])
def c_g_2 : CC := (.block 1 (.seq (.ops [⟨(some p17), .load1 (.t p5), none, 0⟩, ⟨(some p18), .loadN 3 (.t p6), none, 0⟩, ⟨(some p19), .loadN 3 (.t p12), none, 0⟩, ⟨(some p20), .load1 (.t p8), none, 0⟩, ⟨(some p21), .load1 (.t p9), none, 0⟩, ⟨(some p22), .call (.c (.func (.func n_j) #[] #[])) [(.t p17), (.t p18), (.t p19), (.t p20), (.t p21)], none, 0⟩]) [p10, p11, p12, p22] (.cond (.t p22) (.seq (.ops [⟨(some p23), .loadN 3 (.t p12), none, 0⟩, ⟨none, .store 3 (.t p10) (.t p23), none, 0⟩, ⟨none, .store 1 (.t p11) (.c (.bool true)), none, 0⟩]) [] .ret) .skip)))
def zdC : RC := ⟨(n_g * 1000 + 1), [p5, p6, p8, p9, p10, p11], [p16], c_g_1, c_g_2⟩
def c_g_0 : CC := (.seq (.ops [⟨(some p24), .build [(.int .i64 0), (.int .i64 0), (.int .i64 0)] [], none, 0⟩, ⟨none, .store 3 (.t p10) (.t p24), none, 0⟩, ⟨none, .store 1 (.t p11) (.c (.bool false)), none, 0⟩]) [p10, p11] .ret)
def c_g : CC := (.seq (.ops [⟨(some p5), .box (.t p0), none, 0⟩, ⟨(some p6), .box (.t p1), none, 0⟩, ⟨(some p8), .box (.t p3), none, 0⟩, ⟨(some p9), .box (.t p4), none, 0⟩, ⟨(some p10), .alloc [(.int .i64 0), (.int .i64 0), (.int .i64 0)], none, 0⟩, ⟨(some p11), .alloc [(.bool false)], none, 0⟩]) [p2, p5, p6, p8, p9, p10, p11] (.seq (.seq (.ops [⟨(some p13), .loadN 3 (.t p6), none, 0⟩, ⟨(some p14), .mv (.t p2), none, 0⟩, ⟨(some p15), .call (.c (.func (.func n_y) #[] #[])) [(.t p13), (.t p14)], none, 0⟩]) [p5, p6, p8, p9, p10, p11, p15] (.block 0 (.rangeFunc (n_g * 1000 + 1) [p5, p6, p8, p9, p10, p11] (.t p15) [p16] c_g_1 c_g_2))) [p10, p11] c_g_0))
def f_g : zw := ⟨25, [.cell (some 3) p10, .cell none p11], c_g, none⟩
def c_v : CC := (.seq (.ops [⟨(some p3), .box (.t p0), none, 0⟩, ⟨(some p4), .box (.t p1), none, 0⟩, ⟨(some p5), .box (.t p2), none, 0⟩, ⟨(some p6), .mv (.c .nilFunc), none, 0⟩]) [p3, p4, p5] (.seq (.ops [⟨(some p7), .makeFunc (.func n_B) [] [(.t p3), (.t p4), (.t p5)], none, 0⟩, ⟨(some p6), .mv (.t p7), none, 0⟩]) [p6] .ret))
def f_v : zw := ⟨8, [.tmp p6], c_v, none⟩
def zig : CC := (.seq (.ops [⟨(some p21), .bin .lss .other (.t p20) (.t p19), none, 0⟩]) [p0, p2, p18, p19, p20, p21] (.seq (.cond (.t p21) .skip (.exit 0)) [p0, p2, p18, p19, p20] (.seq (.block 1 (.seq (.ops [⟨(some p22), .indexAddr 3 (.t p18) (.t p20), none, 0⟩, ⟨(some p23), .loadN 3 (.t p22), none, 0⟩, ⟨(some p7), .alloc [(.int .i64 0), (.int .i64 0), (.int .i64 0)], none, 0⟩, ⟨none, .store 3 (.t p7) (.t p23), none, 0⟩]) [p0, p2, p7, p18, p19, p20] (.seq (.ops [⟨(some p24), .fieldAddr 0 (.t p7), none, 0⟩, ⟨(some p25), .load1 (.t p24), none, 0⟩, ⟨(some p26), .load1 (.t p2), none, 0⟩, ⟨(some p27), .bin .neq .other (.t p25) (.t p26), none, 0⟩, ⟨(some p28), .mv (.t p27), none, 0⟩, ⟨(some p29), .mv (.t p0), (some (p28, false)), 0⟩, ⟨(some p30), .loadN 3 (.t p7), (some (p28, false)), 0⟩, ⟨(some p31), .call (.t p29) [(.t p30)], (some (p28, false)), 0⟩, ⟨(some p32), .un .not (.t p31), (some (p28, false)), 0⟩, ⟨(some p33), .pick (.t p28) (.c (.bool true)) (.t p32), none, 0⟩]) [p0, p2, p18, p19, p20, p33] (.cond (.t p33) .ret .skip)))) [p0, p2, p18, p19, p20] (.ops [⟨(some p34), .bin .add .other (.t p20) (.c (.int .i64 1)), none, 0⟩, ⟨(some p20), .mv (.t p34), none, 0⟩]))))
def c_x : CC := (.seq (.ops [⟨(some p9), .fieldAddr 2 (.t p1), none, 0⟩, ⟨(some p10), .load1 (.t p9), none, 0⟩, ⟨(some p11), .load1 (.t p2), none, 0⟩, ⟨(some p12), .call (.c (.func (.func n_a) #[] #[])) [(.t p10), (.t p11), (.c (.func (.func n_O) #[] #[]))], none, 0⟩, ⟨(some p8), .mv (.t p12), none, 0⟩, ⟨(some p13), .extract (.t p8) 0, none, 0⟩, ⟨(some p14), .extract (.t p8) 1, none, 0⟩, ⟨(some p4), .mv (.t p13), none, 0⟩, ⟨(some p5), .mv (.t p14), none, 0⟩]) [p0, p1, p2, p4] (.seq (.ops [⟨(some p15), .fieldAddr 2 (.t p1), none, 0⟩, ⟨(some p16), .load1 (.t p15), none, 0⟩, ⟨(some p17), .mv (.t p4), none, 0⟩, ⟨(some p18), .slice 3 (.t p16) (some (.t p17)) none, none, 0⟩, ⟨(some p19), .blt .len [(.t p18)], none, 0⟩, ⟨(some p20), .mv (.c (.int .i64 0)), none, 0⟩]) [p0, p2, p18, p19, p20] (.block 0 (.loop [p0, p2, p18, p19, p20] zig))))
def f_x : zw := ⟨35, [], c_x, none⟩
def zgt : CC := (.seq (.seq (.ops [⟨(some p15), .mv (.t p9), none, 0⟩, ⟨(some p16), .mv (.t p10), none, 0⟩, ⟨(some p17), .bin .lss .other (.t p15) (.t p16), none, 0⟩]) [p0, p1, p2, p8, p9, p10, p17] (.cond (.t p17) .skip (.exit 0))) [p0, p1, p2, p8, p9, p10] (.block 1 (.seq (.ops [⟨(some p18), .mv (.t p9), none, 0⟩, ⟨(some p19), .mv (.t p10), none, 0⟩, ⟨(some p20), .bin .add .other (.t p18) (.t p19), none, 0⟩, ⟨(some p21), .conv .u64 (.t p20), none, 0⟩, ⟨(some p22), .bin .shr .other (.t p21) (.c (.int .u64 1)), none, 0⟩, ⟨(some p23), .conv .i64 (.t p22), none, 0⟩, ⟨(some p11), .mv (.t p23), none, 0⟩]) [p0, p1, p2, p8, p9, p10, p11] (.seq (.ops [⟨(some p24), .mv (.t p2), none, 0⟩, ⟨(some p25), .mv (.t p0), none, 0⟩, ⟨(some p26), .mv (.t p11), none, 0⟩, ⟨(some p27), .indexAddr 3 (.t p25) (.t p26), none, 0⟩, ⟨(some p28), .loadN 3 (.t p27), none, 0⟩, ⟨(some p29), .mv (.t p1), none, 0⟩, ⟨(some p30), .call (.t p24) [(.t p28), (.t p29)], none, 0⟩, ⟨(some p31), .bin .lss .other (.t p30) (.c (.int .i64 0)), none, 0⟩]) [p0, p1, p2, p8, p9, p10, p11, p31] (.cond (.t p31) (.ops [⟨(some p32), .mv (.t p11), none, 0⟩, ⟨(some p33), .bin .add .other (.t p32) (.c (.int .i64 1)), none, 0⟩, ⟨(some p9), .mv (.t p33), none, 0⟩]) (.ops [⟨(some p34), .mv (.t p11), none, 0⟩, ⟨(some p10), .mv (.t p34), none, 0⟩]))))))
def zg9 : CC := (.seq (.ops [⟨(some p35), .mv (.t p9), none, 0⟩, ⟨(some p36), .mv (.t p9), none, 0⟩, ⟨(some p37), .mv (.t p8), none, 0⟩, ⟨(some p38), .bin .lss .other (.t p36) (.t p37), none, 0⟩, ⟨(some p39), .mv (.t p38), none, 0⟩, ⟨(some p40), .mv (.t p2), (some (p39, true)), 0⟩, ⟨(some p41), .mv (.t p0), (some (p39, true)), 0⟩, ⟨(some p42), .mv (.t p9), (some (p39, true)), 0⟩, ⟨(some p43), .indexAddr 3 (.t p41) (.t p42), (some (p39, true)), 0⟩, ⟨(some p44), .loadN 3 (.t p43), (some (p39, true)), 0⟩, ⟨(some p45), .mv (.t p1), (some (p39, true)), 0⟩, ⟨(some p46), .call (.t p40) [(.t p44), (.t p45)], (some (p39, true)), 0⟩, ⟨(some p47), .bin .eql .other (.t p46) (.c (.int .i64 0)), (some (p39, true)), 0⟩, ⟨(some p48), .pick (.t p39) (.t p47) (.c (.bool false)), none, 0⟩, ⟨(some p6), .mv (.t p35), none, 0⟩, ⟨(some p7), .mv (.t p48), none, 0⟩]) [p6, p7] .ret)
def c_a : CC := (.seq (.ops [⟨(some p6), .mv (.c (.int .i64 0)), none, 0⟩, ⟨(some p7), .mv (.c (.bool false)), none, 0⟩]) [p0, p1, p2] (.seq (.ops [⟨(some p12), .mv (.t p0), none, 0⟩, ⟨(some p13), .blt .len [(.t p12)], none, 0⟩, ⟨(some p8), .mv (.t p13), none, 0⟩]) [p0, p1, p2, p8] (.seq (.ops [⟨(some p14), .mv (.t p8), none, 0⟩, ⟨(some p9), .mv (.c (.int .i64 0)), none, 0⟩, ⟨(some p10), .mv (.t p14), none, 0⟩]) [p0, p1, p2, p8, p9, p10] (.seq (.block 0 (.loop [p0, p1, p2, p8, p9, p10] zgt)) [p0, p1, p2, p8, p9] zg9))))
def f_a : zw := ⟨49, [.tmp p6, .tmp p7], c_a, none⟩
def c_O : CC := (.seq (.ops [⟨(some p2), .box (.t p0), none, 0⟩, ⟨(some p4), .mv (.c (.int .i64 0)), none, 0⟩]) [p1, p2] (.seq (.ops [⟨(some p5), .fieldAddr 0 (.t p2), none, 0⟩, ⟨(some p6), .load1 (.t p5), none, 0⟩, ⟨(some p7), .mv (.t p1), none, 0⟩, ⟨(some p8), .call (.c (.func (.func n_z) #[] #[])) [(.t p6), (.t p7)], none, 0⟩, ⟨(some p4), .mv (.t p8), none, 0⟩]) [p4] .ret))
def f_O : zw := ⟨9, [.tmp p4], c_O, none⟩
def c_D : CC := (.seq (.ops [⟨(some p2), .mv (.c (.bool false)), none, 0⟩]) [p0] (.seq (.ops [⟨(some p3), .mv (.t p0), none, 0⟩, ⟨(some p4), .mv (.t p0), none, 0⟩, ⟨(some p5), .bin .neq .other (.t p3) (.t p4), none, 0⟩, ⟨(some p2), .mv (.t p5), none, 0⟩]) [p2] .ret))
def f_D : zw := ⟨6, [.tmp p2], c_D, none⟩
def c_j_1 : CC := (.ops [⟨(some p11), .mv (.t p20), none, 0⟩])
def c_j_2 : CC := (.block 1 (.seq (.ops [⟨(some p21), .fieldAddr 1 (.t p7), none, 0⟩, ⟨(some p22), .load1 (.t p21), none, 0⟩, ⟨(some p23), .mv (.t p11), none, 0⟩, ⟨(some p24), .build [(.int .i64 0), (.int .i64 0)] [(0, 1, (.t p22)), (1, 1, (.t p23))], none, 0⟩, ⟨(some p12), .alloc [(.int .i64 0), (.int .i64 0)], none, 0⟩, ⟨none, .store 2 (.t p12) (.t p24), none, 0⟩]) [p5, p9, p10, p11, p12] (.seq (.ops [⟨(some p26), .load1 (.t p5), none, 0⟩, ⟨(some p27), .loadN 2 (.t p12), none, 0⟩, ⟨(some p28), .lookup (.leaves [0, 1]) (.int .i64 0) true (.t p26) (.t p27), none, 0⟩, ⟨(some p25), .mv (.t p28), none, 0⟩, ⟨(some p29), .extract (.t p25) 0, none, 0⟩, ⟨(some p30), .extract (.t p25) 1, none, 0⟩, ⟨(some p13), .mv (.t p29), none, 0⟩, ⟨(some p14), .mv (.t p30), none, 0⟩]) [p9, p10, p11, p12, p13, p14] (.seq (.ops [⟨(some p31), .loadN 2 (.t p12), none, 0⟩, ⟨(some p32), .mv (.t p11), none, 0⟩, ⟨(some p33), .mv (.t p11), none, 0⟩, ⟨(some p34), .build [(.int .i64 0), (.int .i64 0)] [(0, 1, (.t p32)), (1, 1, (.t p33))], none, 0⟩, ⟨(some p35), .bin .eql (.leaves [0, 1]) (.t p31) (.t p34), none, 0⟩, ⟨(some p36), .mv (.t p35), none, 0⟩, ⟨(some p37), .mv (.t p14), (some (p36, false)), 0⟩, ⟨(some p38), .un .not (.t p37), (some (p36, false)), 0⟩, ⟨(some p39), .pick (.t p36) (.c (.bool true)) (.t p38), none, 0⟩, ⟨(some p40), .mv (.t p39), none, 0⟩, ⟨(some p41), .mv (.t p13), (some (p40, false)), 0⟩, ⟨(some p42), .load1 (.t p9), (some (p40, false)), 0⟩, ⟨(some p43), .bin .gtr .other (.t p41) (.t p42), (some (p40, false)), 0⟩, ⟨(some p44), .pick (.t p40) (.c (.bool true)) (.t p43), none, 0⟩]) [p10, p44] (.cond (.t p44) (.seq (.ops [⟨none, .store 1 (.t p10) (.c (.bool false)), none, 0⟩]) [] .ret) .skip)))))
def zde : RC := ⟨(n_j * 1000 + 1), [p5, p7, p9, p10], [p20], c_j_1, c_j_2⟩
def c_j_0 : CC := (.seq (.ops [⟨none, .store 1 (.t p10) (.c (.bool true)), none, 0⟩]) [p10] .ret)
def c_j : CC := (.seq (.ops [⟨(some p5), .box (.t p0), none, 0⟩, ⟨(some p6), .box (.t p1), none, 0⟩, ⟨(some p7), .box (.t p2), none, 0⟩, ⟨(some p9), .box (.t p4), none, 0⟩, ⟨(some p10), .alloc [(.bool false)], none, 0⟩]) [p3, p5, p6, p7, p9, p10] (.seq (.seq (.ops [⟨(some p15), .loadN 3 (.t p6), none, 0⟩, ⟨(some p16), .mv (.t p3), none, 0⟩, ⟨(some p17), .fieldAddr 2 (.t p7), none, 0⟩, ⟨(some p18), .load1 (.t p17), none, 0⟩, ⟨(some p19), .call (.c (.func (.func n_v) #[] #[])) [(.t p15), (.t p16), (.t p18)], none, 0⟩]) [p5, p7, p9, p10, p19] (.block 0 (.rangeFunc (n_j * 1000 + 1) [p5, p7, p9, p10] (.t p19) [p20] c_j_1 c_j_2))) [p10] c_j_0))
def f_j : zw := ⟨45, [.cell none p10], c_j, none⟩
def c_B_0 : CC := (.ops [⟨(some p5), .alloc [(.int .i64 0), (.int .i64 0), (.int .i64 0)], none, 0⟩, ⟨none, .store 3 (.t p5) (.t p9), none, 0⟩])
def c_B_1 : CC := (.block 1 (.seq (.ops [⟨(some p10), .fieldAddr 2 (.t p5), none, 0⟩, ⟨(some p11), .load1 (.t p10), none, 0⟩, ⟨(some p12), .load1 (.t p3), none, 0⟩, ⟨(some p13), .bin .eql .other (.t p11) (.t p12), none, 0⟩, ⟨(some p14), .mv (.t p13), none, 0⟩, ⟨(some p15), .load1 (.t p4), (some (p14, true)), 0⟩, ⟨(some p16), .fieldAddr 1 (.t p5), (some (p14, true)), 0⟩, ⟨(some p17), .load1 (.t p16), (some (p14, true)), 0⟩, ⟨(some p18), .call (.t p15) [(.t p17)], (some (p14, true)), 0⟩, ⟨(some p19), .un .not (.t p18), (some (p14, true)), 0⟩, ⟨(some p20), .pick (.t p14) (.t p19) (.c (.bool false)), none, 0⟩]) [p20] (.cond (.t p20) .ret .skip)))
def zd8 : RC := ⟨(n_B * 1000 + 0), [p3, p4], [p9], c_B_0, c_B_1⟩
def c_B : CC := (.seq (.ops [⟨(some p4), .box (.t p0), none, 0⟩]) [p1, p2, p3, p4] (.seq (.ops [⟨(some p6), .loadN 3 (.t p1), none, 0⟩, ⟨(some p7), .load1 (.t p2), none, 0⟩, ⟨(some p8), .call (.c (.func (.func n_y) #[] #[])) [(.t p6), (.t p7)], none, 0⟩]) [p3, p4, p8] (.block 0 (.rangeFunc (n_B * 1000 + 0) [p3, p4] (.t p8) [p9] c_B_0 c_B_1))))
def f_B : zw := ⟨21, [], c_B, none⟩
def zc7 : CC := (.seq (.ops [⟨(some p20), .bin .lss .other (.t p19) (.t p18), none, 0⟩]) [p3, p4, p8, p17, p18, p19, p20] (.seq (.cond (.t p20) .skip (.exit 0)) [p3, p4, p8, p17, p18, p19] (.seq (.block 1 (.seq (.ops [⟨(some p21), .indexAddr 2 (.t p17) (.t p19), none, 0⟩, ⟨(some p22), .loadN 2 (.t p21), none, 0⟩, ⟨(some p10), .alloc [(.int .i64 0), (.int .i64 0)], none, 0⟩, ⟨none, .store 2 (.t p10) (.t p22), none, 0⟩]) [p3, p4, p8, p10, p17, p18, p19] (.seq (.seq (.ops [⟨(some p23), .indexArr 2 1 (.t p10) (.c (.int .i64 0)), none, 0⟩, ⟨(some p24), .load1 (.t p23), none, 0⟩, ⟨(some p25), .indexArr 2 1 (.t p10) (.c (.int .i64 1)), none, 0⟩, ⟨(some p26), .load1 (.t p25), none, 0⟩, ⟨(some p27), .blt .min [(.t p24), (.t p26)], none, 0⟩, ⟨(some p28), .bin .lss .other (.t p27) (.c (.int .i64 0)), none, 0⟩, ⟨(some p29), .mv (.t p28), none, 0⟩, ⟨(some p30), .indexArr 2 1 (.t p10) (.c (.int .i64 0)), (some (p29, false)), 0⟩, ⟨(some p31), .load1 (.t p30), (some (p29, false)), 0⟩, ⟨(some p32), .fieldAddr 0 (.t p3), (some (p29, false)), 0⟩, ⟨(some p33), .load1 (.t p32), (some (p29, false)), 0⟩, ⟨(some p34), .bin .geq .other (.t p31) (.t p33), (some (p29, false)), 0⟩, ⟨(some p35), .pick (.t p29) (.c (.bool true)) (.t p34), none, 0⟩, ⟨(some p36), .mv (.t p35), none, 0⟩, ⟨(some p37), .indexArr 2 1 (.t p10) (.c (.int .i64 1)), (some (p36, false)), 0⟩, ⟨(some p38), .load1 (.t p37), (some (p36, false)), 0⟩, ⟨(some p39), .fieldAddr 0 (.t p4), (some (p36, false)), 0⟩, ⟨(some p40), .load1 (.t p39), (some (p36, false)), 0⟩, ⟨(some p41), .bin .geq .other (.t p38) (.t p40), (some (p36, false)), 0⟩, ⟨(some p42), .pick (.t p36) (.c (.bool true)) (.t p41), none, 0⟩]) [p3, p4, p8, p10, p17, p18, p19, p42] (.cond (.t p42) (.seq (.ops [⟨(some p6), .mv (.c (.bool false)), none, 0⟩, ⟨(some p7), .mv (.c (.int .i64 2)), none, 0⟩]) [p6, p7] .ret) .skip)) [p3, p4, p8, p10, p17, p18, p19] (.ops [⟨(some p43), .mv (.t p8), none, 0⟩, ⟨(some p44), .loadN 2 (.t p10), none, 0⟩, ⟨none, .mapUpdate (.leaves [0, 1]) (.t p43) (.t p44) (.c (.bool true)), none, 0⟩])))) [p3, p4, p8, p17, p18, p19] (.ops [⟨(some p45), .bin .add .other (.t p19) (.c (.int .i64 1)), none, 0⟩, ⟨(some p19), .mv (.t p45), none, 0⟩]))))
def c_bisA : CC := (.seq (.ops [⟨(some p3), .box (.t p0), none, 0⟩, ⟨(some p4), .box (.t p1), none, 0⟩, ⟨(some p6), .mv (.c (.bool false)), none, 0⟩, ⟨(some p7), .mv (.c (.int .i64 0)), none, 0⟩]) [p2, p3, p4] (.seq (.seq (.ops [⟨(some p12), .loadN 3 (.t p3), none, 0⟩, ⟨(some p13), .loadN 3 (.t p4), none, 0⟩, ⟨(some p14), .call (.c (.func (.func n_J) #[] #[])) [(.t p12), (.t p13)], none, 0⟩, ⟨(some p15), .un .not (.t p14), none, 0⟩]) [p2, p3, p4, p15] (.cond (.t p15) (.seq (.ops [⟨(some p6), .mv (.c (.bool false)), none, 0⟩, ⟨(some p7), .mv (.c (.int .i64 2)), none, 0⟩]) [p6, p7] .ret) .skip)) [p2, p3, p4] (.seq (.ops [⟨(some p16), .makeMap, none, 0⟩, ⟨(some p8), .mv (.t p16), none, 0⟩]) [p2, p3, p4, p8] (.seq (.ops [⟨(some p17), .mv (.t p2), none, 0⟩, ⟨(some p18), .blt .len [(.t p17)], none, 0⟩, ⟨(some p19), .mv (.c (.int .i64 0)), none, 0⟩]) [p3, p4, p8, p17, p18, p19] (.block 0 (.loop [p3, p4, p8, p17, p18, p19] zc7))))))
def c_bisB : CC := (.seq (.ops [⟨(some p52), .loadN 3 (.t p3), none, 0⟩, ⟨(some p53), .loadN 3 (.t p4), none, 0⟩, ⟨(some p54), .indexArr 2 1 (.t p11) (.c (.int .i64 0)), none, 0⟩, ⟨(some p55), .load1 (.t p54), none, 0⟩, ⟨(some p56), .indexArr 2 1 (.t p11) (.c (.int .i64 1)), none, 0⟩, ⟨(some p57), .load1 (.t p56), none, 0⟩, ⟨(some p58), .mv (.t p8), none, 0⟩, ⟨(some p59), .call (.c (.func (.func n_k) #[] #[])) [(.t p52), (.t p53), (.t p55), (.t p57), (.t p58), (.c (.bool false))], none, 0⟩, ⟨(some p60), .un .not (.t p59), none, 0⟩, ⟨(some p61), .mv (.t p60), none, 0⟩, ⟨(some p62), .loadN 3 (.t p4), (some (p61, false)), 0⟩, ⟨(some p63), .loadN 3 (.t p3), (some (p61, false)), 0⟩, ⟨(some p64), .indexArr 2 1 (.t p11) (.c (.int .i64 1)), (some (p61, false)), 0⟩, ⟨(some p65), .load1 (.t p64), (some (p61, false)), 0⟩, ⟨(some p66), .indexArr 2 1 (.t p11) (.c (.int .i64 0)), (some (p61, false)), 0⟩, ⟨(some p67), .load1 (.t p66), (some (p61, false)), 0⟩, ⟨(some p68), .mv (.t p8), (some (p61, false)), 0⟩, ⟨(some p69), .call (.c (.func (.func n_k) #[] #[])) [(.t p62), (.t p63), (.t p65), (.t p67), (.t p68), (.c (.bool true))], (some (p61, false)), 0⟩, ⟨(some p70), .un .not (.t p69), (some (p61, false)), 0⟩, ⟨(some p71), .pick (.t p61) (.c (.bool true)) (.t p70), none, 0⟩]) [p3, p4, p8, p71] (.cond (.t p71) (.seq (.ops [⟨(some p6), .mv (.c (.bool false)), none, 0⟩, ⟨(some p7), .mv (.c (.int .i64 0)), none, 0⟩]) [p6, p7] .ret) .skip))
def tabF : List (Nat × zw) := [(n_e, f_e), (n_m, f_m), (n_I, f_I), (n_K, f_K), (n_G, f_G), (n_H, f_H), (n_E, f_E), (n_b, f_b), (n_i, f_i), (n_f, f_f), (n_J, f_J), (n_k, f_k), (n_o, f_o), (n_h, f_h), (n_d, f_d), (n_y, f_y), (n_z, f_z), (n_t, f_t), (n_g, f_g), (n_v, f_v), (n_x, f_x), (n_a, f_a), (n_O, f_O), (n_D, f_D), (n_j, f_j), (n_B, f_B), (n_A, zhJ true)]
def F : FuncId → Option zw := zbe tabF
theorem F_e : F n_e = some f_e := by kernel_rfl
theorem F_m : F n_m = some f_m := by kernel_rfl
theorem F_I : F n_I = some f_I := by kernel_rfl
theorem F_K : F n_K = some f_K := by kernel_rfl
theorem F_G : F n_G = some f_G := by kernel_rfl
theorem F_H : F n_H = some f_H := by kernel_rfl
theorem F_E : F n_E = some f_E := by kernel_rfl
theorem F_b : F n_b = some f_b := by kernel_rfl
theorem F_i : F n_i = some f_i := by kernel_rfl
theorem F_f : F n_f = some f_f := by kernel_rfl
theorem F_J : F n_J = some f_J := by kernel_rfl
theorem F_k : F n_k = some f_k := by kernel_rfl
theorem F_o : F n_o = some f_o := by kernel_rfl
theorem F_h : F n_h = some f_h := by kernel_rfl
theorem F_d : F n_d = some f_d := by kernel_rfl
theorem F_y : F n_y = some f_y := by kernel_rfl
theorem F_z : F n_z = some f_z := by kernel_rfl
theorem F_t : F n_t = some f_t := by kernel_rfl
theorem F_g : F n_g = some f_g := by kernel_rfl
theorem F_v : F n_v = some f_v := by kernel_rfl
theorem F_x : F n_x = some f_x := by kernel_rfl
theorem F_a : F n_a = some f_a := by kernel_rfl
theorem F_O : F n_O = some f_O := by kernel_rfl
theorem F_D : F n_D = some f_D := by kernel_rfl
theorem F_j : F n_j = some f_j := by kernel_rfl
theorem F_B : F n_B = some f_B := by kernel_rfl
theorem F_A : F n_A = some (zhJ true) := by kernel_rfl
def K_e_0 (X : Rn) : K := (fnK [.tmp p6])
def K_e_1 (X : Rn) : K := (zdj X [p1, p2, p3, p7, p9, p10] c_e_1 (kBlk 0 (kSeq X c_e_0 [p1, p2, p3, p7, p9] (K_e_0 X))))
def K_e_2 (X : Rn) : K := (K_e_1 X)
def K_e_3 (X : Rn) : K := (zdj X [p1, p2, p3, p7, p9, p10, p11] c_e_3 (kBlk 2 (kBlk 1 (kSeq X c_e_2 [p1, p2, p3, p7, p9, p10] (K_e_2 X)))))
def K_e_4 (X : Rn) : K := (K_e_3 X)
def K_m_0 (X : Rn) : K := (fnK [.tmp p2])
def K_m_1 (X : Rn) : K := (zdj X [p1, p30, p31, p32] zfX (kBlk 0 (kSeq X zgr [] (K_m_0 X))))
def K_b_0 (X : Rn) : K := (zdj X [p1, p3, p4] zg8 (kBlk 0 (fnK [.tmp p2])))
def K_b_1 (X : Rn) : K := (K_b_0 X)
def ziJ (X : Rn) : K := (kBlk 1 (kSeq X c_b_1 [p1, p3, p4] (K_b_1 X)))
def K_b_8 (X : Rn) : K := (zdj X [p1, p3, p4, p70, p71, p72] zg4 (kBlk 6 (ziJ X)))
def K_b_3 (X : Rn) : K := (zdj X [p1, p3, p4, p5, p18, p19] zg7 (kBlk 2 (kSeq X zgs [p1, p3, p4, p5] (ziJ X))))
def K_b_4 (X : Rn) : K := (K_b_3 X)
def K_b_5 (X : Rn) : K := (zdj X [p1, p3, p4, p5, p6, p18, p19, p22, p23] zg5 (kBlk 4 (kBlk 3 (kSeq X zg6 [p1, p3, p4, p5, p18, p19] (K_b_4 X)))))
def K_b_6 (X : Rn) : K := (K_b_5 X)
def K_b_7 (X : Rn) : K := (kBlk 5 (kSeq X zik [p1, p3, p4, p5, p6, p18, p19, p22, p23] (K_b_6 X)))
def K_i_0 (X : Rn) : K := (fnK [.tmp p6])
def K_i_2 (X : Rn) (l : Nat) : K := (finK l)
def K_f_0 (X : Rn) : K := (fnK [.cell (some 3) p6])
def K_f_2 (X : Rn) (l : Nat) : K := (finK l)
def K_k_0 (X : Rn) : K := (fnK [.cell none p12])
def K_k_2 (X : Rn) (l : Nat) : K := (finK l)
def K_k_3 (X : Rn) (l : Nat) : K := (kBlk 1 (K_k_2 X l))
def K_k_5 (X : Rn) (l : Nat) : K := (finK l)
def K_k_6 (X : Rn) (l : Nat) : K := (kBlk 3 (K_k_5 X l))
def K_o_0 (X : Rn) : K := (fnK [.tmp p6])
def K_o_2 (X : Rn) : K := (K_o_0 X)
def K_o_3 (X : Rn) : K := (zdj X [p2, p3, p59, p60, p61] c_o_3 (kBlk 1 (kSeq X c_o_2 [] (K_o_2 X))))
def K_o_1 (X : Rn) : K := (kBlk 0 (kSeq X c_o_0 [p2, p3, p4, p7] (K_o_0 X)))
def zf8 (X : Rn) : K := (fnK [.tmp p4])
def K_h_1 (X : Rn) : K := (zdj X [p5, p65, p66, p67] c_h_1 (kBlk 7 (kBlk 0 (kSeq X zfl [p5] (zf8 X)))))
def K_h_2 (X : Rn) : K := (zdj X [p3, p5, p8, p87, p88, p89] c_h_2 (kBlk 9 (kBlk 0 (kSeq X zfl [p5] (zf8 X)))))
def ziI (X : Rn) : K := (kBlk 0 (kSeq X zfl [p5] (zf8 X)))
def K_h_5 (X : Rn) : K := (zdj X [p2, p5, p31, p32, p33] c_h_5 (kBlk 3 (ziI X)))
def K_h_6 (X : Rn) : K := (K_h_5 X)
def K_h_7 (X : Rn) : K := (zdj X [p2, p5, p31, p32, p33, p39, p40, p41] c_h_7 (kBlk 5 (kBlk 4 (kSeq X c_h_6 [p2, p5, p31, p32, p33] (K_h_6 X)))))
def K_h_4 (X : Rn) : K := (zdj X [p2, p3, p5, p22, p23] c_h_4 (kBlk 1 (kSeq X c_h_3 [p2, p3, p5] (ziI X))))
def K_d_0 (X : Rn) : K := (fnK [.tmp p2])
def K_d_1 (X : Rn) : K := (zdj X [p3, p4, p5, p14, p15] zg3 (kBlk 0 (kSeq X zij [p4] (K_d_0 X))))
def K_d_2 (X : Rn) : K := (K_d_1 X)
def K_d_3 (X : Rn) : K := (kBlk 1 (kSeq X ziY [p3, p4, p5, p14, p15] (K_d_2 X)))
def K_d_4 (X : Rn) : K := (zdj X [p3, p4, p5, p6, p14, p15, p18, p19, p20] zg1 (kBlk 2 (kSeq X zg2 [p3, p4, p5, p6, p14, p15] (K_d_3 X))))
def K_t_0 (X : Rn) : K := (fnK [.tmp p2])
def K_t_1 (X : Rn) : K := (zdj X [p3, p6, p7, p8] zih (kBlk 0 (kSeq X zii [p3] (K_t_0 X))))
def K_g_0 (X : Rn) : K := (fnK [.cell (some 3) p10, .cell none p11])
def K_g_2 (X : Rn) (l : Nat) : K := (finK l)
def K_x_0 (X : Rn) : K := (zdj X [p0, p2, p18, p19, p20] zig (kBlk 0 (fnK [])))
def K_a_0 (X : Rn) : K := (fnK [.tmp p6, .tmp p7])
def K_a_1 (X : Rn) : K := (zdj X [p0, p1, p2, p8, p9, p10] zgt (kBlk 0 (kSeq X zg9 [p0, p1, p2, p8, p9] (K_a_0 X))))
def K_j_0 (X : Rn) : K := (fnK [.cell none p10])
def K_j_2 (X : Rn) (l : Nat) : K := (finK l)
def K_B_1 (X : Rn) (l : Nat) : K := (finK l)
def K_bisA_0 (X : Rn) : K := (zdj X [p3, p4, p8, p17, p18, p19] zc7 (kBlk 0 (pK [p3, p4, p8] [p6, p7])))
end Go.Ideal.J
end
noncomputable section
namespace Go.Ideal.X
open Go Go.Ideal Go.Ideal.J
abbrev Z := List Value → H → Option Out
def zct (L : List (List Bool)) (z : Z) (k : K) : K := ⟨fun s h => getL L s fun vs => z vs h, k.ext, k.ret⟩
abbrev n_M : Nat := 11
abbrev n_n : Nat := 15
abbrev n_l : Nat := 19
abbrev n_L : Nat := 20
abbrev n_p : Nat := 30
abbrev n_c : Nat := 31
abbrev n_s : Nat := 35
abbrev n_u : Nat := 36
abbrev n_C : Nat := 45
abbrev n_F : Nat := 55
abbrev n_q : Nat := 62
abbrev n_w : Nat := 68
abbrev n_r : Nat := 72
def c_M : CC := (.seq (.ops [⟨(some p1), .box (.t p0), none, 0⟩, ⟨(some p2), .alloc [(.int .i64 0), (.int .i64 0), (.slice none 0 0)], none, 0⟩, ⟨(some p3), .mv (.c (.int .i64 0)), none, 0⟩]) [p1, p2] (.seq (.seq (.ops [⟨(some p5), .loadN 3 (.t p1), none, 0⟩, ⟨(some p6), .call (.c (.func (.func n_m) #[] #[])) [(.t p5)], none, 0⟩, ⟨(some p7), .bin .neq .other (.t p6) (.c (.int .i64 0)), none, 0⟩]) [p1, p2, p7] (.cond (.t p7) (.seq (.ops [⟨(some p8), .build [(.int .i64 0), (.int .i64 0), (.slice none 0 0)] [], none, 0⟩, ⟨none, .store 3 (.t p2) (.t p8), none, 0⟩, ⟨(some p3), .mv (.c (.int .i64 2)), none, 0⟩]) [p2, p3] .ret) .skip)) [p1, p2] (.seq (.ops [⟨(some p9), .loadN 3 (.t p1), none, 0⟩, ⟨(some p10), .call (.c (.func (.func n_c) #[] #[])) [(.t p9)], none, 0⟩, ⟨(some p4), .alloc [(.int .i64 0), (.int .i64 0), (.slice none 0 0)], none, 0⟩, ⟨none, .store 3 (.t p4) (.t p10), none, 0⟩]) [p2, p4] (.seq (.seq (.ops [⟨(some p11), .fieldAddr 2 (.t p4), none, 0⟩, ⟨(some p12), .load1 (.t p11), none, 0⟩, ⟨(some p13), .blt .len [(.t p12)], none, 0⟩, ⟨(some p14), .bin .gtr .other (.t p13) (.c (.int .i64 400)), none, 0⟩]) [p2, p4, p14] (.cond (.t p14) (.seq (.ops [⟨(some p15), .build [(.int .i64 0), (.int .i64 0), (.slice none 0 0)] [], none, 0⟩, ⟨none, .store 3 (.t p2) (.t p15), none, 0⟩, ⟨(some p3), .mv (.c (.int .i64 3)), none, 0⟩]) [p2, p3] .ret) .skip)) [p2, p4] (.seq (.ops [⟨(some p16), .loadN 3 (.t p4), none, 0⟩, ⟨none, .store 3 (.t p2) (.t p16), none, 0⟩, ⟨(some p3), .mv (.c (.int .i64 0)), none, 0⟩]) [p2, p3] .ret)))))
def f_M : zw := ⟨17, [.cell (some 3) p2, .tmp p3], c_M, none⟩
def c_n_1 : CC := (.seq (.seq (.ops [⟨(some p27), .mv (.t p5), none, 0⟩, ⟨(some p28), .fieldAddr 2 (.t p2), none, 0⟩, ⟨(some p29), .load1 (.t p28), none, 0⟩, ⟨(some p30), .blt .len [(.t p29)], none, 0⟩, ⟨(some p31), .bin .lss .other (.t p27) (.t p30), none, 0⟩]) [p2, p3, p5, p31] (.cond (.t p31) .skip (.exit 0))) [p2, p3, p5] (.seq (.block 1 (.seq (.draw [⟨(some p34), .fieldAddr 2 (.t p2), none, 0⟩, ⟨(some p35), .load1 (.t p34), none, 0⟩, ⟨(some p36), .mv (.t p5), none, 0⟩, ⟨(some p37), .indexAddr 3 (.t p35) (.t p36), none, 0⟩, ⟨(some p38), .loadN 3 (.t p37), none, 0⟩, ⟨(some p39), .fieldAddr 2 (.t p3), none, 0⟩, ⟨(some p40), .load1 (.t p39), none, 0⟩, ⟨(some p41), .mv (.t p5), none, 0⟩, ⟨(some p42), .indexAddr 3 (.t p40) (.t p41), none, 0⟩, ⟨(some p43), .loadN 3 (.t p42), none, 0⟩, ⟨(some p44), .bin .neq (.leaves [0, 1, 2]) (.t p38) (.t p43), none, 0⟩]) [p2, p3, p5, p44] (.cond (.t p44) (.seq (.ops [⟨(some p4), .mv (.c (.bool false)), none, 0⟩]) [p4] .ret) .skip))) [p2, p3, p5] (.ops [⟨(some p32), .mv (.t p5), none, 0⟩, ⟨(some p33), .bin .add .other (.t p32) (.c (.int .i64 1)), none, 0⟩, ⟨(some p5), .mv (.t p33), none, 0⟩])))
def c_n_0 : CC := (.seq (.ops [⟨(some p4), .mv (.c (.bool true)), none, 0⟩]) [p4] .ret)
def c_n : CC := (.seq (.ops [⟨(some p2), .box (.t p0), none, 0⟩, ⟨(some p3), .box (.t p1), none, 0⟩, ⟨(some p4), .mv (.c (.bool false)), none, 0⟩]) [p2, p3] (.seq (.seq (.ops [⟨(some p6), .fieldAddr 0 (.t p2), none, 0⟩, ⟨(some p7), .load1 (.t p6), none, 0⟩, ⟨(some p8), .fieldAddr 0 (.t p3), none, 0⟩, ⟨(some p9), .load1 (.t p8), none, 0⟩, ⟨(some p10), .bin .neq .other (.t p7) (.t p9), none, 0⟩, ⟨(some p11), .mv (.t p10), none, 0⟩, ⟨(some p12), .fieldAddr 1 (.t p2), (some (p11, false)), 0⟩, ⟨(some p13), .load1 (.t p12), (some (p11, false)), 0⟩, ⟨(some p14), .fieldAddr 1 (.t p3), (some (p11, false)), 0⟩, ⟨(some p15), .load1 (.t p14), (some (p11, false)), 0⟩, ⟨(some p16), .bin .neq .other (.t p13) (.t p15), (some (p11, false)), 0⟩, ⟨(some p17), .pick (.t p11) (.c (.bool true)) (.t p16), none, 0⟩, ⟨(some p18), .mv (.t p17), none, 0⟩, ⟨(some p19), .fieldAddr 2 (.t p2), (some (p18, false)), 0⟩, ⟨(some p20), .load1 (.t p19), (some (p18, false)), 0⟩, ⟨(some p21), .blt .len [(.t p20)], (some (p18, false)), 0⟩, ⟨(some p22), .fieldAddr 2 (.t p3), (some (p18, false)), 0⟩, ⟨(some p23), .load1 (.t p22), (some (p18, false)), 0⟩, ⟨(some p24), .blt .len [(.t p23)], (some (p18, false)), 0⟩, ⟨(some p25), .bin .neq .other (.t p21) (.t p24), (some (p18, false)), 0⟩, ⟨(some p26), .pick (.t p18) (.c (.bool true)) (.t p25), none, 0⟩]) [p2, p3, p26] (.cond (.t p26) (.seq (.ops [⟨(some p4), .mv (.c (.bool false)), none, 0⟩]) [p4] .ret) .skip)) [p2, p3] (.seq (.seq (.ops [⟨(some p5), .mv (.c (.int .i64 0)), none, 0⟩]) [p2, p3, p5] (.block 0 (.loop [p2, p3, p5] c_n_1))) [] c_n_0)))
def f_n : zw := ⟨45, [.tmp p4], c_n, none⟩
def c_A : CC := (.seq (.ops [⟨(some p0), .mv (.c (.bool false)), none, 0⟩]) [] (.seq (.ops [⟨(some p17), .build [(.int .i64 0), (.int .i64 0), (.int .i64 0)] [(0, 1, (.c (.int .i64 0))), (1, 1, (.c (.int .i64 1))), (2, 1, (.c (.int .i64 1)))], none, 0⟩, ⟨(some p18), .build [(.int .i64 0), (.int .i64 0), (.int .i64 0)] [(0, 1, (.c (.int .i64 1))), (1, 1, (.c (.int .i64 2))), (2, 1, (.c (.int .i64 1)))], none, 0⟩, ⟨(some p19), .build [(.int .i64 0), (.int .i64 0), (.int .i64 0)] [(0, 1, (.c (.int .i64 1))), (1, 1, (.c (.int .i64 3))), (2, 1, (.c (.int .i64 2)))], none, 0⟩, ⟨(some p20), .buildSlice 3 3 [(.int .i64 0), (.int .i64 0), (.int .i64 0)] [(0, (.t p17)), (1, (.t p18)), (2, (.t p19))], none, 0⟩, ⟨(some p21), .call (.c (.func (.func n_s) #[] #[])) [(.t p20)], none, 0⟩, ⟨(some p22), .build [(.int .i64 0), (.int .i64 0), (.slice none 0 0)] [(0, 1, (.c (.int .i64 4))), (1, 1, (.c (.int .i64 3))), (2, 1, (.t p21))], none, 0⟩, ⟨(some p1), .alloc [(.int .i64 0), (.int .i64 0), (.slice none 0 0)], none, 0⟩, ⟨none, .store 3 (.t p1) (.t p22), none, 0⟩]) [p1] (.seq (.ops [⟨(some p23), .build [(.int .i64 0), (.int .i64 0), (.int .i64 0)] [(0, 1, (.c (.int .i64 0))), (1, 1, (.c (.int .i64 1))), (2, 1, (.c (.int .i64 1)))], none, 0⟩, ⟨(some p24), .build [(.int .i64 0), (.int .i64 0), (.int .i64 0)] [(0, 1, (.c (.int .i64 0))), (1, 1, (.c (.int .i64 2))), (2, 1, (.c (.int .i64 1)))], none, 0⟩, ⟨(some p25), .build [(.int .i64 0), (.int .i64 0), (.int .i64 0)] [(0, 1, (.c (.int .i64 1))), (1, 1, (.c (.int .i64 3))), (2, 1, (.c (.int .i64 1)))], none, 0⟩, ⟨(some p26), .build [(.int .i64 0), (.int .i64 0), (.int .i64 0)] [(0, 1, (.c (.int .i64 2))), (1, 1, (.c (.int .i64 4))), (2, 1, (.c (.int .i64 2)))], none, 0⟩, ⟨(some p27), .buildSlice 4 3 [(.int .i64 0), (.int .i64 0), (.int .i64 0)] [(0, (.t p23)), (1, (.t p24)), (2, (.t p25)), (3, (.t p26))], none, 0⟩, ⟨(some p28), .call (.c (.func (.func n_s) #[] #[])) [(.t p27)], none, 0⟩, ⟨(some p29), .build [(.int .i64 0), (.int .i64 0), (.slice none 0 0)] [(0, 1, (.c (.int .i64 5))), (1, 1, (.c (.int .i64 3))), (2, 1, (.t p28))], none, 0⟩, ⟨(some p2), .alloc [(.int .i64 0), (.int .i64 0), (.slice none 0 0)], none, 0⟩, ⟨none, .store 3 (.t p2) (.t p29), none, 0⟩]) [p1, p2] (.seq (.ops [⟨(some p31), .loadN 3 (.t p1), none, 0⟩, ⟨(some p32), .call (.c (.func (.func n_G) #[] #[])) [(.t p31)], none, 0⟩, ⟨(some p30), .mv (.t p32), none, 0⟩, ⟨(some p33), .extract (.t p30) 0, none, 0⟩, ⟨(some p34), .extract (.t p30) 1, none, 0⟩, ⟨(some p3), .mv (.t p33), none, 0⟩, ⟨(some p4), .mv (.t p34), none, 0⟩]) [p1, p2, p3, p4] (.seq (.ops [⟨(some p36), .loadN 3 (.t p2), none, 0⟩, ⟨(some p37), .call (.c (.func (.func n_G) #[] #[])) [(.t p36)], none, 0⟩, ⟨(some p35), .mv (.t p37), none, 0⟩, ⟨(some p38), .extract (.t p35) 0, none, 0⟩, ⟨(some p39), .extract (.t p35) 1, none, 0⟩, ⟨(some p5), .mv (.t p38), none, 0⟩, ⟨(some p6), .mv (.t p39), none, 0⟩]) [p1, p2, p3, p4, p5, p6] (.seq (.ops [⟨(some p41), .loadN 3 (.t p1), none, 0⟩, ⟨(some p42), .loadN 3 (.t p2), none, 0⟩, ⟨(some p43), .call (.c (.func (.func n_L) #[] #[])) [(.t p41), (.t p42)], none, 0⟩, ⟨(some p40), .mv (.t p43), none, 0⟩, ⟨(some p44), .extract (.t p40) 0, none, 0⟩, ⟨(some p45), .extract (.t p40) 1, none, 0⟩, ⟨(some p7), .mv (.t p44), none, 0⟩, ⟨(some p8), .mv (.t p45), none, 0⟩]) [p1, p2, p3, p4, p5, p6, p7, p8] (.seq (.ops [⟨(some p47), .loadN 3 (.t p1), none, 0⟩, ⟨(some p48), .loadN 3 (.t p2), none, 0⟩, ⟨(some p49), .call (.c (.func (.func n_u) #[] #[])) [(.t p47), (.t p48)], none, 0⟩, ⟨(some p50), .call (.c (.func (.func n_I) #[] #[])) [(.t p49), (.c (.int .i64 0)), (.c (.int .i64 4))], none, 0⟩, ⟨(some p46), .mv (.t p50), none, 0⟩, ⟨(some p51), .extract (.t p46) 0, none, 0⟩, ⟨(some p52), .extract (.t p46) 1, none, 0⟩, ⟨(some p9), .alloc [(.int .i64 0), (.int .i64 0), (.slice none 0 0)], none, 0⟩, ⟨none, .store 3 (.t p9) (.t p51), none, 0⟩, ⟨(some p10), .mv (.t p52), none, 0⟩]) [p3, p4, p5, p6, p7, p8, p9, p10] (.seq (.ops [⟨(some p54), .build [(.int .i64 0), (.int .i64 0), (.int .i64 0)] [(0, 1, (.c (.int .i64 0))), (1, 1, (.c (.int .i64 1))), (2, 1, (.c (.int .i64 0)))], none, 0⟩, ⟨(some p55), .build [(.int .i64 0), (.int .i64 0), (.int .i64 0)] [(0, 1, (.c (.int .i64 1))), (1, 1, (.c (.int .i64 0))), (2, 1, (.c (.int .i64 1)))], none, 0⟩, ⟨(some p56), .buildSlice 2 3 [(.int .i64 0), (.int .i64 0), (.int .i64 0)] [(0, (.t p54)), (1, (.t p55))], none, 0⟩, ⟨(some p57), .call (.c (.func (.func n_s) #[] #[])) [(.t p56)], none, 0⟩, ⟨(some p58), .build [(.int .i64 0), (.int .i64 0), (.slice none 0 0)] [(0, 1, (.c (.int .i64 2))), (1, 1, (.c (.int .i64 2))), (2, 1, (.t p57))], none, 0⟩, ⟨(some p59), .call (.c (.func (.func n_M) #[] #[])) [(.t p58)], none, 0⟩, ⟨(some p53), .mv (.t p59), none, 0⟩, ⟨(some p60), .extract (.t p53) 0, none, 0⟩, ⟨(some p61), .extract (.t p53) 1, none, 0⟩, ⟨(some p11), .alloc [(.int .i64 0), (.int .i64 0), (.slice none 0 0)], none, 0⟩, ⟨none, .store 3 (.t p11) (.t p60), none, 0⟩, ⟨(some p12), .mv (.t p61), none, 0⟩]) [p3, p4, p5, p6, p7, p8, p9, p10, p11, p12] (.seq (.seq (.ops [⟨(some p62), .mv (.t p4), none, 0⟩, ⟨(some p63), .bin .neq .other (.t p62) (.c (.int .i64 0)), none, 0⟩, ⟨(some p64), .mv (.t p63), none, 0⟩, ⟨(some p65), .mv (.t p6), (some (p64, false)), 0⟩, ⟨(some p66), .bin .neq .other (.t p65) (.c (.int .i64 0)), (some (p64, false)), 0⟩, ⟨(some p67), .pick (.t p64) (.c (.bool true)) (.t p66), none, 0⟩, ⟨(some p68), .mv (.t p67), none, 0⟩, ⟨(some p69), .mv (.t p8), (some (p68, false)), 0⟩, ⟨(some p70), .bin .neq .other (.t p69) (.c (.int .i64 0)), (some (p68, false)), 0⟩, ⟨(some p71), .pick (.t p68) (.c (.bool true)) (.t p70), none, 0⟩, ⟨(some p72), .mv (.t p71), none, 0⟩, ⟨(some p73), .mv (.t p10), (some (p72, false)), 0⟩, ⟨(some p74), .bin .neq .other (.t p73) (.c (.int .i64 0)), (some (p72, false)), 0⟩, ⟨(some p75), .pick (.t p72) (.c (.bool true)) (.t p74), none, 0⟩, ⟨(some p76), .mv (.t p75), none, 0⟩, ⟨(some p77), .mv (.t p12), (some (p76, false)), 0⟩, ⟨(some p78), .bin .neq .other (.t p77) (.c (.int .i64 0)), (some (p76, false)), 0⟩, ⟨(some p79), .pick (.t p76) (.c (.bool true)) (.t p78), none, 0⟩]) [p3, p5, p7, p9, p11, p79] (.cond (.t p79) (.seq (.ops [⟨(some p0), .mv (.c (.bool false)), none, 0⟩]) [p0] .ret) .skip)) [p3, p5, p7, p9, p11] (.seq (.ops [⟨(some p80), .build [(.int .i64 0), (.int .i64 0), (.slice none 0 0)] [(0, 1, (.c (.int .i64 3)))], none, 0⟩, ⟨(some p13), .alloc [(.int .i64 0), (.int .i64 0), (.slice none 0 0)], none, 0⟩, ⟨none, .store 3 (.t p13) (.t p80), none, 0⟩]) [p3, p5, p7, p9, p11, p13] (.seq (.ops [⟨(some p81), .loadN 3 (.t p13), none, 0⟩, ⟨(some p82), .buildSlice 1 3 [(.int .i64 0), (.int .i64 0), (.slice none 0 0)] [(0, (.t p81))], none, 0⟩, ⟨(some p83), .build [(.int .i64 0), (.int .i64 0), (.slice none 0 0)] [(0, 1, (.c (.int .i64 4))), (1, 1, (.c (.int .i64 2))), (2, 1, (.t p82))], none, 0⟩, ⟨(some p84), .loadN 3 (.t p13), none, 0⟩, ⟨(some p85), .buildSlice 1 3 [(.int .i64 0), (.int .i64 0), (.slice none 0 0)] [(0, (.t p84))], none, 0⟩, ⟨(some p86), .build [(.int .i64 0), (.int .i64 0), (.slice none 0 0)] [(0, 1, (.c (.int .i64 4))), (1, 1, (.c (.int .i64 1))), (2, 1, (.t p85))], none, 0⟩, ⟨(some p87), .buildSlice 2 3 [(.int .i64 0), (.int .i64 0), (.slice none 0 0)] [(0, (.t p83)), (1, (.t p86))], none, 0⟩, ⟨(some p14), .mv (.t p87), none, 0⟩]) [p3, p5, p7, p9, p11, p14] (.seq (.ops [⟨(some p88), .mv (.t p14), none, 0⟩, ⟨(some p89), .build [(.int .i64 0), (.int .i64 0), (.slice none 0 0)] [(0, 1, (.c (.int .i64 3))), (2, 1, (.t p88))], none, 0⟩, ⟨(some p90), .buildSlice 1 3 [(.int .i64 0), (.int .i64 0), (.slice none 0 0)] [(0, (.t p89))], none, 0⟩, ⟨(some p91), .build [(.int .i64 0), (.int .i64 0), (.slice none 0 0)] [(0, 1, (.c (.int .i64 4))), (1, 1, (.c (.int .i64 1))), (2, 1, (.t p90))], none, 0⟩, ⟨(some p15), .alloc [(.int .i64 0), (.int .i64 0), (.slice none 0 0)], none, 0⟩, ⟨none, .store 3 (.t p15) (.t p91), none, 0⟩]) [p3, p5, p7, p9, p11, p15] (.seq (.ops [⟨(some p92), .build [(.int .i64 0), (.int .i64 0), (.int .i64 0)] [(0, 1, (.c (.int .i64 0))), (1, 1, (.c (.int .i64 0))), (2, 1, (.c (.int .i64 0)))], none, 0⟩, ⟨(some p93), .build [(.int .i64 0), (.int .i64 0), (.int .i64 0)] [(0, 1, (.c (.int .i64 0))), (1, 1, (.c (.int .i64 1))), (2, 1, (.c (.int .i64 0)))], none, 0⟩, ⟨(some p94), .build [(.int .i64 0), (.int .i64 0), (.int .i64 0)] [(0, 1, (.c (.int .i64 0))), (1, 1, (.c (.int .i64 0))), (2, 1, (.c (.int .i64 1)))], none, 0⟩, ⟨(some p95), .build [(.int .i64 0), (.int .i64 0), (.int .i64 0)] [(0, 1, (.c (.int .i64 0))), (1, 1, (.c (.int .i64 1))), (2, 1, (.c (.int .i64 1)))], none, 0⟩, ⟨(some p96), .build [(.int .i64 0), (.int .i64 0), (.int .i64 0)] [(0, 1, (.c (.int .i64 1))), (1, 1, (.c (.int .i64 1))), (2, 1, (.c (.int .i64 0)))], none, 0⟩, ⟨(some p97), .build [(.int .i64 0), (.int .i64 0), (.int .i64 0)] [(0, 1, (.c (.int .i64 1))), (1, 1, (.c (.int .i64 0))), (2, 1, (.c (.int .i64 1)))], none, 0⟩, ⟨(some p98), .build [(.int .i64 0), (.int .i64 0), (.int .i64 0)] [(0, 1, (.c (.int .i64 1))), (1, 1, (.c (.int .i64 1))), (2, 1, (.c (.int .i64 1)))], none, 0⟩, ⟨(some p99), .buildSlice 7 3 [(.int .i64 0), (.int .i64 0), (.int .i64 0)] [(0, (.t p92)), (1, (.t p93)), (2, (.t p94)), (3, (.t p95)), (4, (.t p96)), (5, (.t p97)), (6, (.t p98))], none, 0⟩, ⟨(some p100), .call (.c (.func (.func n_s) #[] #[])) [(.t p99)], none, 0⟩, ⟨(some p16), .mv (.t p100), none, 0⟩]) [p3, p5, p7, p9, p11, p15, p16] (.seq (.ops [⟨(some p101), .mv (.t p3), none, 0⟩, ⟨(some p102), .buildSlice 4 1 [(.int .i64 0)] [(0, (.c (.int .i64 0))), (1, (.c (.int .i64 1))), (2, (.c (.int .i64 2))), (3, (.c (.int .i64 2)))], none, 0⟩, ⟨(some p103), .call (.c (.func (.func n_p) #[] #[])) [(.t p101), (.t p102)], none, 0⟩, ⟨(some p104), .mv (.t p103), none, 0⟩, ⟨(some p105), .mv (.t p5), (some (p104, true)), 0⟩, ⟨(some p106), .buildSlice 5 1 [(.int .i64 0)] [(0, (.c (.int .i64 0))), (1, (.c (.int .i64 1))), (2, (.c (.int .i64 2))), (3, (.c (.int .i64 3))), (4, (.c (.int .i64 3)))], (some (p104, true)), 0⟩, ⟨(some p107), .call (.c (.func (.func n_p) #[] #[])) [(.t p105), (.t p106)], (some (p104, true)), 0⟩, ⟨(some p108), .pick (.t p104) (.t p107) (.c (.bool false)), none, 0⟩, ⟨(some p109), .mv (.t p108), none, 0⟩, ⟨(some p110), .mv (.t p7), (some (p109, true)), 0⟩, ⟨(some p111), .un .not (.t p110), (some (p109, true)), 0⟩, ⟨(some p112), .pick (.t p109) (.t p111) (.c (.bool false)), none, 0⟩, ⟨(some p113), .mv (.t p112), none, 0⟩, ⟨(some p114), .loadN 3 (.t p9), (some (p113, true)), 0⟩, ⟨(some p115), .loadN 3 (.t p15), (some (p113, true)), 0⟩, ⟨(some p116), .call (.c (.func (.func n_l) #[] #[])) [(.t p114), (.t p115)], (some (p113, true)), 0⟩, ⟨(some p117), .pick (.t p113) (.t p116) (.c (.bool false)), none, 0⟩, ⟨(some p118), .mv (.t p117), none, 0⟩, ⟨(some p119), .loadN 3 (.t p11), (some (p118, true)), 0⟩, ⟨(some p120), .mv (.t p16), (some (p118, true)), 0⟩, ⟨(some p121), .build [(.int .i64 0), (.int .i64 0), (.slice none 0 0)] [(0, 1, (.c (.int .i64 2))), (1, 1, (.c (.int .i64 2))), (2, 1, (.t p120))], (some (p118, true)), 0⟩, ⟨(some p122), .call (.c (.func (.func n_n) #[] #[])) [(.t p119), (.t p121)], (some (p118, true)), 0⟩, ⟨(some p123), .pick (.t p118) (.t p122) (.c (.bool false)), none, 0⟩, ⟨(some p0), .mv (.t p123), none, 0⟩]) [p0] .ret))))))))))))))
def f_A : zw := ⟨124, [.tmp p0], c_A, none⟩
def c_l_1 : CC := (.seq (.seq (.ops [⟨(some p27), .mv (.t p5), none, 0⟩, ⟨(some p28), .fieldAddr 2 (.t p2), none, 0⟩, ⟨(some p29), .load1 (.t p28), none, 0⟩, ⟨(some p30), .blt .len [(.t p29)], none, 0⟩, ⟨(some p31), .bin .lss .other (.t p27) (.t p30), none, 0⟩]) [p2, p3, p5, p31] (.cond (.t p31) .skip (.exit 0))) [p2, p3, p5] (.seq (.block 1 (.seq (.draw [⟨(some p34), .fieldAddr 2 (.t p2), none, 0⟩, ⟨(some p35), .load1 (.t p34), none, 0⟩, ⟨(some p36), .mv (.t p5), none, 0⟩, ⟨(some p37), .indexAddr 3 (.t p35) (.t p36), none, 0⟩, ⟨(some p38), .loadN 3 (.t p37), none, 0⟩, ⟨(some p39), .fieldAddr 2 (.t p3), none, 0⟩, ⟨(some p40), .load1 (.t p39), none, 0⟩, ⟨(some p41), .mv (.t p5), none, 0⟩, ⟨(some p42), .indexAddr 3 (.t p40) (.t p41), none, 0⟩, ⟨(some p43), .loadN 3 (.t p42), none, 0⟩, ⟨(some p44), .call (.c (.func (.func n_l) #[] #[])) [(.t p38), (.t p43)], none, 0⟩, ⟨(some p45), .un .not (.t p44), none, 1⟩]) [p2, p3, p5, p45] (.cond (.t p45) (.seq (.ops [⟨(some p4), .mv (.c (.bool false)), none, 0⟩]) [p4] .ret) .skip))) [p2, p3, p5] (.ops [⟨(some p32), .mv (.t p5), none, 0⟩, ⟨(some p33), .bin .add .other (.t p32) (.c (.int .i64 1)), none, 0⟩, ⟨(some p5), .mv (.t p33), none, 0⟩])))
def c_l_0 : CC := (.seq (.ops [⟨(some p4), .mv (.c (.bool true)), none, 0⟩]) [p4] .ret)
def c_l : CC := (.seq (.ops [⟨(some p2), .box (.t p0), none, 0⟩, ⟨(some p3), .box (.t p1), none, 0⟩, ⟨(some p4), .mv (.c (.bool false)), none, 0⟩]) [p2, p3] (.seq (.seq (.ops [⟨(some p6), .fieldAddr 0 (.t p2), none, 0⟩, ⟨(some p7), .load1 (.t p6), none, 0⟩, ⟨(some p8), .fieldAddr 0 (.t p3), none, 0⟩, ⟨(some p9), .load1 (.t p8), none, 0⟩, ⟨(some p10), .bin .neq .other (.t p7) (.t p9), none, 0⟩, ⟨(some p11), .mv (.t p10), none, 0⟩, ⟨(some p12), .fieldAddr 1 (.t p2), (some (p11, false)), 0⟩, ⟨(some p13), .load1 (.t p12), (some (p11, false)), 0⟩, ⟨(some p14), .fieldAddr 1 (.t p3), (some (p11, false)), 0⟩, ⟨(some p15), .load1 (.t p14), (some (p11, false)), 0⟩, ⟨(some p16), .bin .neq .other (.t p13) (.t p15), (some (p11, false)), 0⟩, ⟨(some p17), .pick (.t p11) (.c (.bool true)) (.t p16), none, 0⟩, ⟨(some p18), .mv (.t p17), none, 0⟩, ⟨(some p19), .fieldAddr 2 (.t p2), (some (p18, false)), 0⟩, ⟨(some p20), .load1 (.t p19), (some (p18, false)), 0⟩, ⟨(some p21), .blt .len [(.t p20)], (some (p18, false)), 0⟩, ⟨(some p22), .fieldAddr 2 (.t p3), (some (p18, false)), 0⟩, ⟨(some p23), .load1 (.t p22), (some (p18, false)), 0⟩, ⟨(some p24), .blt .len [(.t p23)], (some (p18, false)), 0⟩, ⟨(some p25), .bin .neq .other (.t p21) (.t p24), (some (p18, false)), 0⟩, ⟨(some p26), .pick (.t p18) (.c (.bool true)) (.t p25), none, 0⟩]) [p2, p3, p26] (.cond (.t p26) (.seq (.ops [⟨(some p4), .mv (.c (.bool false)), none, 0⟩]) [p4] .ret) .skip)) [p2, p3] (.seq (.seq (.ops [⟨(some p5), .mv (.c (.int .i64 0)), none, 0⟩]) [p2, p3, p5] (.block 0 (.loop [p2, p3, p5] c_l_1))) [] c_l_0)))
def f_l : zw := ⟨46, [.tmp p4], c_l, none⟩
def c_L : CC := (.seq (.ops [⟨(some p2), .box (.t p0), none, 0⟩, ⟨(some p3), .box (.t p1), none, 0⟩, ⟨(some p4), .mv (.c (.bool false)), none, 0⟩, ⟨(some p5), .mv (.c (.int .i64 0)), none, 0⟩]) [p2, p3] (.seq (.seq (.ops [⟨(some p6), .loadN 3 (.t p2), none, 0⟩, ⟨(some p7), .loadN 3 (.t p3), none, 0⟩, ⟨(some p8), .call (.c (.func (.func n_J) #[] #[])) [(.t p6), (.t p7)], none, 0⟩, ⟨(some p9), .un .not (.t p8), none, 0⟩]) [p2, p3, p9] (.cond (.t p9) (.seq (.ops [⟨(some p4), .mv (.c (.bool false)), none, 0⟩, ⟨(some p5), .mv (.c (.int .i64 2)), none, 0⟩]) [p4, p5] .ret) .skip)) [p2, p3] (.seq (.ops [⟨(some p10), .loadN 3 (.t p2), none, 0⟩, ⟨(some p11), .loadN 3 (.t p3), none, 0⟩, ⟨(some p12), .call (.c (.func (.func n_C) #[] #[])) [(.t p10), (.t p11)], none, 0⟩, ⟨(some p4), .mv (.t p12), none, 0⟩, ⟨(some p5), .mv (.c (.int .i64 0)), none, 0⟩]) [p4, p5] .ret)))
def f_L : zw := ⟨13, [.tmp p4, .tmp p5], c_L, none⟩
def c_p_1 : CC := (.seq (.seq (.ops [⟨(some p11), .mv (.t p5), none, 0⟩, ⟨(some p12), .mv (.t p0), none, 0⟩, ⟨(some p13), .blt .len [(.t p12)], none, 0⟩, ⟨(some p14), .bin .lss .other (.t p11) (.t p13), none, 0⟩]) [p0, p1, p5, p14] (.cond (.t p14) .skip (.exit 0))) [p0, p1, p5] (.seq (.block 1 (.seq (.draw [⟨(some p17), .mv (.t p0), none, 0⟩, ⟨(some p18), .mv (.t p5), none, 0⟩, ⟨(some p19), .indexAddr 1 (.t p17) (.t p18), none, 0⟩, ⟨(some p20), .load1 (.t p19), none, 0⟩, ⟨(some p21), .mv (.t p1), none, 0⟩, ⟨(some p22), .mv (.t p5), none, 0⟩, ⟨(some p23), .indexAddr 1 (.t p21) (.t p22), none, 0⟩, ⟨(some p24), .load1 (.t p23), none, 0⟩, ⟨(some p25), .bin .neq .other (.t p20) (.t p24), none, 0⟩]) [p0, p1, p5, p25] (.cond (.t p25) (.seq (.ops [⟨(some p4), .mv (.c (.bool false)), none, 0⟩]) [p4] .ret) .skip))) [p0, p1, p5] (.ops [⟨(some p15), .mv (.t p5), none, 0⟩, ⟨(some p16), .bin .add .other (.t p15) (.c (.int .i64 1)), none, 0⟩, ⟨(some p5), .mv (.t p16), none, 0⟩])))
def c_p_0 : CC := (.seq (.ops [⟨(some p4), .mv (.c (.bool true)), none, 0⟩]) [p4] .ret)
def c_p : CC := (.seq (.ops [⟨(some p4), .mv (.c (.bool false)), none, 0⟩]) [p0, p1] (.seq (.seq (.ops [⟨(some p6), .mv (.t p0), none, 0⟩, ⟨(some p7), .blt .len [(.t p6)], none, 0⟩, ⟨(some p8), .mv (.t p1), none, 0⟩, ⟨(some p9), .blt .len [(.t p8)], none, 0⟩, ⟨(some p10), .bin .neq .other (.t p7) (.t p9), none, 0⟩]) [p0, p1, p10] (.cond (.t p10) (.seq (.ops [⟨(some p4), .mv (.c (.bool false)), none, 0⟩]) [p4] .ret) .skip)) [p0, p1] (.seq (.seq (.ops [⟨(some p5), .mv (.c (.int .i64 0)), none, 0⟩]) [p0, p1, p5] (.block 0 (.loop [p0, p1, p5] c_p_1))) [] c_p_0)))
def f_p : zw := ⟨26, [.tmp p4], c_p, none⟩
def c_c_1 : CC := (.seq (.ops [⟨(some p29), .bin .lss .other (.t p28) (.t p27), none, 0⟩]) [p1, p2, p3, p4, p27, p28, p29] (.seq (.cond (.t p29) .skip (.exit 0)) [p1, p2, p3, p4, p27, p28] (.seq (.block 1 (.seq (.ops [⟨(some p30), .mv (.t p28), none, 0⟩, ⟨(some p5), .mv (.t p30), none, 0⟩]) [p1, p2, p3, p4, p5, p27, p28] (.draw [⟨(some p33), .loadN 3 (.t p1), none, 0⟩, ⟨(some p34), .mv (.t p5), none, 0⟩, ⟨(some p35), .call (.c (.func (.func n_q) #[] #[])) [(.t p33), (.t p34)], none, 0⟩, ⟨(some p31), .load1 (.t p4), none, 0⟩, ⟨(some p32), .mv (.t p5), none, 0⟩, ⟨(some p36), .indexAddr 1 (.t p31) (.t p32), none, 1⟩, ⟨none, .store 1 (.t p36) (.t p35), none, 1⟩]))) [p1, p2, p3, p4, p27, p28] (.ops [⟨(some p37), .bin .add .other (.t p28) (.c (.int .i64 1)), none, 0⟩, ⟨(some p28), .mv (.t p37), none, 0⟩]))))
def c_c_6 : CC := (.seq (.ops [⟨(some p49), .bin .lss .other (.t p48) (.t p47), none, 0⟩]) [p1, p2, p3, p4, p6, p7, p39, p40, p47, p48, p49] (.seq (.cond (.t p49) .skip (.exit 4)) [p1, p2, p3, p4, p6, p7, p39, p40, p47, p48] (.seq (.block 5 (.seq (.ops [⟨(some p50), .mv (.t p48), none, 0⟩, ⟨(some p8), .mv (.t p50), none, 0⟩]) [p1, p2, p3, p4, p6, p7, p8, p39, p40, p47, p48] (.draw [⟨(some p51), .load1 (.t p7), none, 0⟩, ⟨(some p52), .mv (.t p8), none, 0⟩, ⟨(some p53), .fieldAddr 0 (.t p1), none, 0⟩, ⟨(some p54), .load1 (.t p53), none, 0⟩, ⟨(some p55), .makeSlice 1 1 [(.bool false)] (.t p54) (.t p54), none, 0⟩, ⟨(some p56), .indexAddr 1 (.t p51) (.t p52), none, 0⟩, ⟨none, .store 1 (.t p56) (.t p55), none, 0⟩]))) [p1, p2, p3, p4, p6, p7, p39, p40, p47, p48] (.ops [⟨(some p57), .bin .add .other (.t p48) (.c (.int .i64 1)), none, 0⟩, ⟨(some p48), .mv (.t p57), none, 0⟩]))))
def c_c_12 : CC := (.seq (.ops [⟨(some p83), .bin .lss .other (.t p82) (.t p81), none, 0⟩]) [p7, p11, p80, p81, p82, p83] (.seq (.cond (.t p83) .skip (.exit 10)) [p7, p11, p80, p81, p82] (.seq (.block 11 (.seq (.ops [⟨(some p84), .indexAddr 1 (.t p80) (.t p82), none, 0⟩, ⟨(some p85), .load1 (.t p84), none, 0⟩, ⟨(some p13), .mv (.t p85), none, 0⟩]) [p7, p11, p13, p80, p81, p82] (.ops [⟨(some p86), .load1 (.t p7), none, 0⟩, ⟨(some p87), .fieldAddr 2 (.t p11), none, 0⟩, ⟨(some p88), .load1 (.t p87), none, 0⟩, ⟨(some p89), .indexAddr 1 (.t p86) (.t p88), none, 0⟩, ⟨(some p90), .load1 (.t p89), none, 0⟩, ⟨(some p91), .mv (.t p13), none, 0⟩, ⟨(some p92), .indexAddr 1 (.t p90) (.t p91), none, 0⟩, ⟨none, .store 1 (.t p92) (.c (.bool true)), none, 0⟩]))) [p7, p11, p80, p81, p82] (.ops [⟨(some p93), .bin .add .other (.t p82) (.c (.int .i64 1)), none, 0⟩, ⟨(some p82), .mv (.t p93), none, 0⟩]))))
def c_c_10 : CC := (.ops [⟨(some p11), .alloc [(.int .i64 0), (.int .i64 0), (.int .i64 0)], none, 0⟩, ⟨none, .store 3 (.t p11) (.t p75), none, 0⟩])
def c_c_11 : CC := (.block 9 (.seq (.ops [⟨(some p76), .load1 (.t p4), none, 0⟩, ⟨(some p77), .fieldAddr 1 (.t p11), none, 0⟩, ⟨(some p78), .load1 (.t p77), none, 0⟩, ⟨(some p79), .indexAddr 1 (.t p76) (.t p78), none, 0⟩, ⟨(some p80), .load1 (.t p79), none, 0⟩, ⟨(some p81), .blt .len [(.t p80)], none, 0⟩, ⟨(some p82), .mv (.c (.int .i64 0)), none, 0⟩]) [p7, p11, p80, p81, p82] (.block 10 (.loop [p7, p11, p80, p81, p82] c_c_12))))
def r_c_10 : RC := ⟨(n_c * 1000 + 10), [p4, p7], [p75], c_c_10, c_c_11⟩
def c_c_9 : CC := (.ops [⟨(some p94), .bin .add .other (.t p63) (.c (.int .i64 1)), none, 0⟩, ⟨(some p63), .mv (.t p94), none, 0⟩])
def c_c_8 : CC := (.seq (.ops [⟨(some p64), .bin .lss .other (.t p63) (.t p62), none, 0⟩]) [p1, p2, p3, p4, p6, p7, p39, p40, p61, p62, p63, p64] (.seq (.cond (.t p64) .skip (.exit 6)) [p1, p2, p3, p4, p6, p7, p39, p40, p61, p62, p63] (.seq (.block 7 (.seq (.ops [⟨(some p65), .indexAddr 1 (.t p61) (.t p63), none, 0⟩, ⟨(some p66), .load1 (.t p65), none, 0⟩, ⟨(some p10), .mv (.t p66), none, 0⟩]) [p1, p2, p3, p4, p6, p7, p10, p39, p40, p61, p62, p63] (.seq (.ops [⟨(some p67), .load1 (.t p7), none, 0⟩, ⟨(some p68), .indexAddr 1 (.t p67) (.c (.int .i64 0)), none, 0⟩, ⟨(some p69), .load1 (.t p68), none, 0⟩, ⟨(some p70), .mv (.t p10), none, 0⟩, ⟨(some p71), .indexAddr 1 (.t p69) (.t p70), none, 0⟩, ⟨none, .store 1 (.t p71) (.c (.bool true)), none, 0⟩]) [p1, p2, p3, p4, p6, p7, p10, p39, p40, p61, p62, p63] (.seq (.ops [⟨(some p72), .loadN 3 (.t p1), none, 0⟩, ⟨(some p73), .mv (.t p10), none, 0⟩, ⟨(some p74), .call (.c (.func (.func n_y) #[] #[])) [(.t p72), (.t p73)], none, 0⟩]) [p1, p2, p3, p4, p6, p7, p39, p40, p61, p62, p63, p74] (.block 8 (.rangeFunc (n_c * 1000 + 10) [p4, p7] (.t p74) [p75] c_c_10 c_c_11)))))) [p1, p2, p3, p4, p6, p7, p39, p40, p61, p62, p63] c_c_9)))
def c_c_16 : CC := (.ops [⟨(some p119), .bin .add .other (.t p104) (.c (.int .i64 1)), none, 0⟩, ⟨(some p104), .mv (.t p119), none, 0⟩])
def c_c_15 : CC := (.seq (.ops [⟨(some p105), .bin .lss .other (.t p104) (.t p103), none, 0⟩]) [p1, p2, p3, p4, p6, p14, p39, p40, p95, p96, p97, p102, p103, p104, p105] (.seq (.cond (.t p105) .skip (.exit 14)) [p1, p2, p3, p4, p6, p14, p39, p40, p95, p96, p97, p102, p103, p104] (.seq (.block 15 (.seq (.ops [⟨(some p106), .mv (.t p104), none, 0⟩, ⟨(some p107), .indexAddr 1 (.t p102) (.t p104), none, 0⟩, ⟨(some p108), .load1 (.t p107), none, 0⟩, ⟨(some p16), .mv (.t p106), none, 0⟩, ⟨(some p17), .mv (.t p108), none, 0⟩]) [p1, p2, p3, p4, p6, p14, p16, p17, p39, p40, p95, p96, p97, p102, p103, p104] (.seq (.ops [⟨(some p109), .mv (.t p17), none, 0⟩]) [p1, p2, p3, p4, p6, p14, p16, p39, p40, p95, p96, p97, p102, p103, p104, p109] (.cond (.t p109) (.ops [⟨(some p110), .fieldAddr 2 (.t p3), none, 0⟩, ⟨(some p111), .load1 (.t p110), none, 0⟩, ⟨(some p112), .mv (.t p6), none, 0⟩, ⟨(some p113), .mv (.t p16), none, 0⟩, ⟨(some p114), .mv (.t p14), none, 0⟩, ⟨(some p115), .build [(.int .i64 0), (.int .i64 0), (.int .i64 0)] [(0, 1, (.t p112)), (1, 1, (.t p113)), (2, 1, (.t p114))], none, 0⟩, ⟨(some p116), .buildSlice 1 3 [(.int .i64 0), (.int .i64 0), (.int .i64 0)] [(0, (.t p115))], none, 0⟩, ⟨(some p117), .blt (.append 3 24) [(.t p111), (.t p116)], none, 0⟩, ⟨(some p118), .fieldAddr 2 (.t p3), none, 0⟩, ⟨none, .store 1 (.t p118) (.t p117), none, 0⟩]) .skip)))) [p1, p2, p3, p4, p6, p14, p39, p40, p95, p96, p97, p102, p103, p104] c_c_16)))
def c_c_14 : CC := (.ops [⟨(some p120), .bin .add .other (.t p97) (.c (.int .i64 1)), none, 0⟩, ⟨(some p97), .mv (.t p120), none, 0⟩])
def c_c_13 : CC := (.seq (.ops [⟨(some p98), .bin .lss .other (.t p97) (.t p96), none, 0⟩]) [p1, p2, p3, p4, p6, p39, p40, p95, p96, p97, p98] (.seq (.cond (.t p98) .skip (.exit 12)) [p1, p2, p3, p4, p6, p39, p40, p95, p96, p97] (.seq (.block 13 (.seq (.ops [⟨(some p99), .mv (.t p97), none, 0⟩, ⟨(some p100), .indexAddr 1 (.t p95) (.t p97), none, 0⟩, ⟨(some p101), .load1 (.t p100), none, 0⟩, ⟨(some p14), .mv (.t p99), none, 0⟩, ⟨(some p15), .mv (.t p101), none, 0⟩]) [p1, p2, p3, p4, p6, p14, p15, p39, p40, p95, p96, p97] (.seq (.ops [⟨(some p102), .mv (.t p15), none, 0⟩, ⟨(some p103), .blt .len [(.t p102)], none, 0⟩, ⟨(some p104), .mv (.c (.int .i64 0)), none, 0⟩]) [p1, p2, p3, p4, p6, p14, p39, p40, p95, p96, p97, p102, p103, p104] (.block 14 (.loop [p1, p2, p3, p4, p6, p14, p39, p40, p95, p96, p97, p102, p103, p104] c_c_15))))) [p1, p2, p3, p4, p6, p39, p40, p95, p96, p97] c_c_14)))
def c_c_7 : CC := (.seq (.ops [⟨(some p95), .load1 (.t p7), none, 0⟩, ⟨(some p96), .blt .len [(.t p95)], none, 0⟩, ⟨(some p97), .mv (.c (.int .i64 0)), none, 0⟩]) [p1, p2, p3, p4, p6, p39, p40, p95, p96, p97] (.block 12 (.loop [p1, p2, p3, p4, p6, p39, p40, p95, p96, p97] c_c_13)))
def c_c_5 : CC := (.seq (.seq (.ops [⟨(some p58), .load1 (.t p4), none, 0⟩, ⟨(some p59), .mv (.t p6), none, 0⟩, ⟨(some p60), .indexAddr 1 (.t p58) (.t p59), none, 0⟩, ⟨(some p61), .load1 (.t p60), none, 0⟩, ⟨(some p62), .blt .len [(.t p61)], none, 0⟩, ⟨(some p63), .mv (.c (.int .i64 0)), none, 0⟩]) [p1, p2, p3, p4, p6, p7, p39, p40, p61, p62, p63] (.block 6 (.loop [p1, p2, p3, p4, p6, p7, p39, p40, p61, p62, p63] c_c_8))) [p1, p2, p3, p4, p6, p7, p39, p40] c_c_7)
def c_c_4 : CC := (.ops [⟨(some p121), .bin .add .other (.t p40) (.c (.int .i64 1)), none, 0⟩, ⟨(some p40), .mv (.t p121), none, 0⟩])
def c_c_3 : CC := (.seq (.ops [⟨(some p41), .bin .lss .other (.t p40) (.t p39), none, 0⟩]) [p1, p2, p3, p4, p39, p40, p41] (.seq (.cond (.t p41) .skip (.exit 2)) [p1, p2, p3, p4, p39, p40] (.seq (.block 3 (.seq (.ops [⟨(some p42), .mv (.t p40), none, 0⟩, ⟨(some p6), .mv (.t p42), none, 0⟩]) [p1, p2, p3, p4, p6, p39, p40] (.seq (.ops [⟨(some p43), .fieldAddr 1 (.t p1), none, 0⟩, ⟨(some p44), .load1 (.t p43), none, 0⟩, ⟨(some p45), .makeSlice 1 24 [(.slice none 0 0)] (.t p44) (.t p44), none, 0⟩, ⟨(some p7), .alloc [(.slice none 0 0)], none, 0⟩, ⟨none, .store 1 (.t p7) (.t p45), none, 0⟩]) [p1, p2, p3, p4, p6, p7, p39, p40] (.seq (.seq (.ops [⟨(some p46), .load1 (.t p7), none, 0⟩, ⟨(some p47), .blt .len [(.t p46)], none, 0⟩, ⟨(some p48), .mv (.c (.int .i64 0)), none, 0⟩]) [p1, p2, p3, p4, p6, p7, p39, p40, p47, p48] (.block 4 (.loop [p1, p2, p3, p4, p6, p7, p39, p40, p47, p48] c_c_6))) [p1, p2, p3, p4, p6, p7, p39, p40] c_c_5)))) [p1, p2, p3, p4, p39, p40] c_c_4)))
def c_c_2 : CC := (.seq (.ops [⟨(some p122), .loadN 3 (.t p3), none, 0⟩, ⟨none, .store 3 (.t p2) (.t p122), none, 0⟩]) [p2] .ret)
def c_c_0 : CC := (.seq (.seq (.ops [⟨(some p38), .fieldAddr 0 (.t p1), none, 0⟩, ⟨(some p39), .load1 (.t p38), none, 0⟩, ⟨(some p40), .mv (.c (.int .i64 0)), none, 0⟩]) [p1, p2, p3, p4, p39, p40] (.block 2 (.loop [p1, p2, p3, p4, p39, p40] c_c_3))) [p2, p3] c_c_2)
def c_c : CC := (.seq (.ops [⟨(some p1), .box (.t p0), none, 0⟩, ⟨(some p2), .alloc [(.int .i64 0), (.int .i64 0), (.slice none 0 0)], none, 0⟩]) [p1, p2] (.seq (.ops [⟨(some p18), .fieldAddr 0 (.t p1), none, 0⟩, ⟨(some p19), .load1 (.t p18), none, 0⟩, ⟨(some p20), .fieldAddr 1 (.t p1), none, 0⟩, ⟨(some p21), .load1 (.t p20), none, 0⟩, ⟨(some p22), .build [(.int .i64 0), (.int .i64 0), (.slice none 0 0)] [(0, 1, (.t p19)), (1, 1, (.t p21))], none, 0⟩, ⟨(some p3), .alloc [(.int .i64 0), (.int .i64 0), (.slice none 0 0)], none, 0⟩, ⟨none, .store 3 (.t p3) (.t p22), none, 0⟩]) [p1, p2, p3] (.seq (.ops [⟨(some p23), .fieldAddr 0 (.t p1), none, 0⟩, ⟨(some p24), .load1 (.t p23), none, 0⟩, ⟨(some p25), .makeSlice 1 24 [(.slice none 0 0)] (.t p24) (.t p24), none, 0⟩, ⟨(some p4), .alloc [(.slice none 0 0)], none, 0⟩, ⟨none, .store 1 (.t p4) (.t p25), none, 0⟩]) [p1, p2, p3, p4] (.seq (.seq (.ops [⟨(some p26), .fieldAddr 0 (.t p1), none, 0⟩, ⟨(some p27), .load1 (.t p26), none, 0⟩, ⟨(some p28), .mv (.c (.int .i64 0)), none, 0⟩]) [p1, p2, p3, p4, p27, p28] (.block 0 (.loop [p1, p2, p3, p4, p27, p28] c_c_1))) [p1, p2, p3, p4] c_c_0))))
def f_c : zw := ⟨123, [.cell (some 3) p2], c_c, none⟩
def c_s_1 : CC := (.seq (.seq (.ops [⟨(some p5), .mv (.t p4), none, 0⟩, ⟨(some p6), .mv (.t p0), none, 0⟩, ⟨(some p7), .blt .len [(.t p6)], none, 0⟩, ⟨(some p8), .bin .lss .other (.t p5) (.t p7), none, 0⟩]) [p0, p3, p4, p8] (.cond (.t p8) .skip (.exit 0))) [p0, p3, p4] (.seq (.block 1 (.draw [⟨(some p11), .mv (.t p3), none, 0⟩, ⟨(some p12), .mv (.t p0), none, 0⟩, ⟨(some p13), .mv (.t p4), none, 0⟩, ⟨(some p14), .indexAddr 3 (.t p12) (.t p13), none, 0⟩, ⟨(some p15), .indexArr 3 1 (.t p14) (.c (.int .i64 0)), none, 0⟩, ⟨(some p16), .load1 (.t p15), none, 0⟩, ⟨(some p17), .mv (.t p0), none, 0⟩, ⟨(some p18), .mv (.t p4), none, 0⟩, ⟨(some p19), .indexAddr 3 (.t p17) (.t p18), none, 0⟩, ⟨(some p20), .indexArr 3 1 (.t p19) (.c (.int .i64 1)), none, 0⟩, ⟨(some p21), .load1 (.t p20), none, 0⟩, ⟨(some p22), .mv (.t p0), none, 0⟩, ⟨(some p23), .mv (.t p4), none, 0⟩, ⟨(some p24), .indexAddr 3 (.t p22) (.t p23), none, 0⟩, ⟨(some p25), .indexArr 3 1 (.t p24) (.c (.int .i64 2)), none, 0⟩, ⟨(some p26), .load1 (.t p25), none, 0⟩, ⟨(some p27), .build [(.int .i64 0), (.int .i64 0), (.int .i64 0)] [(0, 1, (.t p16)), (1, 1, (.t p21)), (2, 1, (.t p26))], none, 0⟩, ⟨(some p28), .buildSlice 1 3 [(.int .i64 0), (.int .i64 0), (.int .i64 0)] [(0, (.t p27))], none, 0⟩, ⟨(some p29), .blt (.append 3 24) [(.t p11), (.t p28)], none, 0⟩, ⟨(some p3), .mv (.t p29), none, 1⟩])) [p0, p3, p4] (.ops [⟨(some p9), .mv (.t p4), none, 0⟩, ⟨(some p10), .bin .add .other (.t p9) (.c (.int .i64 1)), none, 0⟩, ⟨(some p4), .mv (.t p10), none, 0⟩])))
def c_s_0 : CC := (.seq (.ops [⟨(some p30), .mv (.t p3), none, 0⟩, ⟨(some p2), .mv (.t p30), none, 0⟩]) [p2] .ret)
def c_s : CC := (.seq (.ops [⟨(some p2), .mv (.c (.slice none 0 0)), none, 0⟩]) [p0] (.seq (.ops [⟨(some p3), .mv (.c (.slice none 0 0)), none, 0⟩]) [p0, p3] (.seq (.seq (.ops [⟨(some p4), .mv (.c (.int .i64 0)), none, 0⟩]) [p0, p3, p4] (.block 0 (.loop [p0, p3, p4] c_s_1))) [p3] c_s_0)))
def f_s : zw := ⟨31, [.tmp p2], c_s, none⟩
def c_u_1 : CC := (.seq (.seq (.ops [⟨(some p20), .mv (.t p6), none, 0⟩, ⟨(some p21), .fieldAddr 2 (.t p3), none, 0⟩, ⟨(some p22), .load1 (.t p21), none, 0⟩, ⟨(some p23), .blt .len [(.t p22)], none, 0⟩, ⟨(some p24), .bin .lss .other (.t p20) (.t p23), none, 0⟩]) [p2, p3, p4, p5, p6, p24] (.cond (.t p24) .skip (.exit 0))) [p2, p3, p4, p5, p6] (.seq (.block 1 (.seq (.ops [⟨(some p27), .fieldAddr 2 (.t p3), none, 0⟩, ⟨(some p28), .load1 (.t p27), none, 0⟩, ⟨(some p29), .mv (.t p6), none, 0⟩, ⟨(some p30), .indexAddr 3 (.t p28) (.t p29), none, 0⟩, ⟨(some p31), .loadN 3 (.t p30), none, 0⟩, ⟨(some p7), .alloc [(.int .i64 0), (.int .i64 0), (.int .i64 0)], none, 0⟩, ⟨none, .store 3 (.t p7) (.t p31), none, 0⟩]) [p2, p3, p4, p5, p6, p7] (.ops [⟨(some p32), .fieldAddr 2 (.t p5), none, 0⟩, ⟨(some p33), .load1 (.t p32), none, 0⟩, ⟨(some p34), .fieldAddr 0 (.t p7), none, 0⟩, ⟨(some p35), .load1 (.t p34), none, 0⟩, ⟨(some p36), .fieldAddr 0 (.t p2), none, 0⟩, ⟨(some p37), .load1 (.t p36), none, 0⟩, ⟨(some p38), .bin .add .other (.t p35) (.t p37), none, 0⟩, ⟨(some p39), .fieldAddr 1 (.t p7), none, 0⟩, ⟨(some p40), .load1 (.t p39), none, 0⟩, ⟨(some p41), .fieldAddr 0 (.t p2), none, 0⟩, ⟨(some p42), .load1 (.t p41), none, 0⟩, ⟨(some p43), .bin .add .other (.t p40) (.t p42), none, 0⟩, ⟨(some p44), .fieldAddr 2 (.t p7), none, 0⟩, ⟨(some p45), .load1 (.t p44), none, 0⟩, ⟨(some p46), .build [(.int .i64 0), (.int .i64 0), (.int .i64 0)] [(0, 1, (.t p38)), (1, 1, (.t p43)), (2, 1, (.t p45))], none, 0⟩, ⟨(some p47), .buildSlice 1 3 [(.int .i64 0), (.int .i64 0), (.int .i64 0)] [(0, (.t p46))], none, 0⟩, ⟨(some p48), .blt (.append 3 24) [(.t p33), (.t p47)], none, 0⟩, ⟨(some p49), .fieldAddr 2 (.t p5), none, 0⟩, ⟨none, .store 1 (.t p49) (.t p48), none, 0⟩]))) [p2, p3, p4, p5, p6] (.ops [⟨(some p25), .mv (.t p6), none, 0⟩, ⟨(some p26), .bin .add .other (.t p25) (.c (.int .i64 1)), none, 0⟩, ⟨(some p6), .mv (.t p26), none, 0⟩])))
def c_u_0 : CC := (.seq (.ops [⟨(some p50), .loadN 3 (.t p5), none, 0⟩, ⟨none, .store 3 (.t p4) (.t p50), none, 0⟩]) [p4] .ret)
def c_u : CC := (.seq (.ops [⟨(some p2), .box (.t p0), none, 0⟩, ⟨(some p3), .box (.t p1), none, 0⟩, ⟨(some p4), .alloc [(.int .i64 0), (.int .i64 0), (.slice none 0 0)], none, 0⟩]) [p2, p3, p4] (.seq (.draw [⟨(some p15), .buildSlice 0 3 [(.int .i64 0), (.int .i64 0), (.int .i64 0)] [], none, 0⟩, ⟨(some p16), .fieldAddr 2 (.t p2), none, 0⟩, ⟨(some p17), .load1 (.t p16), none, 0⟩, ⟨(some p18), .blt (.append 3 24) [(.t p15), (.t p17)], none, 0⟩, ⟨(some p8), .fieldAddr 0 (.t p2), none, 0⟩, ⟨(some p9), .load1 (.t p8), none, 0⟩, ⟨(some p10), .fieldAddr 0 (.t p3), none, 0⟩, ⟨(some p11), .load1 (.t p10), none, 0⟩, ⟨(some p12), .bin .add .other (.t p9) (.t p11), none, 0⟩, ⟨(some p13), .fieldAddr 1 (.t p2), none, 0⟩, ⟨(some p14), .load1 (.t p13), none, 0⟩, ⟨(some p19), .build [(.int .i64 0), (.int .i64 0), (.slice none 0 0)] [(0, 1, (.t p12)), (1, 1, (.t p14)), (2, 1, (.t p18))], none, 1⟩, ⟨(some p5), .alloc [(.int .i64 0), (.int .i64 0), (.slice none 0 0)], none, 0⟩, ⟨none, .store 3 (.t p5) (.t p19), none, 1⟩]) [p2, p3, p4, p5] (.seq (.seq (.ops [⟨(some p6), .mv (.c (.int .i64 0)), none, 0⟩]) [p2, p3, p4, p5, p6] (.block 0 (.loop [p2, p3, p4, p5, p6] c_u_1))) [p4, p5] c_u_0)))
def f_u : zw := ⟨51, [.cell (some 3) p4], c_u, none⟩
def c_C_1 : CC := (.seq (.ops [⟨(some p25), .bin .lss .other (.t p24) (.t p23), none, 0⟩]) [p2, p5, p22, p23, p24, p25] (.seq (.cond (.t p25) .skip (.exit 0)) [p2, p5, p22, p23, p24] (.seq (.block 1 (.seq (.ops [⟨(some p26), .indexAddr 3 (.t p22) (.t p24), none, 0⟩, ⟨(some p27), .loadN 3 (.t p26), none, 0⟩, ⟨(some p7), .alloc [(.int .i64 0), (.int .i64 0), (.int .i64 0)], none, 0⟩, ⟨none, .store 3 (.t p7) (.t p27), none, 0⟩]) [p2, p5, p7, p22, p23, p24] (.ops [⟨(some p28), .fieldAddr 2 (.t p5), none, 0⟩, ⟨(some p29), .load1 (.t p28), none, 0⟩, ⟨(some p30), .fieldAddr 0 (.t p7), none, 0⟩, ⟨(some p31), .load1 (.t p30), none, 0⟩, ⟨(some p32), .fieldAddr 0 (.t p2), none, 0⟩, ⟨(some p33), .load1 (.t p32), none, 0⟩, ⟨(some p34), .bin .add .other (.t p31) (.t p33), none, 0⟩, ⟨(some p35), .fieldAddr 1 (.t p7), none, 0⟩, ⟨(some p36), .load1 (.t p35), none, 0⟩, ⟨(some p37), .fieldAddr 0 (.t p2), none, 0⟩, ⟨(some p38), .load1 (.t p37), none, 0⟩, ⟨(some p39), .bin .add .other (.t p36) (.t p38), none, 0⟩, ⟨(some p40), .fieldAddr 2 (.t p7), none, 0⟩, ⟨(some p41), .load1 (.t p40), none, 0⟩, ⟨(some p42), .build [(.int .i64 0), (.int .i64 0), (.int .i64 0)] [(0, 1, (.t p34)), (1, 1, (.t p39)), (2, 1, (.t p41))], none, 0⟩, ⟨(some p43), .buildSlice 1 3 [(.int .i64 0), (.int .i64 0), (.int .i64 0)] [(0, (.t p42))], none, 0⟩, ⟨(some p44), .blt (.append 3 24) [(.t p29), (.t p43)], none, 0⟩, ⟨(some p45), .fieldAddr 2 (.t p5), none, 0⟩, ⟨none, .store 1 (.t p45) (.t p44), none, 0⟩]))) [p2, p5, p22, p23, p24] (.ops [⟨(some p46), .bin .add .other (.t p24) (.c (.int .i64 1)), none, 0⟩, ⟨(some p24), .mv (.t p46), none, 0⟩]))))
def c_C_0 : CC := (.seq (.draw [⟨(some p48), .loadN 3 (.t p5), none, 0⟩, ⟨(some p49), .call (.c (.func (.func n_b) #[] #[])) [(.t p48)], none, 0⟩, ⟨(some p50), .fieldAddr 0 (.t p2), none, 0⟩, ⟨(some p51), .load1 (.t p50), none, 0⟩, ⟨(some p52), .build [(.int .i64 0), (.int .i64 0)] [(0, 1, (.c (.int .i64 0))), (1, 1, (.t p51))], none, 0⟩, ⟨(some p53), .lookup (.leaves [0, 1]) (.int .i64 0) true (.t p49) (.t p52), none, 1⟩, ⟨(some p47), .mv (.t p53), none, 1⟩, ⟨(some p54), .extract (.t p47) 0, none, 1⟩, ⟨(some p55), .extract (.t p47) 1, none, 1⟩, ⟨(some p8), .mv (.t p54), none, 1⟩, ⟨(some p9), .mv (.t p55), none, 1⟩]) [p9] (.seq (.ops [⟨(some p56), .mv (.t p9), none, 0⟩, ⟨(some p57), .un .not (.t p56), none, 0⟩, ⟨(some p4), .mv (.t p57), none, 0⟩]) [p4] .ret))
def c_C : CC := (.seq (.ops [⟨(some p2), .box (.t p0), none, 0⟩, ⟨(some p3), .box (.t p1), none, 0⟩, ⟨(some p4), .mv (.c (.bool false)), none, 0⟩]) [p2, p3] (.seq (.draw [⟨(some p17), .fieldAddr 2 (.t p2), none, 0⟩, ⟨(some p18), .load1 (.t p17), none, 0⟩, ⟨(some p19), .call (.c (.func (.func n_w) #[] #[])) [(.t p18)], none, 0⟩, ⟨(some p10), .fieldAddr 0 (.t p2), none, 0⟩, ⟨(some p11), .load1 (.t p10), none, 0⟩, ⟨(some p12), .fieldAddr 0 (.t p3), none, 0⟩, ⟨(some p13), .load1 (.t p12), none, 0⟩, ⟨(some p14), .bin .add .other (.t p11) (.t p13), none, 0⟩, ⟨(some p15), .fieldAddr 1 (.t p2), none, 0⟩, ⟨(some p16), .load1 (.t p15), none, 0⟩, ⟨(some p20), .build [(.int .i64 0), (.int .i64 0), (.slice none 0 0)] [(0, 1, (.t p14)), (1, 1, (.t p16)), (2, 1, (.t p19))], none, 1⟩, ⟨(some p5), .alloc [(.int .i64 0), (.int .i64 0), (.slice none 0 0)], none, 0⟩, ⟨none, .store 3 (.t p5) (.t p20), none, 1⟩]) [p2, p3, p5] (.seq (.seq (.ops [⟨(some p21), .fieldAddr 2 (.t p3), none, 0⟩, ⟨(some p22), .load1 (.t p21), none, 0⟩, ⟨(some p23), .blt .len [(.t p22)], none, 0⟩, ⟨(some p24), .mv (.c (.int .i64 0)), none, 0⟩]) [p2, p5, p22, p23, p24] (.block 0 (.loop [p2, p5, p22, p23, p24] c_C_1))) [p2, p5] c_C_0)))
def f_C : zw := ⟨58, [.tmp p4], c_C, none⟩
def c_F : CC := (.seq (.ops [⟨(some p4), .mv (.c (.bool false)), none, 0⟩]) [p0, p1] (.seq (.ops [⟨(some p5), .mv (.t p0), none, 0⟩, ⟨(some p6), .mv (.t p1), none, 0⟩, ⟨(some p7), .call (.c (.func (.func n_r) #[] #[])) [(.t p5), (.t p6)], none, 0⟩, ⟨(some p8), .bin .geq .other (.t p7) (.c (.int .i64 0)), none, 0⟩, ⟨(some p4), .mv (.t p8), none, 0⟩]) [p4] .ret))
def f_F : zw := ⟨9, [.tmp p4], c_F, none⟩
def c_q_3 : CC := (.ops [⟨(some p7), .mv (.t p22), none, 0⟩])
def c_q_4 : CC := (.block 3 (.seq (.ops [⟨(some p23), .load1 (.t p5), none, 0⟩, ⟨(some p24), .mv (.t p7), none, 0⟩, ⟨(some p25), .call (.c (.func (.func n_F) #[] #[])) [(.t p23), (.t p24)], none, 0⟩, ⟨(some p26), .un .not (.t p25), none, 0⟩]) [p5, p7, p26] (.cond (.t p26) (.ops [⟨(some p27), .load1 (.t p5), none, 0⟩, ⟨(some p28), .mv (.t p7), none, 0⟩, ⟨(some p29), .buildSlice 1 1 [(.int .i64 0)] [(0, (.t p28))], none, 0⟩, ⟨(some p30), .blt (.append 1 8) [(.t p27), (.t p29)], none, 0⟩, ⟨none, .store 1 (.t p5) (.t p30), none, 0⟩]) .skip)))
def r_q_3 : RC := ⟨(n_q * 1000 + 3), [p5], [p22], c_q_3, c_q_4⟩
def c_q_2 : CC := (.ops [⟨(some p14), .mv (.t p6), none, 0⟩, ⟨(some p15), .bin .add .other (.t p14) (.c (.int .i64 1)), none, 0⟩, ⟨(some p6), .mv (.t p15), none, 0⟩])
def c_q_1 : CC := (.seq (.seq (.ops [⟨(some p10), .mv (.t p6), none, 0⟩, ⟨(some p11), .load1 (.t p5), none, 0⟩, ⟨(some p12), .blt .len [(.t p11)], none, 0⟩, ⟨(some p13), .bin .lss .other (.t p10) (.t p12), none, 0⟩]) [p2, p4, p5, p6, p13] (.cond (.t p13) .skip (.exit 0))) [p2, p4, p5, p6] (.seq (.block 1 (.seq (.draw [⟨(some p16), .loadN 3 (.t p2), none, 0⟩, ⟨(some p17), .load1 (.t p5), none, 0⟩, ⟨(some p18), .mv (.t p6), none, 0⟩, ⟨(some p19), .indexAddr 1 (.t p17) (.t p18), none, 0⟩, ⟨(some p20), .load1 (.t p19), none, 0⟩, ⟨(some p21), .call (.c (.func (.func n_v) #[] #[])) [(.t p16), (.t p20), (.c (.int .i64 0))], none, 0⟩]) [p2, p4, p5, p6, p21] (.block 2 (.rangeFunc (n_q * 1000 + 3) [p5] (.t p21) [p22] c_q_3 c_q_4)))) [p2, p4, p5, p6] c_q_2))
def c_q_0 : CC := (.seq (.ops [⟨(some p31), .load1 (.t p5), none, 0⟩, ⟨(some p4), .mv (.t p31), none, 0⟩]) [p4] .ret)
def c_q : CC := (.seq (.ops [⟨(some p2), .box (.t p0), none, 0⟩, ⟨(some p4), .mv (.c (.slice none 0 0)), none, 0⟩]) [p1, p2, p4] (.seq (.ops [⟨(some p8), .mv (.t p1), none, 0⟩, ⟨(some p9), .buildSlice 1 1 [(.int .i64 0)] [(0, (.t p8))], none, 0⟩, ⟨(some p5), .alloc [(.slice none 0 0)], none, 0⟩, ⟨none, .store 1 (.t p5) (.t p9), none, 0⟩]) [p2, p4, p5] (.seq (.seq (.ops [⟨(some p6), .mv (.c (.int .i64 0)), none, 0⟩]) [p2, p4, p5, p6] (.block 0 (.loop [p2, p4, p5, p6] c_q_1))) [p5] c_q_0)))
def f_q : zw := ⟨32, [.tmp p4], c_q, none⟩
def c_w : CC := (.seq (.ops [⟨(some p2), .mv (.c (.slice none 0 0)), none, 0⟩]) [p0] (.seq (.seq (.ops [⟨(some p3), .mv (.t p0), none, 0⟩, ⟨(some p4), .bin .eql .slice (.t p3) (.c (.slice none 0 0)), none, 0⟩]) [p0, p4] (.cond (.t p4) (.seq (.ops [⟨(some p2), .mv (.c (.slice none 0 0)), none, 0⟩]) [p2] .ret) .skip)) [p0] (.seq (.ops [⟨(some p5), .buildSlice 0 3 [(.int .i64 0), (.int .i64 0), (.int .i64 0)] [], none, 0⟩, ⟨(some p6), .mv (.t p0), none, 0⟩, ⟨(some p7), .blt (.append 3 24) [(.t p5), (.t p6)], none, 0⟩, ⟨(some p2), .mv (.t p7), none, 0⟩]) [p2] .ret)))
def f_w : zw := ⟨8, [.tmp p2], c_w, none⟩
def c_r_1 : CC := (.seq (.ops [⟨(some p9), .bin .lss .other (.t p8) (.t p7), none, 0⟩]) [p0, p1, p7, p8, p9] (.seq (.cond (.t p9) .skip (.exit 0)) [p0, p1, p7, p8] (.seq (.block 1 (.seq (.ops [⟨(some p10), .mv (.t p8), none, 0⟩, ⟨(some p5), .mv (.t p10), none, 0⟩]) [p0, p1, p5, p7, p8] (.seq (.ops [⟨(some p11), .mv (.t p1), none, 0⟩, ⟨(some p12), .mv (.t p0), none, 0⟩, ⟨(some p13), .mv (.t p5), none, 0⟩, ⟨(some p14), .indexAddr 1 (.t p12) (.t p13), none, 0⟩, ⟨(some p15), .load1 (.t p14), none, 0⟩, ⟨(some p16), .bin .eql .other (.t p11) (.t p15), none, 0⟩]) [p0, p1, p5, p7, p8, p16] (.cond (.t p16) (.seq (.ops [⟨(some p17), .mv (.t p5), none, 0⟩, ⟨(some p4), .mv (.t p17), none, 0⟩]) [p4] .ret) .skip)))) [p0, p1, p7, p8] (.ops [⟨(some p18), .bin .add .other (.t p8) (.c (.int .i64 1)), none, 0⟩, ⟨(some p8), .mv (.t p18), none, 0⟩]))))
def c_r_0 : CC := (.seq (.ops [⟨(some p4), .mv (.c (.int .i64 (-1))), none, 0⟩]) [p4] .ret)
def c_r : CC := (.seq (.ops [⟨(some p4), .mv (.c (.int .i64 0)), none, 0⟩]) [p0, p1] (.seq (.seq (.ops [⟨(some p6), .mv (.t p0), none, 0⟩, ⟨(some p7), .blt .len [(.t p6)], none, 0⟩, ⟨(some p8), .mv (.c (.int .i64 0)), none, 0⟩]) [p0, p1, p7, p8] (.block 0 (.loop [p0, p1, p7, p8] c_r_1))) [] c_r_0))
def f_r : zw := ⟨19, [.tmp p4], c_r, none⟩
def tabF : List (Nat × zw) := [(n_M, f_M), (n_m, f_m), (n_n, f_n), (n_A, f_A), (n_I, f_I), (n_l, f_l), (n_L, f_L), (n_G, f_G), (n_p, f_p), (n_c, f_c), (n_H, f_H), (n_s, f_s), (n_u, f_u), (n_E, f_E), (n_b, f_b), (n_i, f_i), (n_f, f_f), (n_J, f_J), (n_C, f_C), (n_d, f_d), (n_y, f_y), (n_F, f_F), (n_z, f_z), (n_q, f_q), (n_t, f_t), (n_g, f_g), (n_v, f_v), (n_w, f_w), (n_x, f_x), (n_a, f_a), (n_O, f_O), (n_r, f_r), (n_D, f_D), (n_j, f_j), (n_B, f_B)]
def F : FuncId → Option zw := zbe tabF
def KZ_m_0 (X : Rn) : K := (fnK [.tmp p2])
def KZ_m_1 (X : Rn) (z_1 : Z) : K := (zct [p1, p30, p31, p32] z_1 (kBlk 0 (kSeq X zgr [] (KZ_m_0 X))))
def KZ_n_0 (X : Rn) : K := (fnK [.tmp p4])
def KZ_n_1 (X : Rn) (z_1 : Z) : K := (zct [p2, p3, p5] z_1 (kBlk 0 (kSeq X c_n_0 [] (KZ_n_0 X))))
def KZ_l_0 (X : Rn) : K := (fnK [.tmp p4])
def KZ_l_1 (X : Rn) (z_1 : Z) : K := (zct [p2, p3, p5] z_1 (kBlk 0 (kSeq X c_l_0 [] (KZ_l_0 X))))
def KZ_p_0 (X : Rn) : K := (fnK [.tmp p4])
def KZ_p_1 (X : Rn) (z_1 : Z) : K := (zct [p0, p1, p5] z_1 (kBlk 0 (kSeq X c_p_0 [] (KZ_p_0 X))))
def zjF (X : Rn) : K := (fnK [.cell (some 3) p2])
def KZ_c_2 (X : Rn) : K := (zjF X)
def KZ_c_3 (X : Rn) (z_3 : Z) : K := (zct [p1, p2, p3, p4, p39, p40] z_3 (kBlk 2 (kSeq X c_c_2 [p2, p3] (KZ_c_2 X))))
def KZ_c_4 (X : Rn) (z_3 : Z) : K := (KZ_c_3 X z_3)
def zjE (X : Rn) (z_3 : Z) : K := (kBlk 3 (kSeq X c_c_4 [p1, p2, p3, p4, p39, p40] (KZ_c_4 X z_3)))
def ziK (X : Rn) (z_3 : Z) : K := (zjE X z_3)
def KZ_c_13 (X : Rn) (z_3 z_13 : Z) : K := (zct [p1, p2, p3, p4, p6, p39, p40, p95, p96, p97] z_13 (kBlk 12 (ziK X z_3)))
def KZ_c_14 (X : Rn) (z_3 z_13 : Z) : K := (KZ_c_13 X z_3 z_13)
def KZ_c_15 (X : Rn) (z_3 z_13 z_15 : Z) : K := (zct [p1, p2, p3, p4, p6, p14, p39, p40, p95, p96, p97, p102, p103, p104] z_15 (kBlk 14 (kBlk 13 (kSeq X c_c_14 [p1, p2, p3, p4, p6, p39, p40, p95, p96, p97] (KZ_c_14 X z_3 z_13)))))
def KZ_c_16 (X : Rn) (z_3 z_13 z_15 : Z) : K := (KZ_c_15 X z_3 z_13 z_15)
def KZ_c_8 (X : Rn) (z_3 z_8 : Z) : K := (zct [p1, p2, p3, p4, p6, p7, p39, p40, p61, p62, p63] z_8 (kBlk 6 (kSeq X c_c_7 [p1, p2, p3, p4, p6, p7, p39, p40] (ziK X z_3))))
def KZ_c_9 (X : Rn) (z_3 z_8 : Z) : K := (KZ_c_8 X z_3 z_8)
def ziL (X : Rn) (l : Nat) : K := (finK l)
def KZ_c_12 (X : Rn) (l : Nat) (z_12 : Z) : K := (zct [p7, p11, p80, p81, p82] z_12 (kBlk 10 (kBlk 9 (ziL X l))))
def KZ_c_6 (X : Rn) (z_3 z_6 : Z) : K := (zct [p1, p2, p3, p4, p6, p7, p39, p40, p47, p48] z_6 (kBlk 4 (kSeq X c_c_5 [p1, p2, p3, p4, p6, p7, p39, p40] (zjE X z_3))))
def KZ_c_1 (X : Rn) (z_1 : Z) : K := (zct [p1, p2, p3, p4, p27, p28] z_1 (kBlk 0 (kSeq X c_c_0 [p1, p2, p3, p4] (zjF X))))
def KZ_s_0 (X : Rn) : K := (fnK [.tmp p2])
def KZ_s_1 (X : Rn) (z_1 : Z) : K := (zct [p0, p3, p4] z_1 (kBlk 0 (kSeq X c_s_0 [p3] (KZ_s_0 X))))
def KZ_u_0 (X : Rn) : K := (fnK [.cell (some 3) p4])
def KZ_u_1 (X : Rn) (z_1 : Z) : K := (zct [p2, p3, p4, p5, p6] z_1 (kBlk 0 (kSeq X c_u_0 [p4, p5] (KZ_u_0 X))))
def KZ_b_0 (X : Rn) (z_0 : Z) : K := (zct [p1, p3, p4] z_0 (kBlk 0 (fnK [.tmp p2])))
def KZ_b_1 (X : Rn) (z_0 : Z) : K := (KZ_b_0 X z_0)
def ziM (X : Rn) (z_0 : Z) : K := (kBlk 1 (kSeq X c_b_1 [p1, p3, p4] (KZ_b_1 X z_0)))
def KZ_b_8 (X : Rn) (z_0 z_8 : Z) : K := (zct [p1, p3, p4, p70, p71, p72] z_8 (kBlk 6 (ziM X z_0)))
def KZ_b_3 (X : Rn) (z_0 z_3 : Z) : K := (zct [p1, p3, p4, p5, p18, p19] z_3 (kBlk 2 (kSeq X zgs [p1, p3, p4, p5] (ziM X z_0))))
def KZ_b_4 (X : Rn) (z_0 z_3 : Z) : K := (KZ_b_3 X z_0 z_3)
def KZ_b_5 (X : Rn) (z_0 z_3 z_5 : Z) : K := (zct [p1, p3, p4, p5, p6, p18, p19, p22, p23] z_5 (kBlk 4 (kBlk 3 (kSeq X zg6 [p1, p3, p4, p5, p18, p19] (KZ_b_4 X z_0 z_3)))))
def KZ_b_6 (X : Rn) (z_0 z_3 z_5 : Z) : K := (KZ_b_5 X z_0 z_3 z_5)
def KZ_b_7 (X : Rn) (z_0 z_3 z_5 : Z) : K := (kBlk 5 (kSeq X zik [p1, p3, p4, p5, p6, p18, p19, p22, p23] (KZ_b_6 X z_0 z_3 z_5)))
def KZ_i_0 (X : Rn) : K := (fnK [.tmp p6])
def KZ_i_2 (X : Rn) (l : Nat) : K := (finK l)
def KZ_f_0 (X : Rn) : K := (fnK [.cell (some 3) p6])
def KZ_f_2 (X : Rn) (l : Nat) : K := (finK l)
def KZ_C_0 (X : Rn) : K := (fnK [.tmp p4])
def KZ_C_1 (X : Rn) (z_1 : Z) : K := (zct [p2, p5, p22, p23, p24] z_1 (kBlk 0 (kSeq X c_C_0 [p2, p5] (KZ_C_0 X))))
def KZ_d_0 (X : Rn) : K := (fnK [.tmp p2])
def KZ_d_1 (X : Rn) (z_1 : Z) : K := (zct [p3, p4, p5, p14, p15] z_1 (kBlk 0 (kSeq X zij [p4] (KZ_d_0 X))))
def KZ_d_2 (X : Rn) (z_1 : Z) : K := (KZ_d_1 X z_1)
def KZ_d_3 (X : Rn) (z_1 : Z) : K := (kBlk 1 (kSeq X ziY [p3, p4, p5, p14, p15] (KZ_d_2 X z_1)))
def KZ_d_4 (X : Rn) (z_1 z_4 : Z) : K := (zct [p3, p4, p5, p6, p14, p15, p18, p19, p20] z_4 (kBlk 2 (kSeq X zg2 [p3, p4, p5, p6, p14, p15] (KZ_d_3 X z_1))))
def KZ_q_0 (X : Rn) : K := (fnK [.tmp p4])
def KZ_q_1 (X : Rn) (z_1 : Z) : K := (zct [p2, p4, p5, p6] z_1 (kBlk 0 (kSeq X c_q_0 [p5] (KZ_q_0 X))))
def KZ_q_2 (X : Rn) (z_1 : Z) : K := (KZ_q_1 X z_1)
def KZ_q_4 (X : Rn) (l : Nat) : K := (finK l)
def KZ_t_0 (X : Rn) : K := (fnK [.tmp p2])
def KZ_t_1 (X : Rn) (z_1 : Z) : K := (zct [p3, p6, p7, p8] z_1 (kBlk 0 (kSeq X zii [p3] (KZ_t_0 X))))
def KZ_g_0 (X : Rn) : K := (fnK [.cell (some 3) p10, .cell none p11])
def KZ_g_2 (X : Rn) (l : Nat) : K := (finK l)
def KZ_x_0 (X : Rn) (z_0 : Z) : K := (zct [p0, p2, p18, p19, p20] z_0 (kBlk 0 (fnK [])))
def KZ_a_0 (X : Rn) : K := (fnK [.tmp p6, .tmp p7])
def KZ_a_1 (X : Rn) (z_1 : Z) : K := (zct [p0, p1, p2, p8, p9, p10] z_1 (kBlk 0 (kSeq X zg9 [p0, p1, p2, p8, p9] (KZ_a_0 X))))
def KZ_r_0 (X : Rn) : K := (fnK [.tmp p4])
def KZ_r_1 (X : Rn) (z_1 : Z) : K := (zct [p0, p1, p7, p8] z_1 (kBlk 0 (kSeq X c_r_0 [] (KZ_r_0 X))))
def KZ_j_0 (X : Rn) : K := (fnK [.cell none p10])
def KZ_j_2 (X : Rn) (l : Nat) : K := (finK l)
def KZ_B_1 (X : Rn) (l : Nat) : K := (finK l)
end Go.Ideal.X
end
