/- A part of the proof: the ideal machine, and what the functions of the program answer over it. -/
import Derived.ProofKit
import Derived.JoinedOf
import Derived.KernelRfl
import Derived.Test.YtanaepeilcjhcaaB
set_option linter.unusedSimpArgs false
set_option linter.unusedVariables false
/- Lists that grow by append. -/
namespace Go.Ideal
variable {F : FuncId → Option CFunc}
/-- a list that is appended to: nothing yet, or a block of its own that holds just its elements. -/
inductive Grow (h : H) (sz : Nat) : Value → List (List Value) → Option Nat → Prop
  | nil : Grow h sz (.slice none 0 0) [] none
  | cells {b : Nat} {rows : List (List Value)} (hlt : b < h.next) (hg : h.get b = some (.cells rows.flatten sz)) (hr : ∀ r ∈ rows, r.length = sz ∧ r.all clean1 = true) : Grow h sz (.slice (some ⟨b, 0, none⟩) rows.length openCap) rows (some b)
  | full {b e : Nat} {rows : List (List Value)} (hlt : b < h.next) (hg : h.get b = some (.cells rows.flatten e)) (hr : ∀ r ∈ rows, r.length = sz ∧ r.all clean1 = true) (hc : rows.length < openCap) : Grow h sz (.slice (some ⟨b, 0, none⟩) rows.length rows.length) rows (some b)
theorem takeN_len : ∀ (l r : List Value), takeN l.length (l ++ r) = some l
  | [], r => rfl
  | a :: l, r => by rw [List.length_cons, List.cons_append, takeN_s, takeN_len l]; rfl
theorem takeC_len {l r : List Value} (h : l.all clean1 = true) {n : Nat} (hn : n = l.length) : takeC n (l ++ r) = some l := by subst hn; exact takeC_of (takeN_len l r) h
theorem takeC_all {l : List Value} (h : l.all clean1 = true) {n : Nat} (hn : n = l.length) : takeC n l = some l := by have := takeC_len (r := []) h hn; rwa [List.append_nil] at this
theorem dropN_len : ∀ (l r : List Value), dropN l.length (l ++ r) = r
  | [], _ => rfl
  | a :: l, r => by rw [List.length_cons, List.cons_append, dropN_s]; exact dropN_len l r
theorem flat_len {sz : Nat} : ∀ {rows : List (List Value)}, (∀ r ∈ rows, r.length = sz) → rows.flatten.length = rows.length * sz
  | [], _ => by simp
  | r :: rows, h => by
    rw [List.flatten_cons, List.length_append, flat_len (fun x hx => h x (by simp [hx])), h r (by simp), List.length_cons]
    rw [Nat.succ_mul]; omega
theorem flat_clean {rows : List (List Value)} (h : ∀ r ∈ rows, r.all clean1 = true) : rows.flatten.all clean1 = true := by
  rw [List.all_flatten]; exact List.all_eq_true.2 h
theorem flat_row {sz : Nat} : ∀ {rows : List (List Value)}, (∀ r ∈ rows, r.length = sz ∧ r.all clean1 = true) → ∀ {i : Nat} {r : List Value}, rows[i]? = some r → takeC sz (dropN (i * sz) rows.flatten) = some r
  | [], _, i, r, hi => by simp at hi
  | x :: rows, h, i, r, hi => by
    have hx := h x (by simp)
    rw [List.flatten_cons]
    cases i with
    | zero =>
      rw [Nat.zero_mul, dropN_z]
      simp at hi; subst hi
      exact takeC_len hx.2 hx.1.symm
    | succ i =>
      have e : ∀ (l r : List Value) (n : Nat), dropN (l.length + n) (l ++ r) = dropN n r := by
        intro l r n
        induction l with
        | nil => simp
        | cons a l ih => rw [List.length_cons, List.cons_append, Nat.add_right_comm, dropN_s]; exact ih
      rw [Nat.succ_mul, Nat.add_comm, ← hx.1, e x rows.flatten]
      rw [hx.1]
      exact flat_row (fun y hy => h y (by simp [hy])) (by simpa using hi)
theorem Grow.row {h : H} {sz : Nat} {v : Value} {rows : List (List Value)} {ob : Option Nat} (hg : Grow h sz v rows ob) (hs : 0 < sz) : Row h sz v rows := by
  cases hg with
  | nil => exact .nil
  | cells hlt hg hr =>
    refine .cells hlt hg (fun i r hi => ?_) (.inl ⟨rfl, rfl, hs, ?_⟩)
    · rw [Nat.zero_add]; exact flat_row hr hi
    · rw [Nat.zero_add, flat_len (fun r hx => (hr r hx).1)]; exact Nat.le_refl _
  | full hlt hg hr hc =>
    refine .cells hlt hg (fun i r hi => ?_) (.inr ⟨hc, Nat.le_refl _⟩)
    rw [Nat.zero_add]; exact flat_row hr hi
theorem Grow.len {h : H} {sz : Nat} {v : Value} {rows : List (List Value)} {ob : Option Nat} (hg : Grow h sz v rows ob) : ∃ base c, v = .slice base rows.length c := by
  cases hg <;> exact ⟨_, _, rfl⟩
theorem Grow.slv {h : H} {sz : Nat} {v : Value} {rows : List (List Value)} {ob : Option Nat} (hg : Grow h sz v rows ob) : SlV v rows.length := by
  cases hg with
  | nil => exact .of _ _ _ nofun
  | cells => exact .of _ _ _ fun a e => by cases e; rfl
  | full => exact .of _ _ _ fun a e => by cases e; rfl
theorem Grow.slvM {α : Type} {h : H} {sz : Nat} {v : Value} {es : List α} {f : α → List Value} {ob : Option Nat} (hg : Grow h sz v (es.map f) ob) : SlV v es.length := by
  have := hg.slv; rwa [List.length_map] at this
theorem Grow.block {h : H} {sz : Nat} {v : Value} {rows : List (List Value)} {ob : Option Nat} (hg : Grow h sz v rows ob) {b o n c : Nat} (e : v = .slice (some ⟨b, o, none⟩) n c) : ob = some b := by
  cases hg with
  | nil => cases e
  | cells => cases e; rfl
  | full => cases e; rfl
theorem Grow.frD {D : Nat → Prop} {h h' : H} {sz : Nat} {v : Value} {rows : List (List Value)} {ob : Option Nat} (hg : Grow h sz v rows ob) (hf : FrD D h h') (hd : ∀ b, ob = some b → ¬ D b) : Grow h' sz v rows ob := by
  cases hg with
  | nil => exact .nil
  | cells hlt hg hr => exact .cells (Nat.lt_of_lt_of_le hlt hf.next) ((hf.get _ hlt (hd _ rfl)).trans hg) hr
  | full hlt hg hr hc => exact .full (Nat.lt_of_lt_of_le hlt hf.next) ((hf.get _ hlt (hd _ rfl)).trans hg) hr hc
theorem Grow.fr {h h' : H} {sz : Nat} {v : Value} {rows : List (List Value)} {ob : Option Nat} (hg : Grow h sz v rows ob) (hf : Fr h h') : Grow h' sz v rows ob := hg.frD (D := fun _ => False) hf.D (by simp)
theorem Grow.lt {h : H} {sz : Nat} {v : Value} {rows : List (List Value)} {b : Nat} (hg : Grow h sz v rows (some b)) : b < h.next := by
  cases hg with
  | cells hlt hg hr => exact hlt
  | full hlt hg hr => exact hlt
theorem append_growX {h : H} {sz bytes : Nat} {v w : Value} {rows news : List (List Value)} {ob : Option Nat} (hs : 0 < sz) (hsb : sz ≠ roE) (hg : Grow h sz v rows ob) (hne : news ≠ []) (ha : appended h sz w = some (news.length, news.flatten)) (hcell : news.flatten.all isCell = true)
    (hr : ∀ r ∈ news, r.length = sz ∧ r.all clean1 = true) (hb : (rows.length + news.length) * bytes ≤ 1073741824) :
    ∃ h', bltV h (.append sz bytes) [v, w] = some (.slice (some ⟨h.next, 0, none⟩) (rows.length + news.length) openCap, h') ∧ Grow h' sz (.slice (some ⟨h.next, 0, none⟩) (rows.length + news.length) openCap) (rows ++ news) (some h.next) ∧ h'.next = h.next + 1 ∧ FrD (fun j => ob = some j) h h' ∧ h'.get h.next = some (.cells (rows ++ news).flatten sz) := by
  have hl : 0 < news.length := List.length_pos_iff.2 hne
  have hn0 : ¬ Nat.beq news.length 0 = true := by simp; omega
  have hbb : (Nat.ble ((rows.length + news.length) * bytes) 1073741824 && news.flatten.all isCell) = true := by simp only [Bool.and_eq_true]; exact ⟨by simpa using hb, hcell⟩
  have hrows : ∀ r ∈ rows ++ news, r.length = sz ∧ r.all clean1 = true := by
    intro r hx
    rcases List.mem_append.1 hx with hx | hx
    · cases hg with
      | nil => cases hx
      | cells _ _ hrr => exact hrr r hx
      | full _ _ hrr => exact hrr r hx
    · exact hr r hx
  have key : ∀ h1 : H, h1.next = h.next → FrD (fun j => ob = some j) h h1 → bltV h (.append sz bytes) [v, w] = some (.slice (some ⟨h.next, 0, none⟩) (rows.length + news.length) openCap, h1.new (.cells (rows ++ news).flatten sz)) →
      ∃ h', bltV h (.append sz bytes) [v, w] = some (.slice (some ⟨h.next, 0, none⟩) (rows.length + news.length) openCap, h') ∧ Grow h' sz (.slice (some ⟨h.next, 0, none⟩) (rows.length + news.length) openCap) (rows ++ news) (some h.next) ∧ h'.next = h.next + 1 ∧ FrD (fun j => ob = some j) h h' ∧ h'.get h.next = some (.cells (rows ++ news).flatten sz) := by
    intro h1 e1 e2 e3
    refine ⟨_, e3, ?_, by simp [e1], e2.new _, by rw [← e1]; simp⟩
    rw [← List.length_append, ← e1]
    exact .cells (by simp) (by simp) hrows
  have hb0 : bltV h (.append sz bytes) [v, w] = appendTo sz bytes news.length news.flatten h v := by
    show (appended h sz w).bind (fun nl => appendTo sz bytes nl.1 nl.2 h v) = _
    rw [ha, Option.bind_some]
  cases hg with
  | nil =>
    refine key h rfl (.refl _ _) ?_
    rw [hb0]
    unfold appendTo; dsimp only
    have hbb' : (Nat.ble ((0 + news.length) * bytes) 1073741824 && news.flatten.all isCell) = true := hbb
    rw [if_neg hn0, if_pos hbb', if_pos (by rfl)]
    simp [newOpen]
  | @cells b rows hlt hgb hrr =>
    refine key (h.put b .dead) rfl ((FrD.refl _ _).put (D := fun j => some b = some j) (.inr rfl) _) ?_
    rw [hb0]
    have hlen : rows.flatten.length = rows.length * sz := flat_len fun r hx => (hrr r hx).1
    have hdiv : (rows.flatten.length - 0) / sz = rows.length := by rw [Nat.sub_zero, hlen, Nat.mul_div_cancel _ hs]
    have hble : ¬ (Nat.ble (rows.length + news.length) rows.length = true) := by rw [Nat.ble_eq]; omega
    have hro : (Nat.beq sz sz && !Nat.beq sz roE) = true := by
      have : Nat.beq sz roE = false := by rw [Bool.eq_false_iff]; intro h; exact hsb (Nat.eq_of_beq_eq_true h)
      rw [this]; simp
    have hoc : Nat.beq openCap openCap = true := Nat.beq_refl _
    unfold appendTo; dsimp only
    rw [if_neg hn0, if_pos hbb, hgb, Option.bind_some]
    unfold appendIn; dsimp only
    rw [if_pos hoc, if_pos hro, hdiv, if_neg hble]
    unfold growIn
    rw [dropN_z, takeC_all (flat_clean fun r hx => (hrr r hx).2) hlen.symm]
    simp [newOpen, H.put]
  | @full b e rows hlt hgb hrr hc =>
    refine key h rfl (.refl _ _) ?_
    rw [hb0]
    have hlen : rows.flatten.length = rows.length * sz := flat_len fun r hx => (hrr r hx).1
    have hble : ¬ (Nat.ble (rows.length + news.length) rows.length = true) := by rw [Nat.ble_eq]; omega
    have hoc : ¬ Nat.beq rows.length openCap = true := fun h => by have := Nat.eq_of_beq_eq_true h; omega
    unfold appendTo; dsimp only
    rw [if_neg hn0, if_pos hbb, hgb, Option.bind_some]
    unfold appendIn; dsimp only
    rw [if_neg hoc, if_neg hble]
    unfold growIn
    rw [dropN_z, takeC_all (flat_clean fun r hx => (hrr r hx).2) hlen.symm]
    simp [newOpen]
theorem append_grow {h : H} {sz bytes : Nat} {v w : Value} {rows news : List (List Value)} {ob : Option Nat} (hs : 0 < sz) (hsb : sz ≠ roE) (hg : Grow h sz v rows ob) (hne : news ≠ []) (ha : appended h sz w = some (news.length, news.flatten)) (hcell : news.flatten.all isCell = true)
    (hr : ∀ r ∈ news, r.length = sz ∧ r.all clean1 = true) (hb : (rows.length + news.length) * bytes ≤ 1073741824) :
    ∃ h' v', bltV h (.append sz bytes) [v, w] = some (v', h') ∧ Grow h' sz v' (rows ++ news) (some h.next) ∧ h'.next = h.next + 1 ∧ FrD (fun j => ob = some j) h h' := by
  obtain ⟨h', h1, h2, h3, h4, _⟩ := append_growX hs hsb hg hne ha hcell hr hb
  exact ⟨h', _, h1, h2, h3, h4⟩
theorem appended_one {h : H} {sz b e : Nat} {r : List Value} (hg : h.get b = some (.cells r e)) (hl : r.length = sz) (hc : r.all clean1 = true) : appended h sz (.slice (some ⟨b, 0, none⟩) 1 1) = some ([r].length, [r].flatten) := by
  show (h.readN b 0 (1 * sz)).map _ = _
  rw [readN_of hg, dropN_z, takeC_all hc (by omega)]
  simp
/-- one element is appended. -/
theorem append_one {h : H} {sz bytes b e : Nat} {v : Value} {r : List Value} {rows : List (List Value)} {ob : Option Nat} (hs : 0 < sz) (hsb : sz ≠ roE) (hg : Grow h sz v rows ob) (hgb : h.get b = some (.cells r e)) (hl : r.length = sz) (hc : r.all clean1 = true) (hi : r.all isCell = true) (hb : (rows.length + 1) * bytes ≤ 1073741824) :
    ∃ h' v', bltV h (.append sz bytes) [v, .slice (some ⟨b, 0, none⟩) 1 1] = some (v', h') ∧ Grow h' sz v' (rows ++ [r]) (some h.next) ∧ h'.next = h.next + 1 ∧ FrD (fun j => ob = some j) h h' :=
  append_grow hs hsb hg (by simp) (appended_one hgb hl hc) (by simpa using hi) (by simp; exact ⟨hl, by simpa using hc⟩) hb
end Go.Ideal
/- Maps whose keys are pairs of numbers. -/
set_option linter.unusedSimpArgs false
set_option linter.unusedVariables false
namespace Go.Ideal
abbrev key2 (a b : Int) : Value := .agg ⟨[.int .i64 a, .int .i64 b]⟩
abbrev kk2 : KK := .leaves [0, 1]
theorem same_key2 (a b c d : Int) : sameKey kk2 (key2 a b) (key2 c d) = some (decide (a = c) && decide (b = d)) := by
  have : sameKey kk2 (key2 a b) (key2 c d) = some (eqI a c && (eqI b d && true)) := rfl
  rw [this, eqI_eq, eqI_eq, Bool.and_true]; congr 1
structure MapIs (es : List (Value × Value × Nat)) (r : Int → Int → Option Value) : Prop where
  look : ∀ a b, findE kk2 (key2 a b) es = some (r a b)
  keys : ∀ e ∈ es, ∃ a b, e.1 = key2 a b
theorem MapIs.nil : MapIs [] fun _ _ => none := ⟨fun _ _ => rfl, fun e h => by cases h⟩
def upd2 (r : Int → Int → Option Value) (a b : Int) (v : Value) : Int → Int → Option Value := fun c d => if c = a ∧ d = b then some v else r c d
theorem findE_cons (k key v : Value) (b : Nat) (es : List (Value × Value × Nat)) : findE kk2 k ((key, v, b) :: es) = (sameKey kk2 k key).bind fun s => match s with | true => some (some v) | false => findE kk2 k es := rfl
theorem setE_cons (k v key w : Value) (clock b : Nat) (es : List (Value × Value × Nat)) : setE kk2 k v clock ((key, w, b) :: es) = (sameKey kk2 k key).bind fun s => match s with
    | true => if sameInts (cellsL k) (cellsL key) then some ((k, v, b) :: es, clock) else none
    | false => (setE kk2 k v clock es).map fun x => ((key, w, b) :: x.1, x.2) := rfl
theorem sameInts_key2 (a b : Int) : sameInts (cellsL (key2 a b)) (cellsL (key2 a b)) = true := by
  show (match decide (IntKind.i64 = IntKind.i64) && eqI a a with | true => (match decide (IntKind.i64 = IntKind.i64) && eqI b b with | true => true | false => false) | false => false) = true
  simp [eqI_eq]
theorem setE_find (a b : Int) (v : Value) : ∀ (es : List (Value × Value × Nat)) (clock : Nat), (∀ e ∈ es, ∃ a b, e.1 = key2 a b) → ∃ es' c', setE kk2 (key2 a b) v clock es = some (es', c') ∧ (∀ e ∈ es', ∃ a b, e.1 = key2 a b) ∧
    ∀ c d, findE kk2 (key2 c d) es' = if c = a ∧ d = b then some (some v) else findE kk2 (key2 c d) es
  | [], clock, _ => ⟨_, _, rfl, fun e h => by rw [List.mem_singleton] at h; subst h; exact ⟨_, _, rfl⟩, fun c d => by
      rw [findE_cons, same_key2]
      by_cases h1 : c = a
      · by_cases h2 : d = b
        · simp [h1, h2]
        · simp [h1, h2, findE]
      · simp [h1, findE]⟩
  | (key, w, n) :: es, clock, hk => by
    obtain ⟨p, q, e⟩ := hk (key, w, n) (by simp)
    have e : key = key2 p q := e
    subst e
    rw [setE_cons, same_key2]
    by_cases hab : a = p ∧ b = q
    · obtain ⟨rfl, rfl⟩ := hab
      refine ⟨(key2 a b, v, n) :: es, clock, by rw [decide_eq_true rfl, decide_eq_true rfl]; show (if sameInts (cellsL (key2 a b)) (cellsL (key2 a b)) = true then _ else _) = _; rw [if_pos (sameInts_key2 a b)], fun e he => ?_, fun c d => ?_⟩
      · rcases List.mem_cons.1 he with rfl | he
        · exact ⟨_, _, rfl⟩
        · exact hk e (by simp [he])
      · rw [findE_cons, findE_cons, same_key2]
        by_cases h : c = a ∧ d = b
        · simp [h]
        · rw [if_neg h]
          have : (decide (c = a) && decide (d = b)) = false := by
            rw [Bool.eq_false_iff]; intro h'; simp at h'; exact h h'
          rw [this]; rfl
    · have hf : (decide (a = p) && decide (b = q)) = false := by
        rw [Bool.eq_false_iff]; intro h'; simp at h'; exact hab h'
      obtain ⟨es', c', h1, h2, h3⟩ := setE_find a b v es clock fun e he => hk e (by simp [he])
      refine ⟨(key2 p q, w, n) :: es', c', by rw [hf]; simp [h1], fun e he => ?_, fun c d => ?_⟩
      · rcases List.mem_cons.1 he with rfl | he
        · exact ⟨_, _, rfl⟩
        · exact h2 e he
      · rw [findE_cons, findE_cons, same_key2, h3]
        by_cases h : c = p ∧ d = q
        · obtain ⟨rfl, rfl⟩ := h
          have : ¬ (c = a ∧ d = b) := fun h => hab ⟨h.1.symm, h.2.symm⟩
          simp [this]
        · have : (decide (c = p) && decide (d = q)) = false := by
            rw [Bool.eq_false_iff]; intro h'; simp at h'; exact h h'
          rw [this]; simp
theorem MapIs.set {es : List (Value × Value × Nat)} {r : Int → Int → Option Value} (m : MapIs es r) (a b : Int) (v : Value) (clock : Nat) : ∃ es' c', setE kk2 (key2 a b) v clock es = some (es', c') ∧ MapIs es' (upd2 r a b v) := by
  obtain ⟨es', c', h1, h2, h3⟩ := setE_find a b v es clock m.keys
  refine ⟨es', c', h1, ⟨fun c d => ?_, h2⟩⟩
  rw [h3, m.look]
  unfold upd2
  split <;> rfl
/-- a map in memory. -/
def MapM (h : H) (m : Nat) (r : Int → Int → Option Value) : Prop := ∃ es c, h.get m = some (.map es c) ∧ MapIs es r
theorem MapM.fr {D : Nat → Prop} {h h' : H} {m : Nat} {r : Int → Int → Option Value} (hm : MapM h m r) (hf : FrD D h h') (hl : m < h.next) (hd : ¬ D m) : MapM h' m r := by
  obtain ⟨es, c, h1, h2⟩ := hm
  exact ⟨es, c, (hf.get _ hl hd).trans h1, h2⟩
theorem look_ok {h : H} {m : Nat} {r : Int → Int → Option Value} (hm : MapM h m r) (z : Value) (a b : Int) : vLookup kk2 z true (.map (some m)) (key2 a b) h = some (.tuple #[(r a b).getD z, .bool (r a b).isSome], h) := by
  obtain ⟨es, c, h1, h2⟩ := hm
  show ((sameKey kk2 (key2 a b) (key2 a b)).bind fun _ => (entriesOf h (.map (some m))).bind fun es => (findE kk2 (key2 a b) es).map fun r => (lookupRes z true r, h)) = _
  rw [same_key2, Option.bind_some]
  have : entriesOf h (.map (some m)) = some es := by unfold entriesOf; simp [h1]
  rw [this, Option.bind_some, h2.look, Option.map_some]
  cases r a b <;> rfl
theorem look1_ok {h : H} {m : Nat} {r : Int → Int → Option Value} (hm : MapM h m r) (z : Value) (a b : Int) : vLookup kk2 z false (.map (some m)) (key2 a b) h = some ((r a b).getD z, h) := by
  obtain ⟨es, c, h1, h2⟩ := hm
  show ((sameKey kk2 (key2 a b) (key2 a b)).bind fun _ => (entriesOf h (.map (some m))).bind fun es => (findE kk2 (key2 a b) es).map fun r => (lookupRes z false r, h)) = _
  rw [same_key2, Option.bind_some]
  have : entriesOf h (.map (some m)) = some es := by unfold entriesOf; simp [h1]
  rw [this, Option.bind_some, h2.look, Option.map_some]
  cases r a b <;> rfl
theorem upd_ok {h : H} {m : Nat} {r : Int → Int → Option Value} (hm : MapM h m r) (a b : Int) (v : Value) : ∃ o, mapUpd kk2 h (key2 a b) v (.map (some m)) = some (undefV, h.put m o) ∧ MapM (h.put m o) m (upd2 r a b v) := by
  obtain ⟨es, c, h1, h2⟩ := hm
  obtain ⟨es', c', h3, h4⟩ := h2.set a b v c
  refine ⟨.map es' c', ?_, ⟨es', c', get_put_eq rfl, h4⟩⟩
  show (h.get m).bind (mapSet kk2 h (key2 a b) v m) = _
  rw [h1, Option.bind_some]
  show ((sameKey kk2 (key2 a b) (key2 a b)).bind fun _ => (setE kk2 (key2 a b) v c es).map fun y => (undefV, h.put m (.map y.1 y.2))) = _
  rw [same_key2, Option.bind_some, h3]; rfl
theorem vBin_pair (a b c d : Int) (h : H) : vBin .eql (.leaves [0, 1]) (key2 a b) (key2 c d) h = some (.bool (decide (a = c ∧ b = d)), h) := by
  have e : eqV (.leaves [0, 1]) (key2 a b) (key2 c d) = some (eqI a c && (eqI b d && true)) := rfl
  show ((eqV (.leaves [0, 1]) (key2 a b) (key2 c d)).map Value.bool).map _ = _
  rw [e, eqI_eq, eqI_eq, Bool.and_true]
  show some (Value.bool _, h) = some (Value.bool _, h)
  congr 3
  rw [Bool.eq_iff_iff]; simp
end Go.Ideal
/- What came in, as the ideal machine reads it. -/
set_option linter.unusedVariables false
namespace Go.Ideal
open Go.ChangeShapes Go.WideShapes Go.RowKit
variable {P : Program} {W : World}

theorem cell_heap {b o : Nat} {v : Value} (h : W.cell? ⟨b, o, none⟩ = some v) : ∃ c t fr, W.heap[b]? = some (.cells c t fr) ∧ c[o]? = some v := by
  unfold World.cell? at h
  dsimp only at h
  split at h
  · rename_i c t fr hb
    exact ⟨c, t, fr, hb, by simpa using h⟩
  · cases h
theorem spot_of_cell {a : Addr} {v : Value} (h : W.cell? a = some v) : a.spot = none := by
  unfold World.cell? at h
  split at h
  · split at h
    · cases h
    · rename_i hs; simpa using hs
  · cases h
theorem add_none {b o n : Nat} : (⟨b, o, none⟩ : Addr).add n = ⟨b, o + n, none⟩ := by
  unfold Addr.add
  split
  · rename_i e; subst e; rfl
  · rfl
/-- a row of known cells, read. -/
theorem takeC_get {cs r : List Value} {n o : Nat} (hr : r.length = n) (hc : r.all clean1 = true) (h : ∀ k, k < n → cs[o + k]? = r[k]?) : takeC n (dropN o cs) = some r := by
  refine takeC_of ?_ hc
  rw [dropN_eq, takeN_eq]
  have hl : n ≤ (cs.drop o).length := by
    rcases Nat.lt_or_ge (cs.drop o).length n with h' | h'
    · exfalso
      have h0 : (cs.drop o).length < r.length := by omega
      have := h (cs.drop o).length h'
      rw [List.getElem?_eq_none (by rw [List.length_drop]; omega), List.getElem?_eq_getElem h0] at this
      cases this
    · exact h'
  rw [if_pos hl]
  congr 1
  apply List.ext_getElem?
  intro k
  by_cases hk : k < n
  · rw [List.getElem?_take, if_pos hk, List.getElem?_drop]; exact h k hk
  · rw [List.getElem?_take, if_neg hk, List.getElem?_eq_none (by omega)]
theorem list_of {α : Type} {Q : Nat → α → Prop} : ∀ n, (∀ i, i < n → ∃ x, Q i x) → ∃ l : List α, l.length = n ∧ ∀ i x, l[i]? = some x → Q i x
  | 0, _ => ⟨[], rfl, fun i x h => by simp at h⟩
  | n + 1, h => by
    obtain ⟨l, hl, hq⟩ := list_of n fun i hi => h i (by omega)
    obtain ⟨x, hx⟩ := h n (by omega)
    refine ⟨l ++ [x], by simp [hl], fun i y hy => ?_⟩
    by_cases e : i < n
    · rw [List.getElem?_append_left (by omega)] at hy; exact hq i y hy
    · rw [List.getElem?_append_right (by omega)] at hy
      have : i = n := by
        rcases Nat.lt_or_ge (i - l.length) 1 with h' | h'
        · omega
        · rw [List.getElem?_eq_none (by simpa using h')] at hy; cases hy
      subst this
      rw [hl, Nat.sub_self] at hy; simp at hy; subst hy; exact hx

section
variable {H : Type} {enc : TypeId × Value → H} {base : Nat} {spare : Nat → Bool} {held : Bool}
theorem int_of_trod {t : TypeId} {k : IntKind} {fuel : Nat} {c : Value} {x : DataW H × List MemPlace} (ht : P.underlying t = some (.int k)) (h : DataW.trod enc P W base spare held fuel t [c] = some x) : ∃ n, c = .int k n ∧ (Lit.int k n).wf = true := by
  obtain ⟨n, e, _, hw⟩ := DataW.trod_int ht h
  cases e; exact ⟨n, rfl, hw⟩
/-- a struct of three numbers. -/
theorem ints3_of_trod {t i0 i1 i2 : TypeId} {f0 f1 f2 : Field} {fuel : Nat} {cs : List Value} {x : DataW H × List MemPlace} (ht : P.underlying t = some (.struct #[f0, f1, f2])) (h0 : f0.type = i0 ∧ f0.offset = 0) (h1 : f1.type = i1 ∧ f1.offset = 1) (h2 : f2.type = i2 ∧ f2.offset = 2)
    (u0 : P.underlying i0 = some (.int .i64)) (u1 : P.underlying i1 = some (.int .i64)) (u2 : P.underlying i2 = some (.int .i64)) (c0 : P.cellsOf i0 = 1) (c1 : P.cellsOf i1 = 1) (c2 : P.cellsOf i2 = 1) (hc : P.cellsOf t = 3) (h : DataW.trod enc P W base spare held fuel t cs = some x) :
    ∃ a b c : Int, cs = [.int .i64 a, .int .i64 b, .int .i64 c] := by
  obtain ⟨xs, n, _, _, hl, hlen, hf⟩ := DataW.trod_struct ht h
  rw [hc] at hl
  match cs, hl with
  | [d0, d1, d2], _ =>
    have e0 := hf 0 f0 rfl
    have e1 := hf 1 f1 rfl
    have e2 := hf 2 f2 rfl
    rw [h0.1, h0.2, c0] at e0
    rw [h1.1, h1.2, c1] at e1
    rw [h2.1, h2.2, c2] at e2
    match xs, hlen with
    | [y0, y1, y2], _ =>
      obtain ⟨a, rfl, _⟩ := int_of_trod u0 (show DataW.trod enc P W base spare held n i0 [d0] = some y0 from e0)
      obtain ⟨b, rfl, _⟩ := int_of_trod u1 (show DataW.trod enc P W base spare held n i1 [d1] = some y1 from e1)
      obtain ⟨c, rfl, _⟩ := int_of_trod u2 (show DataW.trod enc P W base spare held n i2 [d2] = some y2 from e2)
      exact ⟨a, b, c, rfl⟩
/-- a slice whose elements are known rows of cells. -/
theorem row_of_trod {α : Type} {f : α → List Value} {sz : Nat} {t e : TypeId} {fuel : Nat} {v : Value} {x : DataW H × List MemPlace} (ht : P.underlying t = some (.slice e)) (hc : P.cellsOf e = sz) (hs : 0 < sz) (hlen : ∀ a, (f a).length = sz) (hclean : ∀ a, (f a).all clean1 = true) (hok : ∀ a, ∀ v ∈ f a, okV W v = true)
    (hel : ∀ fuel cs y, DataW.trod enc P W base spare held fuel e cs = some y → ∃ a, cs = f a)
    (hv : ∀ a len cap, v = .slice (some a) len cap → a.spot = none ∧ isCells W a.block = true)
    (h : DataW.trod enc P W base spare held fuel t [v] = some x) : okV W v = true ∧ ∃ es : List α, Row (impH W) sz v (es.map f) := by
  rcases DataW.trod_slice ht h with ⟨e0, _⟩ | ⟨a, len, cap, elems, rest, n, _, e0, _, hb, hl, hm, hlen', hel', hsp, hns⟩
  · cases e0
    exact ⟨rfl, [], .nil⟩
  · cases e0
    obtain ⟨hsp0, hic⟩ := hv a len cap rfl
    obtain ⟨b, o, s⟩ := a
    simp only at hsp0; subst hsp0
    have hic' := hic
    unfold isCells at hic
    dsimp only at hic hic'
    split at hic
    · rename_i c t' fr hbk
      have hcap : cap < openCap := by unfold openCap; unfold maxLen at hm; omega
      refine ⟨by simp [okV, hl, hcap, hic'], ?_⟩
      have hel2 : ∀ i, i < len → ∃ a : α, ∀ k, k < sz → W.cell? ⟨b, o + (i * sz + k), none⟩ = (f a)[k]? := by
        intro i hi
        have h1 := hel' i hi
        rw [List.getElem?_eq_getElem (by omega), hc] at h1
        obtain ⟨cs, hcs, hy⟩ := Option.bind_eq_some_iff.1 h1
        obtain ⟨a, rfl⟩ := hel _ _ _ hy
        obtain ⟨_, _, h3⟩ := World.cells?_some hcs
        refine ⟨a, fun k hk => ?_⟩
        have := h3 k hk
        rw [add_none, add_none] at this
        rw [← this, Nat.add_assoc]
      obtain ⟨es, hes, hq⟩ := list_of len hel2
      subst hes
      refine ⟨es, ?_⟩
      have hlm : es.length = (es.map f).length := (List.length_map _).symm
      rw [hlm]
      refine .cells ?_ (impH_cells hbk) (fun i r hi => ?_) (.inr ⟨hcap, by rw [List.length_map]; exact hl⟩)
      · rw [impH_next]; exact Nat.lt_succ_of_lt (Array.getElem?_eq_some_iff.1 hbk).1
      · rw [List.getElem?_map] at hi
        obtain ⟨a, ha, rfl⟩ := Option.map_eq_some_iff.1 hi
        refine takeC_get (hlen a) (hclean a) fun k hk => ?_
        have hck := hq i a ha k hk
        have hkl : k < (f a).length := by rw [hlen]; exact hk
        have hka : (f a)[k]? = some (f a)[k] := List.getElem?_eq_getElem hkl
        rw [hka] at hck ⊢
        obtain ⟨c', t'', fr', hb', hco⟩ := cell_heap hck
        rw [hbk] at hb'; cases hb'
        rw [List.getElem?_map, Nat.add_assoc, Array.getElem?_toList, hco]
        show some (impV W _) = _
        unfold impV
        rw [if_pos (hok a _ (List.getElem_mem _))]
    · cases hic
end
section
variable {H : Type} {enc : TypeId × Value → H} {base : Nat} {held : Bool}
theorem impV_int {k : IntKind} {n : Int} : impV W (.int k n) = .int k n := rfl
theorem impV_bool {b : Bool} : impV W (.bool b) = .bool b := rfl
theorem impV_str {s : ByteArray} : impV W (.string s) = .string s := rfl
theorem impV_ok {v : Value} (h : okV W v = true) : impV W v = v := by unfold impV; rw [if_pos h]
/-- a slice that came in, wherever it stands. -/
theorem nested_row {Q : List Value → Prop} {sz : Nat} {t e : TypeId} {fuel : Nat} {v : Value} {x : DataW H × List MemPlace} (ht : P.underlying t = some (.slice e)) (hc : P.cellsOf e = sz) (hs : 0 < sz) (hQ : ∀ r, Q r → r.length = sz ∧ r.all clean1 = true)
    (hel : ∀ n cs y, fuel = n + 1 → DataW.trod enc P W base (fun _ => true) held n e cs = some y → Q (cs.map (impV W)))
    (h : DataW.trod enc P W base (fun _ => true) held fuel t [v] = some x) : ∃ rows, Row (impH W) sz (impV W v) rows ∧ (∀ r ∈ rows, Q r) ∧ (∃ b n c, impV W v = .slice b n c ∧ clean1 (impV W v) = true) := by
  rcases DataW.trod_slice ht h with ⟨e0, _⟩ | ⟨a, len, cap, elems, rest, n, hfu, e0, _, hb, hl, hm, hlen', hel', hsp, hns⟩
  · cases e0
    exact ⟨[], .nil, by simp, _, _, _, rfl, rfl⟩
  · cases e0
    have hcap : cap < openCap := by unfold openCap; unfold maxLen at hm; omega
    by_cases hz : cap = 0
    · subst hz
      obtain rfl : len = 0 := by omega
      by_cases hok : okV W (.slice (some a) 0 0) = true
      · rw [impV_ok hok]
        unfold okV at hok
        simp only [Bool.and_eq_true, Option.isNone_iff_eq_none, decide_eq_true_eq] at hok
        obtain ⟨h1, h2, h3, h4⟩ := hok
        have hlt := isCells_lt h4
        obtain ⟨b, o, s⟩ := a
        simp only at h1; subst h1
        exact ⟨[], .hole (by rw [impH_next]; exact Nat.lt_succ_of_lt hlt), by simp, _, _, _, rfl, rfl⟩
      · have : impV W (.slice (some a) 0 0) = dang W := by unfold impV; rw [if_neg hok]; rfl
        rw [this]
        exact ⟨[], .hole (by rw [impH_next]; exact Nat.lt_succ_self _), by simp, _, _, _, rfl, rfl⟩
    · have hcell : ∀ i, i < cap → ∃ cs y, W.cells? base (a.add (i * P.cellsOf e)) (P.cellsOf e) = some cs ∧ DataW.trod enc P W base (fun _ => true) held n e cs = some y := by
        intro i hi
        by_cases hil : i < len
        · have h1 := hel' i hil
          rw [List.getElem?_eq_getElem (by omega)] at h1
          obtain ⟨cs, hcs, hy⟩ := Option.bind_eq_some_iff.1 h1
          exact ⟨cs, _, hcs, hy⟩
        · obtain ⟨hrl, hr⟩ := hsp rfl
          have h1 := hr (i - len) (by omega)
          rw [List.getElem?_eq_getElem (by omega)] at h1
          obtain ⟨cs, hcs, hy⟩ := Option.bind_eq_some_iff.1 h1
          rw [show len + (i - len) = i by omega] at hcs
          exact ⟨cs, _, hcs, hy⟩
      have hspot : ∃ b o c t fr, a = ⟨b, o, none⟩ ∧ W.heap[b]? = some (.cells c t fr) := by
        obtain ⟨cs, y, hcs, hy⟩ := hcell 0 (by omega)
        obtain ⟨_, q2, q3⟩ := World.cells?_some hcs
        have hlc : 0 < cs.length := by
          have := (hQ _ (hel n cs y hfu hy)).1
          rw [List.length_map] at this; omega
        have hg : cs[0]? = some cs[0] := List.getElem?_eq_getElem hlc
        have h3 := q3 0 (by rw [hc]; exact hs)
        rw [hg] at h3
        have hsp0 := spot_of_cell h3
        obtain ⟨b, o, s⟩ := a
        have : s = none := by
          unfold Addr.add at hsp0
          cases s with
          | none => rfl
          | some _ => split at hsp0 <;> (try split at hsp0) <;> simp_all
        subst this
        rw [add_none, add_none] at h3
        obtain ⟨c, t', fr, hbk, _⟩ := cell_heap h3
        exact ⟨b, o, c, t', fr, rfl, hbk⟩
      obtain ⟨b, o, c, t', fr, rfl, hbk⟩ := hspot
      have hic : isCells W b = true := by unfold isCells; rw [hbk]
      have hok : okV W (.slice (some ⟨b, o, none⟩) len cap) = true := by simp [okV, hl, hcap, hic]
      rw [impV_ok hok]
      have hel2 : ∀ i, i < len → ∃ r : List Value, takeC sz (dropN (o + i * sz) (c.toList.map (impV W))) = some r ∧ Q r := by
        intro i hi
        obtain ⟨cs, y, hcs, hy⟩ := hcell i (by omega)
        have hq := hel n cs y hfu hy
        obtain ⟨h1, h2⟩ := hQ _ hq
        refine ⟨_, takeC_get h1 h2 fun k hk => ?_, hq⟩
        obtain ⟨_, _, h3⟩ := World.cells?_some hcs
        have h3 := h3 k (by rw [hc]; exact hk)
        rw [List.length_map] at h1
        have hck : cs[k]? = some cs[k] := List.getElem?_eq_getElem (by omega)
        rw [add_none, add_none, hc, hck] at h3
        obtain ⟨c', t'', fr', hb', hco⟩ := cell_heap h3
        rw [hbk] at hb'; cases hb'
        rw [List.getElem?_map, List.getElem?_map, Array.getElem?_toList, hco, hck]
      obtain ⟨rows, hrl, hrq⟩ := list_of len hel2
      subst hrl
      refine ⟨rows, .cells ?_ (impH_cells hbk) (fun i r hi => (hrq i r hi).1) (.inr ⟨hcap, hl⟩), fun r hr => ?_, _, _, _, rfl, rfl⟩
      · rw [impH_next]; exact Nat.lt_succ_of_lt (Array.getElem?_eq_some_iff.1 hbk).1
      · obtain ⟨i, hi⟩ := List.mem_iff_getElem?.1 hr
        exact (hrq i r hi).2
end
/-- a slice that was handed over has a block of cells. -/
theorem slice_ok {r : Reach} {base : Nat} {t e : TypeId} {v : Value} (ht : P.underlying t = some (.slice e)) (h : Cell.okWide P W r base t v) : ∀ a len cap, v = .slice (some a) len cap → a.spot = none ∧ isCells W a.block = true := by
  rintro a len cap rfl
  unfold Cell.okWide at h
  rw [ht] at h
  dsimp only at h
  unfold Cell.ok at h
  rw [ht] at h
  obtain ⟨_, _, _, hs, row, cells, hsh, _⟩ := h
  refine ⟨hs, ?_⟩
  unfold World.shape? at hsh
  unfold isCells
  split at hsh
  · rename_i hb; rw [hb]
  · cases hsh
end Go.Ideal
noncomputable section
namespace Go.Ideal.J
open Go Go.Ideal
set_option maxRecDepth 100000
set_option linter.unusedVariables false
abbrev n_cabotagelaw22_JudgeHolds : Nat := 7
abbrev n_judge_Weak : Nat := 11
abbrev n_judge_Check : Nat := 13
abbrev n_cabotageref22_Check : Nat := 14
abbrev n_cabotageref22_SameGraph : Nat := 15
abbrev n_cabotagelaw22_known : Nat := 16
abbrev n_judge_Tells : Nat := 17
abbrev n_cabotageref22_SameFormula : Nat := 19
abbrev n_judge_Alike : Nat := 20
abbrev n_judge_Holds : Nat := 24
abbrev n_cabotageref22_Holds : Nat := 25
abbrev n_judge_Classes : Nat := 26
abbrev n_cabotageref03_SameInts : Nat := 30
abbrev n_judge_weak : Nat := 31
abbrev n_judge_compare : Nat := 33
abbrev n_cabotageref22_less : Nat := 34
abbrev n_cabotagelaw22_edges : Nat := 35
abbrev n_cabotageref22_Both : Nat := 36
abbrev n_judge_isState : Nat := 37
abbrev n_judge_apart : Nat := 38
abbrev n_judge_teller_size : Nat := 39
abbrev n_judge_teller_formula : Nat := 40
abbrev n_judge_both : Nat := 44
abbrev n_judge_alike : Nat := 45
abbrev n_judge_formed : Nat := 48
abbrev n_judge_holds : Nat := 49
abbrev n_cabotageref22_formula : Nat := 50
abbrev n_cabotageref22_holdsIn : Nat := 51
abbrev n_judge_classes : Nat := 52
abbrev n_judge_steps : Nat := 54
abbrev n_slices_Contains_int_int_ : Nat := 55
abbrev n_cmp_Compare_int_ : Nat := 57
abbrev n_judge_silent : Nat := 62
abbrev n_cmp_Or_int_ : Nat := 63
abbrev n_judge_rounds_first : Nat := 64
abbrev n_judge_leads : Nat := 65
abbrev n_slices_Clone_api_JudgeEdge_api_JudgeEdge_ : Nat := 68
abbrev n_judge_steps_1 : Nat := 69
abbrev n_slices_BinarySearchFunc_api_JudgeEdge_api_JudgeEdge_int_ : Nat := 70
abbrev n_judge_steps_1_1 : Nat := 71
abbrev n_slices_Index_int_int_ : Nat := 72
abbrev n_cmp_isNaN_int_ : Nat := 75
abbrev n_judge_rounds_told : Nat := 80
abbrev n_judge_leads_1 : Nat := 81
abbrev p0 : List Bool := []
abbrev p1 : List Bool := [true]
abbrev p2 : List Bool := [false, true]
abbrev p3 : List Bool := [true, true]
abbrev p4 : List Bool := [false, false, true]
abbrev p5 : List Bool := [true, false, true]
abbrev p6 : List Bool := [false, true, true]
abbrev p7 : List Bool := [true, true, true]
abbrev p8 : List Bool := [false, false, false, true]
abbrev p9 : List Bool := [true, false, false, true]
abbrev p10 : List Bool := [false, true, false, true]
abbrev p11 : List Bool := [true, true, false, true]
abbrev p12 : List Bool := [false, false, true, true]
abbrev p13 : List Bool := [true, false, true, true]
abbrev p14 : List Bool := [false, true, true, true]
abbrev p15 : List Bool := [true, true, true, true]
abbrev p16 : List Bool := [false, false, false, false, true]
abbrev p17 : List Bool := [true, false, false, false, true]
abbrev p18 : List Bool := [false, true, false, false, true]
abbrev p19 : List Bool := [true, true, false, false, true]
abbrev p20 : List Bool := [false, false, true, false, true]
abbrev p21 : List Bool := [true, false, true, false, true]
abbrev p22 : List Bool := [false, true, true, false, true]
abbrev p23 : List Bool := [true, true, true, false, true]
abbrev p24 : List Bool := [false, false, false, true, true]
abbrev p25 : List Bool := [true, false, false, true, true]
abbrev p26 : List Bool := [false, true, false, true, true]
abbrev p27 : List Bool := [true, true, false, true, true]
abbrev p28 : List Bool := [false, false, true, true, true]
abbrev p29 : List Bool := [true, false, true, true, true]
abbrev p30 : List Bool := [false, true, true, true, true]
abbrev p31 : List Bool := [true, true, true, true, true]
abbrev p32 : List Bool := [false, false, false, false, false, true]
abbrev p33 : List Bool := [true, false, false, false, false, true]
abbrev p34 : List Bool := [false, true, false, false, false, true]
abbrev p35 : List Bool := [true, true, false, false, false, true]
abbrev p36 : List Bool := [false, false, true, false, false, true]
abbrev p37 : List Bool := [true, false, true, false, false, true]
abbrev p38 : List Bool := [false, true, true, false, false, true]
abbrev p39 : List Bool := [true, true, true, false, false, true]
abbrev p40 : List Bool := [false, false, false, true, false, true]
abbrev p41 : List Bool := [true, false, false, true, false, true]
abbrev p42 : List Bool := [false, true, false, true, false, true]
abbrev p43 : List Bool := [true, true, false, true, false, true]
abbrev p44 : List Bool := [false, false, true, true, false, true]
abbrev p45 : List Bool := [true, false, true, true, false, true]
abbrev p46 : List Bool := [false, true, true, true, false, true]
abbrev p47 : List Bool := [true, true, true, true, false, true]
abbrev p48 : List Bool := [false, false, false, false, true, true]
abbrev p49 : List Bool := [true, false, false, false, true, true]
abbrev p50 : List Bool := [false, true, false, false, true, true]
abbrev p51 : List Bool := [true, true, false, false, true, true]
abbrev p52 : List Bool := [false, false, true, false, true, true]
abbrev p53 : List Bool := [true, false, true, false, true, true]
abbrev p54 : List Bool := [false, true, true, false, true, true]
abbrev p55 : List Bool := [true, true, true, false, true, true]
abbrev p56 : List Bool := [false, false, false, true, true, true]
abbrev p57 : List Bool := [true, false, false, true, true, true]
abbrev p58 : List Bool := [false, true, false, true, true, true]
abbrev p59 : List Bool := [true, true, false, true, true, true]
abbrev p60 : List Bool := [false, false, true, true, true, true]
abbrev p61 : List Bool := [true, false, true, true, true, true]
abbrev p62 : List Bool := [false, true, true, true, true, true]
abbrev p63 : List Bool := [true, true, true, true, true, true]
abbrev p64 : List Bool := [false, false, false, false, false, false, true]
abbrev p65 : List Bool := [true, false, false, false, false, false, true]
abbrev p66 : List Bool := [false, true, false, false, false, false, true]
abbrev p67 : List Bool := [true, true, false, false, false, false, true]
abbrev p68 : List Bool := [false, false, true, false, false, false, true]
abbrev p69 : List Bool := [true, false, true, false, false, false, true]
abbrev p70 : List Bool := [false, true, true, false, false, false, true]
abbrev p71 : List Bool := [true, true, true, false, false, false, true]
abbrev p72 : List Bool := [false, false, false, true, false, false, true]
abbrev p73 : List Bool := [true, false, false, true, false, false, true]
abbrev p74 : List Bool := [false, true, false, true, false, false, true]
abbrev p75 : List Bool := [true, true, false, true, false, false, true]
abbrev p76 : List Bool := [false, false, true, true, false, false, true]
abbrev p77 : List Bool := [true, false, true, true, false, false, true]
abbrev p78 : List Bool := [false, true, true, true, false, false, true]
abbrev p79 : List Bool := [true, true, true, true, false, false, true]
abbrev p80 : List Bool := [false, false, false, false, true, false, true]
abbrev p81 : List Bool := [true, false, false, false, true, false, true]
abbrev p82 : List Bool := [false, true, false, false, true, false, true]
abbrev p83 : List Bool := [true, true, false, false, true, false, true]
abbrev p84 : List Bool := [false, false, true, false, true, false, true]
abbrev p85 : List Bool := [true, false, true, false, true, false, true]
abbrev p86 : List Bool := [false, true, true, false, true, false, true]
abbrev p87 : List Bool := [true, true, true, false, true, false, true]
abbrev p88 : List Bool := [false, false, false, true, true, false, true]
abbrev p89 : List Bool := [true, false, false, true, true, false, true]
abbrev p90 : List Bool := [false, true, false, true, true, false, true]
abbrev p91 : List Bool := [true, true, false, true, true, false, true]
abbrev p92 : List Bool := [false, false, true, true, true, false, true]
abbrev p93 : List Bool := [true, false, true, true, true, false, true]
abbrev p94 : List Bool := [false, true, true, true, true, false, true]
abbrev p95 : List Bool := [true, true, true, true, true, false, true]
abbrev p96 : List Bool := [false, false, false, false, false, true, true]
abbrev p97 : List Bool := [true, false, false, false, false, true, true]
abbrev p98 : List Bool := [false, true, false, false, false, true, true]
abbrev p99 : List Bool := [true, true, false, false, false, true, true]
abbrev p100 : List Bool := [false, false, true, false, false, true, true]
abbrev p101 : List Bool := [true, false, true, false, false, true, true]
abbrev p102 : List Bool := [false, true, true, false, false, true, true]
abbrev p103 : List Bool := [true, true, true, false, false, true, true]
abbrev p104 : List Bool := [false, false, false, true, false, true, true]
abbrev p105 : List Bool := [true, false, false, true, false, true, true]
abbrev p106 : List Bool := [false, true, false, true, false, true, true]
abbrev p107 : List Bool := [true, true, false, true, false, true, true]
abbrev p108 : List Bool := [false, false, true, true, false, true, true]
abbrev p109 : List Bool := [true, false, true, true, false, true, true]
abbrev p110 : List Bool := [false, true, true, true, false, true, true]
abbrev p111 : List Bool := [true, true, true, true, false, true, true]
abbrev p112 : List Bool := [false, false, false, false, true, true, true]
abbrev p113 : List Bool := [true, false, false, false, true, true, true]
abbrev p114 : List Bool := [false, true, false, false, true, true, true]
abbrev p115 : List Bool := [true, true, false, false, true, true, true]
abbrev p116 : List Bool := [false, false, true, false, true, true, true]
abbrev p117 : List Bool := [true, false, true, false, true, true, true]
abbrev p118 : List Bool := [false, true, true, false, true, true, true]
abbrev p119 : List Bool := [true, true, true, false, true, true, true]
abbrev p120 : List Bool := [false, false, false, true, true, true, true]
abbrev p121 : List Bool := [true, false, false, true, true, true, true]
abbrev p122 : List Bool := [false, true, false, true, true, true, true]
abbrev p123 : List Bool := [true, true, false, true, true, true, true]
abbrev p124 : List Bool := [false, false, true, true, true, true, true]
abbrev p125 : List Bool := [true, false, true, true, true, true, true]
abbrev p126 : List Bool := [false, true, true, true, true, true, true]
abbrev p127 : List Bool := [true, true, true, true, true, true, true]
abbrev p128 : List Bool := [false, false, false, false, false, false, false, true]
abbrev p129 : List Bool := [true, false, false, false, false, false, false, true]
abbrev p130 : List Bool := [false, true, false, false, false, false, false, true]
abbrev p131 : List Bool := [true, true, false, false, false, false, false, true]
abbrev p132 : List Bool := [false, false, true, false, false, false, false, true]
abbrev p133 : List Bool := [true, false, true, false, false, false, false, true]
abbrev p134 : List Bool := [false, true, true, false, false, false, false, true]
abbrev p135 : List Bool := [true, true, true, false, false, false, false, true]
abbrev p136 : List Bool := [false, false, false, true, false, false, false, true]
abbrev p137 : List Bool := [true, false, false, true, false, false, false, true]
abbrev p138 : List Bool := [false, true, false, true, false, false, false, true]
abbrev p139 : List Bool := [true, true, false, true, false, false, false, true]
abbrev p140 : List Bool := [false, false, true, true, false, false, false, true]
abbrev p141 : List Bool := [true, false, true, true, false, false, false, true]
abbrev p142 : List Bool := [false, true, true, true, false, false, false, true]
abbrev p143 : List Bool := [true, true, true, true, false, false, false, true]
abbrev p144 : List Bool := [false, false, false, false, true, false, false, true]
abbrev p145 : List Bool := [true, false, false, false, true, false, false, true]
abbrev p146 : List Bool := [false, true, false, false, true, false, false, true]
abbrev p147 : List Bool := [true, true, false, false, true, false, false, true]
abbrev p148 : List Bool := [false, false, true, false, true, false, false, true]
abbrev p149 : List Bool := [true, false, true, false, true, false, false, true]
abbrev p150 : List Bool := [false, true, true, false, true, false, false, true]
abbrev p151 : List Bool := [true, true, true, false, true, false, false, true]
abbrev p152 : List Bool := [false, false, false, true, true, false, false, true]
abbrev p153 : List Bool := [true, false, false, true, true, false, false, true]
abbrev p154 : List Bool := [false, true, false, true, true, false, false, true]
abbrev p155 : List Bool := [true, true, false, true, true, false, false, true]
abbrev p156 : List Bool := [false, false, true, true, true, false, false, true]
abbrev p157 : List Bool := [true, false, true, true, true, false, false, true]
abbrev p158 : List Bool := [false, true, true, true, true, false, false, true]
abbrev p159 : List Bool := [true, true, true, true, true, false, false, true]
abbrev p160 : List Bool := [false, false, false, false, false, true, false, true]
abbrev p161 : List Bool := [true, false, false, false, false, true, false, true]
abbrev p162 : List Bool := [false, true, false, false, false, true, false, true]
abbrev p163 : List Bool := [true, true, false, false, false, true, false, true]
abbrev p164 : List Bool := [false, false, true, false, false, true, false, true]
abbrev p165 : List Bool := [true, false, true, false, false, true, false, true]
abbrev p166 : List Bool := [false, true, true, false, false, true, false, true]
abbrev p167 : List Bool := [true, true, true, false, false, true, false, true]
abbrev p168 : List Bool := [false, false, false, true, false, true, false, true]
abbrev p169 : List Bool := [true, false, false, true, false, true, false, true]
abbrev p170 : List Bool := [false, true, false, true, false, true, false, true]
abbrev p171 : List Bool := [true, true, false, true, false, true, false, true]
abbrev p172 : List Bool := [false, false, true, true, false, true, false, true]
abbrev p173 : List Bool := [true, false, true, true, false, true, false, true]
abbrev p174 : List Bool := [false, true, true, true, false, true, false, true]
abbrev p175 : List Bool := [true, true, true, true, false, true, false, true]
abbrev p176 : List Bool := [false, false, false, false, true, true, false, true]
abbrev p177 : List Bool := [true, false, false, false, true, true, false, true]
abbrev p178 : List Bool := [false, true, false, false, true, true, false, true]
def c_cabotagelaw22_JudgeHolds : CC := (.seq (.ops [⟨(some p3), .box (.t p0), none, 0⟩, ⟨(some p4), .box (.t p1), none, 0⟩, ⟨(some p6), .mv (.c (.bool false)), none, 0⟩]) [p2, p3, p4] (.seq (.ops [⟨(some p12), .loadN 3 (.t p3), none, 0⟩, ⟨(some p13), .loadN 3 (.t p4), none, 0⟩, ⟨(some p14), .mv (.t p2), none, 0⟩, ⟨(some p15), .call (.c (.func (.func n_judge_Holds) #[] #[])) [(.t p12), (.t p13), (.t p14)], none, 0⟩, ⟨(some p11), .mv (.t p15), none, 0⟩, ⟨(some p16), .extract (.t p11) 0, none, 0⟩, ⟨(some p17), .extract (.t p11) 1, none, 0⟩, ⟨(some p7), .mv (.t p16), none, 0⟩, ⟨(some p8), .mv (.t p17), none, 0⟩]) [p2, p3, p4, p7, p8] (.seq (.ops [⟨(some p19), .loadN 3 (.t p3), none, 0⟩, ⟨(some p20), .loadN 3 (.t p4), none, 0⟩, ⟨(some p21), .mv (.t p2), none, 0⟩, ⟨(some p22), .call (.c (.func (.func n_cabotageref22_Holds) #[] #[])) [(.t p19), (.t p20), (.t p21)], none, 0⟩, ⟨(some p18), .mv (.t p22), none, 0⟩, ⟨(some p23), .extract (.t p18) 0, none, 0⟩, ⟨(some p24), .extract (.t p18) 1, none, 0⟩, ⟨(some p9), .mv (.t p23), none, 0⟩, ⟨(some p10), .mv (.t p24), none, 0⟩]) [p7, p8, p9, p10] (.seq (.ops [⟨(some p25), .mv (.t p7), none, 0⟩, ⟨(some p26), .mv (.t p9), none, 0⟩, ⟨(some p27), .bin .eql .bool (.t p25) (.t p26), none, 0⟩, ⟨(some p28), .mv (.t p27), none, 0⟩, ⟨(some p29), .mv (.t p8), (some (p28, true)), 0⟩, ⟨(some p30), .mv (.t p10), (some (p28, true)), 0⟩, ⟨(some p31), .bin .eql .other (.t p29) (.t p30), (some (p28, true)), 0⟩, ⟨(some p32), .pick (.t p28) (.t p31) (.c (.bool false)), none, 0⟩, ⟨(some p33), .mv (.t p32), none, 0⟩, ⟨(some p34), .call (.c (.func (.func n_cabotagelaw22_known) #[] #[])) [], (some (p33, true)), 0⟩, ⟨(some p35), .pick (.t p33) (.t p34) (.c (.bool false)), none, 0⟩, ⟨(some p6), .mv (.t p35), none, 0⟩]) [p6] .ret))))
def f_cabotagelaw22_JudgeHolds : CFunc := ⟨36, [.tmp p6], c_cabotagelaw22_JudgeHolds, none⟩
def c_judge_Weak : CC := (.seq (.ops [⟨(some p1), .box (.t p0), none, 0⟩, ⟨(some p2), .alloc [(.int .i64 0), (.int .i64 0), (.slice none 0 0)], none, 0⟩, ⟨(some p3), .mv (.c (.int .i64 0)), none, 0⟩]) [p1, p2] (.seq (.seq (.ops [⟨(some p5), .loadN 3 (.t p1), none, 0⟩, ⟨(some p6), .call (.c (.func (.func n_judge_Check) #[] #[])) [(.t p5)], none, 0⟩, ⟨(some p7), .bin .neq .other (.t p6) (.c (.int .i64 0)), none, 0⟩]) [p1, p2, p7] (.cond (.t p7) (.seq (.ops [⟨(some p8), .build [(.int .i64 0), (.int .i64 0), (.slice none 0 0)] [], none, 0⟩, ⟨none, .store 3 (.t p2) (.t p8), none, 0⟩, ⟨(some p3), .mv (.c (.int .i64 2)), none, 0⟩]) [p2, p3] .ret) .skip)) [p1, p2] (.seq (.ops [⟨(some p9), .loadN 3 (.t p1), none, 0⟩, ⟨(some p10), .call (.c (.func (.func n_judge_weak) #[] #[])) [(.t p9)], none, 0⟩, ⟨(some p4), .alloc [(.int .i64 0), (.int .i64 0), (.slice none 0 0)], none, 0⟩, ⟨none, .store 3 (.t p4) (.t p10), none, 0⟩]) [p2, p4] (.seq (.seq (.ops [⟨(some p11), .fieldAddr 2 (.t p4), none, 0⟩, ⟨(some p12), .load1 (.t p11), none, 0⟩, ⟨(some p13), .blt .len [(.t p12)], none, 0⟩, ⟨(some p14), .bin .gtr .other (.t p13) (.c (.int .i64 400)), none, 0⟩]) [p2, p4, p14] (.cond (.t p14) (.seq (.ops [⟨(some p15), .build [(.int .i64 0), (.int .i64 0), (.slice none 0 0)] [], none, 0⟩, ⟨none, .store 3 (.t p2) (.t p15), none, 0⟩, ⟨(some p3), .mv (.c (.int .i64 3)), none, 0⟩]) [p2, p3] .ret) .skip)) [p2, p4] (.seq (.ops [⟨(some p16), .loadN 3 (.t p4), none, 0⟩, ⟨none, .store 3 (.t p2) (.t p16), none, 0⟩, ⟨(some p3), .mv (.c (.int .i64 0)), none, 0⟩]) [p2, p3] .ret)))))
def f_judge_Weak : CFunc := ⟨17, [.cell (some 3) p2, .tmp p3], c_judge_Weak, none⟩
def c_judge_Check_1 : CC := (.seq (.ops [⟨(some p33), .bin .lss .other (.t p32) (.t p31), none, 0⟩]) [p1, p30, p31, p32, p33] (.seq (.cond (.t p33) .skip (.exit 0)) [p1, p30, p31, p32] (.seq (.block 1 (.seq (.ops [⟨(some p34), .mv (.t p32), none, 0⟩, ⟨(some p35), .indexAddr 3 (.t p30) (.t p32), none, 0⟩, ⟨(some p36), .loadN 3 (.t p35), none, 0⟩, ⟨(some p4), .alloc [(.int .i64 0), (.int .i64 0), (.int .i64 0)], none, 0⟩, ⟨(some p3), .mv (.t p34), none, 0⟩, ⟨none, .store 3 (.t p4) (.t p36), none, 0⟩]) [p1, p3, p4, p30, p31, p32] (.seq (.draw [⟨(some p37), .fieldAddr 0 (.t p4), none, 0⟩, ⟨(some p38), .load1 (.t p37), none, 0⟩, ⟨(some p39), .fieldAddr 1 (.t p4), none, 0⟩, ⟨(some p40), .load1 (.t p39), none, 0⟩, ⟨(some p41), .fieldAddr 2 (.t p4), none, 0⟩, ⟨(some p42), .load1 (.t p41), none, 0⟩, ⟨(some p43), .blt .min [(.t p38), (.t p40), (.t p42)], none, 0⟩, ⟨(some p44), .bin .lss .other (.t p43) (.c (.int .i64 0)), none, 0⟩, ⟨(some p45), .mv (.t p44), none, 0⟩, ⟨(some p46), .fieldAddr 0 (.t p4), (some (p45, false)), 0⟩, ⟨(some p47), .load1 (.t p46), (some (p45, false)), 0⟩, ⟨(some p48), .fieldAddr 1 (.t p4), (some (p45, false)), 0⟩, ⟨(some p49), .load1 (.t p48), (some (p45, false)), 0⟩, ⟨(some p50), .blt .max [(.t p47), (.t p49)], (some (p45, false)), 0⟩, ⟨(some p51), .fieldAddr 0 (.t p1), (some (p45, false)), 0⟩, ⟨(some p52), .load1 (.t p51), (some (p45, false)), 0⟩, ⟨(some p53), .bin .geq .other (.t p50) (.t p52), (some (p45, false)), 0⟩, ⟨(some p54), .pick (.t p45) (.c (.bool true)) (.t p53), none, 0⟩, ⟨(some p55), .mv (.t p54), none, 0⟩, ⟨(some p56), .fieldAddr 2 (.t p4), (some (p55, false)), 0⟩, ⟨(some p57), .load1 (.t p56), (some (p55, false)), 0⟩, ⟨(some p58), .fieldAddr 1 (.t p1), (some (p55, false)), 0⟩, ⟨(some p59), .load1 (.t p58), (some (p55, false)), 0⟩, ⟨(some p60), .bin .geq .other (.t p57) (.t p59), (some (p55, false)), 0⟩, ⟨(some p61), .pick (.t p55) (.c (.bool true)) (.t p60), none, 0⟩, ⟨(some p62), .mv (.t p61), none, 0⟩, ⟨(some p63), .mv (.t p3), (some (p62, false)), 0⟩, ⟨(some p64), .bin .gtr .other (.t p63) (.c (.int .i64 0)), (some (p62, false)), 0⟩, ⟨(some p65), .mv (.t p64), (some (p62, false)), 0⟩, ⟨(some p66), .fieldAddr 2 (.t p1), (some (p65, true)), 0⟩, ⟨(some p67), .load1 (.t p66), (some (p65, true)), 0⟩, ⟨(some p68), .mv (.t p3), (some (p65, true)), 0⟩, ⟨(some p69), .bin .sub .other (.t p68) (.c (.int .i64 1)), (some (p65, true)), 0⟩, ⟨(some p70), .indexAddr 3 (.t p67) (.t p69), (some (p65, true)), 0⟩, ⟨(some p71), .loadN 3 (.t p70), (some (p65, true)), 0⟩, ⟨(some p72), .loadN 3 (.t p4), (some (p65, true)), 0⟩, ⟨(some p73), .call (.c (.func (.func n_judge_compare) #[] #[])) [(.t p71), (.t p72)], (some (p65, true)), 0⟩, ⟨(some p74), .bin .geq .other (.t p73) (.c (.int .i64 0)), (some (p65, true)), 1⟩, ⟨(some p75), .pick (.t p65) (.t p74) (.c (.bool false)), (some (p62, false)), 1⟩, ⟨(some p76), .pick (.t p62) (.c (.bool true)) (.t p75), none, 1⟩]) [p1, p30, p31, p32, p76] (.cond (.t p76) (.seq (.ops [⟨(some p2), .mv (.c (.int .i64 2)), none, 0⟩]) [p2] .ret) .skip)))) [p1, p30, p31, p32] (.ops [⟨(some p77), .bin .add .other (.t p32) (.c (.int .i64 1)), none, 0⟩, ⟨(some p32), .mv (.t p77), none, 0⟩]))))
def c_judge_Check_0 : CC := (.seq (.ops [⟨(some p2), .mv (.c (.int .i64 0)), none, 0⟩]) [p2] .ret)
def c_judge_Check : CC := (.seq (.ops [⟨(some p1), .box (.t p0), none, 0⟩, ⟨(some p2), .mv (.c (.int .i64 0)), none, 0⟩]) [p1] (.seq (.seq (.ops [⟨(some p5), .fieldAddr 0 (.t p1), none, 0⟩, ⟨(some p6), .load1 (.t p5), none, 0⟩, ⟨(some p7), .bin .lss .other (.t p6) (.c (.int .i64 1)), none, 0⟩, ⟨(some p8), .mv (.t p7), none, 0⟩, ⟨(some p9), .fieldAddr 0 (.t p1), (some (p8, false)), 0⟩, ⟨(some p10), .load1 (.t p9), (some (p8, false)), 0⟩, ⟨(some p11), .bin .gtr .other (.t p10) (.c (.int .i64 60)), (some (p8, false)), 0⟩, ⟨(some p12), .pick (.t p8) (.c (.bool true)) (.t p11), none, 0⟩, ⟨(some p13), .mv (.t p12), none, 0⟩, ⟨(some p14), .fieldAddr 1 (.t p1), (some (p13, false)), 0⟩, ⟨(some p15), .load1 (.t p14), (some (p13, false)), 0⟩, ⟨(some p16), .bin .lss .other (.t p15) (.c (.int .i64 1)), (some (p13, false)), 0⟩, ⟨(some p17), .pick (.t p13) (.c (.bool true)) (.t p16), none, 0⟩, ⟨(some p18), .mv (.t p17), none, 0⟩, ⟨(some p19), .fieldAddr 1 (.t p1), (some (p18, false)), 0⟩, ⟨(some p20), .load1 (.t p19), (some (p18, false)), 0⟩, ⟨(some p21), .bin .gtr .other (.t p20) (.c (.int .i64 41)), (some (p18, false)), 0⟩, ⟨(some p22), .pick (.t p18) (.c (.bool true)) (.t p21), none, 0⟩, ⟨(some p23), .mv (.t p22), none, 0⟩, ⟨(some p24), .fieldAddr 2 (.t p1), (some (p23, false)), 0⟩, ⟨(some p25), .load1 (.t p24), (some (p23, false)), 0⟩, ⟨(some p26), .blt .len [(.t p25)], (some (p23, false)), 0⟩, ⟨(some p27), .bin .gtr .other (.t p26) (.c (.int .i64 400)), (some (p23, false)), 0⟩, ⟨(some p28), .pick (.t p23) (.c (.bool true)) (.t p27), none, 0⟩]) [p1, p28] (.cond (.t p28) (.seq (.ops [⟨(some p2), .mv (.c (.int .i64 2)), none, 0⟩]) [p2] .ret) .skip)) [p1] (.seq (.seq (.ops [⟨(some p29), .fieldAddr 2 (.t p1), none, 0⟩, ⟨(some p30), .load1 (.t p29), none, 0⟩, ⟨(some p31), .blt .len [(.t p30)], none, 0⟩, ⟨(some p32), .mv (.c (.int .i64 0)), none, 0⟩]) [p1, p30, p31, p32] (.block 0 (.loop [p1, p30, p31, p32] c_judge_Check_1))) [] c_judge_Check_0)))
def f_judge_Check : CFunc := ⟨78, [.tmp p2], c_judge_Check, none⟩
def c_cabotageref22_Check_1 : CC := (.seq (.seq (.ops [⟨(some p29), .mv (.t p3), none, 0⟩, ⟨(some p30), .fieldAddr 2 (.t p1), none, 0⟩, ⟨(some p31), .load1 (.t p30), none, 0⟩, ⟨(some p32), .blt .len [(.t p31)], none, 0⟩, ⟨(some p33), .bin .lss .other (.t p29) (.t p32), none, 0⟩]) [p1, p3, p33] (.cond (.t p33) .skip (.exit 0))) [p1, p3] (.seq (.block 1 (.seq (.ops [⟨(some p36), .fieldAddr 2 (.t p1), none, 0⟩, ⟨(some p37), .load1 (.t p36), none, 0⟩, ⟨(some p38), .mv (.t p3), none, 0⟩, ⟨(some p39), .indexAddr 3 (.t p37) (.t p38), none, 0⟩, ⟨(some p40), .loadN 3 (.t p39), none, 0⟩, ⟨(some p4), .alloc [(.int .i64 0), (.int .i64 0), (.int .i64 0)], none, 0⟩, ⟨none, .store 3 (.t p4) (.t p40), none, 0⟩]) [p1, p3, p4] (.seq (.draw [⟨(some p41), .fieldAddr 0 (.t p4), none, 0⟩, ⟨(some p42), .load1 (.t p41), none, 0⟩, ⟨(some p43), .bin .lss .other (.t p42) (.c (.int .i64 0)), none, 0⟩, ⟨(some p44), .mv (.t p43), none, 0⟩, ⟨(some p45), .fieldAddr 0 (.t p4), (some (p44, false)), 0⟩, ⟨(some p46), .load1 (.t p45), (some (p44, false)), 0⟩, ⟨(some p47), .fieldAddr 0 (.t p1), (some (p44, false)), 0⟩, ⟨(some p48), .load1 (.t p47), (some (p44, false)), 0⟩, ⟨(some p49), .bin .geq .other (.t p46) (.t p48), (some (p44, false)), 0⟩, ⟨(some p50), .pick (.t p44) (.c (.bool true)) (.t p49), none, 0⟩, ⟨(some p51), .mv (.t p50), none, 0⟩, ⟨(some p52), .fieldAddr 1 (.t p4), (some (p51, false)), 0⟩, ⟨(some p53), .load1 (.t p52), (some (p51, false)), 0⟩, ⟨(some p54), .bin .lss .other (.t p53) (.c (.int .i64 0)), (some (p51, false)), 0⟩, ⟨(some p55), .pick (.t p51) (.c (.bool true)) (.t p54), none, 0⟩, ⟨(some p56), .mv (.t p55), none, 0⟩, ⟨(some p57), .fieldAddr 1 (.t p4), (some (p56, false)), 0⟩, ⟨(some p58), .load1 (.t p57), (some (p56, false)), 0⟩, ⟨(some p59), .fieldAddr 0 (.t p1), (some (p56, false)), 0⟩, ⟨(some p60), .load1 (.t p59), (some (p56, false)), 0⟩, ⟨(some p61), .bin .geq .other (.t p58) (.t p60), (some (p56, false)), 0⟩, ⟨(some p62), .pick (.t p56) (.c (.bool true)) (.t p61), none, 0⟩, ⟨(some p63), .mv (.t p62), none, 0⟩, ⟨(some p64), .fieldAddr 2 (.t p4), (some (p63, false)), 0⟩, ⟨(some p65), .load1 (.t p64), (some (p63, false)), 0⟩, ⟨(some p66), .bin .lss .other (.t p65) (.c (.int .i64 0)), (some (p63, false)), 0⟩, ⟨(some p67), .pick (.t p63) (.c (.bool true)) (.t p66), none, 0⟩, ⟨(some p68), .mv (.t p67), none, 0⟩, ⟨(some p69), .fieldAddr 2 (.t p4), (some (p68, false)), 0⟩, ⟨(some p70), .load1 (.t p69), (some (p68, false)), 0⟩, ⟨(some p71), .fieldAddr 1 (.t p1), (some (p68, false)), 0⟩, ⟨(some p72), .load1 (.t p71), (some (p68, false)), 0⟩, ⟨(some p73), .bin .geq .other (.t p70) (.t p72), (some (p68, false)), 0⟩, ⟨(some p74), .pick (.t p68) (.c (.bool true)) (.t p73), none, 0⟩, ⟨(some p75), .mv (.t p74), none, 0⟩, ⟨(some p76), .mv (.t p3), (some (p75, false)), 0⟩, ⟨(some p77), .bin .gtr .other (.t p76) (.c (.int .i64 0)), (some (p75, false)), 0⟩, ⟨(some p78), .mv (.t p77), (some (p75, false)), 0⟩, ⟨(some p79), .fieldAddr 2 (.t p1), (some (p78, true)), 0⟩, ⟨(some p80), .load1 (.t p79), (some (p78, true)), 0⟩, ⟨(some p81), .mv (.t p3), (some (p78, true)), 0⟩, ⟨(some p82), .bin .sub .other (.t p81) (.c (.int .i64 1)), (some (p78, true)), 0⟩, ⟨(some p83), .indexAddr 3 (.t p80) (.t p82), (some (p78, true)), 0⟩, ⟨(some p84), .loadN 3 (.t p83), (some (p78, true)), 0⟩, ⟨(some p85), .loadN 3 (.t p4), (some (p78, true)), 0⟩, ⟨(some p86), .call (.c (.func (.func n_cabotageref22_less) #[] #[])) [(.t p84), (.t p85)], (some (p78, true)), 0⟩, ⟨(some p87), .un .not (.t p86), (some (p78, true)), 1⟩, ⟨(some p88), .pick (.t p78) (.t p87) (.c (.bool false)), (some (p75, false)), 1⟩, ⟨(some p89), .pick (.t p75) (.c (.bool true)) (.t p88), none, 1⟩]) [p1, p3, p89] (.cond (.t p89) (.seq (.ops [⟨(some p2), .mv (.c (.int .i64 2)), none, 0⟩]) [p2] .ret) .skip)))) [p1, p3] (.ops [⟨(some p34), .mv (.t p3), none, 0⟩, ⟨(some p35), .bin .add .other (.t p34) (.c (.int .i64 1)), none, 0⟩, ⟨(some p3), .mv (.t p35), none, 0⟩])))
def c_cabotageref22_Check_0 : CC := (.seq (.ops [⟨(some p2), .mv (.c (.int .i64 0)), none, 0⟩]) [p2] .ret)
def c_cabotageref22_Check : CC := (.seq (.ops [⟨(some p1), .box (.t p0), none, 0⟩, ⟨(some p2), .mv (.c (.int .i64 0)), none, 0⟩]) [p1] (.seq (.seq (.ops [⟨(some p5), .fieldAddr 0 (.t p1), none, 0⟩, ⟨(some p6), .load1 (.t p5), none, 0⟩, ⟨(some p7), .bin .lss .other (.t p6) (.c (.int .i64 1)), none, 0⟩, ⟨(some p8), .mv (.t p7), none, 0⟩, ⟨(some p9), .fieldAddr 0 (.t p1), (some (p8, false)), 0⟩, ⟨(some p10), .load1 (.t p9), (some (p8, false)), 0⟩, ⟨(some p11), .bin .gtr .other (.t p10) (.c (.int .i64 60)), (some (p8, false)), 0⟩, ⟨(some p12), .pick (.t p8) (.c (.bool true)) (.t p11), none, 0⟩, ⟨(some p13), .mv (.t p12), none, 0⟩, ⟨(some p14), .fieldAddr 1 (.t p1), (some (p13, false)), 0⟩, ⟨(some p15), .load1 (.t p14), (some (p13, false)), 0⟩, ⟨(some p16), .bin .lss .other (.t p15) (.c (.int .i64 1)), (some (p13, false)), 0⟩, ⟨(some p17), .pick (.t p13) (.c (.bool true)) (.t p16), none, 0⟩, ⟨(some p18), .mv (.t p17), none, 0⟩, ⟨(some p19), .fieldAddr 1 (.t p1), (some (p18, false)), 0⟩, ⟨(some p20), .load1 (.t p19), (some (p18, false)), 0⟩, ⟨(some p21), .bin .gtr .other (.t p20) (.c (.int .i64 41)), (some (p18, false)), 0⟩, ⟨(some p22), .pick (.t p18) (.c (.bool true)) (.t p21), none, 0⟩, ⟨(some p23), .mv (.t p22), none, 0⟩, ⟨(some p24), .fieldAddr 2 (.t p1), (some (p23, false)), 0⟩, ⟨(some p25), .load1 (.t p24), (some (p23, false)), 0⟩, ⟨(some p26), .blt .len [(.t p25)], (some (p23, false)), 0⟩, ⟨(some p27), .bin .gtr .other (.t p26) (.c (.int .i64 400)), (some (p23, false)), 0⟩, ⟨(some p28), .pick (.t p23) (.c (.bool true)) (.t p27), none, 0⟩]) [p1, p28] (.cond (.t p28) (.seq (.ops [⟨(some p2), .mv (.c (.int .i64 2)), none, 0⟩]) [p2] .ret) .skip)) [p1] (.seq (.seq (.ops [⟨(some p3), .mv (.c (.int .i64 0)), none, 0⟩]) [p1, p3] (.block 0 (.loop [p1, p3] c_cabotageref22_Check_1))) [] c_cabotageref22_Check_0)))
def f_cabotageref22_Check : CFunc := ⟨90, [.tmp p2], c_cabotageref22_Check, none⟩
def c_cabotageref22_SameGraph_1 : CC := (.seq (.seq (.ops [⟨(some p27), .mv (.t p5), none, 0⟩, ⟨(some p28), .fieldAddr 2 (.t p2), none, 0⟩, ⟨(some p29), .load1 (.t p28), none, 0⟩, ⟨(some p30), .blt .len [(.t p29)], none, 0⟩, ⟨(some p31), .bin .lss .other (.t p27) (.t p30), none, 0⟩]) [p2, p3, p5, p31] (.cond (.t p31) .skip (.exit 0))) [p2, p3, p5] (.seq (.block 1 (.seq (.draw [⟨(some p34), .fieldAddr 2 (.t p2), none, 0⟩, ⟨(some p35), .load1 (.t p34), none, 0⟩, ⟨(some p36), .mv (.t p5), none, 0⟩, ⟨(some p37), .indexAddr 3 (.t p35) (.t p36), none, 0⟩, ⟨(some p38), .loadN 3 (.t p37), none, 0⟩, ⟨(some p39), .fieldAddr 2 (.t p3), none, 0⟩, ⟨(some p40), .load1 (.t p39), none, 0⟩, ⟨(some p41), .mv (.t p5), none, 0⟩, ⟨(some p42), .indexAddr 3 (.t p40) (.t p41), none, 0⟩, ⟨(some p43), .loadN 3 (.t p42), none, 0⟩, ⟨(some p44), .bin .neq (.leaves [0, 1, 2]) (.t p38) (.t p43), none, 0⟩]) [p2, p3, p5, p44] (.cond (.t p44) (.seq (.ops [⟨(some p4), .mv (.c (.bool false)), none, 0⟩]) [p4] .ret) .skip))) [p2, p3, p5] (.ops [⟨(some p32), .mv (.t p5), none, 0⟩, ⟨(some p33), .bin .add .other (.t p32) (.c (.int .i64 1)), none, 0⟩, ⟨(some p5), .mv (.t p33), none, 0⟩])))
def c_cabotageref22_SameGraph_0 : CC := (.seq (.ops [⟨(some p4), .mv (.c (.bool true)), none, 0⟩]) [p4] .ret)
def c_cabotageref22_SameGraph : CC := (.seq (.ops [⟨(some p2), .box (.t p0), none, 0⟩, ⟨(some p3), .box (.t p1), none, 0⟩, ⟨(some p4), .mv (.c (.bool false)), none, 0⟩]) [p2, p3] (.seq (.seq (.ops [⟨(some p6), .fieldAddr 0 (.t p2), none, 0⟩, ⟨(some p7), .load1 (.t p6), none, 0⟩, ⟨(some p8), .fieldAddr 0 (.t p3), none, 0⟩, ⟨(some p9), .load1 (.t p8), none, 0⟩, ⟨(some p10), .bin .neq .other (.t p7) (.t p9), none, 0⟩, ⟨(some p11), .mv (.t p10), none, 0⟩, ⟨(some p12), .fieldAddr 1 (.t p2), (some (p11, false)), 0⟩, ⟨(some p13), .load1 (.t p12), (some (p11, false)), 0⟩, ⟨(some p14), .fieldAddr 1 (.t p3), (some (p11, false)), 0⟩, ⟨(some p15), .load1 (.t p14), (some (p11, false)), 0⟩, ⟨(some p16), .bin .neq .other (.t p13) (.t p15), (some (p11, false)), 0⟩, ⟨(some p17), .pick (.t p11) (.c (.bool true)) (.t p16), none, 0⟩, ⟨(some p18), .mv (.t p17), none, 0⟩, ⟨(some p19), .fieldAddr 2 (.t p2), (some (p18, false)), 0⟩, ⟨(some p20), .load1 (.t p19), (some (p18, false)), 0⟩, ⟨(some p21), .blt .len [(.t p20)], (some (p18, false)), 0⟩, ⟨(some p22), .fieldAddr 2 (.t p3), (some (p18, false)), 0⟩, ⟨(some p23), .load1 (.t p22), (some (p18, false)), 0⟩, ⟨(some p24), .blt .len [(.t p23)], (some (p18, false)), 0⟩, ⟨(some p25), .bin .neq .other (.t p21) (.t p24), (some (p18, false)), 0⟩, ⟨(some p26), .pick (.t p18) (.c (.bool true)) (.t p25), none, 0⟩]) [p2, p3, p26] (.cond (.t p26) (.seq (.ops [⟨(some p4), .mv (.c (.bool false)), none, 0⟩]) [p4] .ret) .skip)) [p2, p3] (.seq (.seq (.ops [⟨(some p5), .mv (.c (.int .i64 0)), none, 0⟩]) [p2, p3, p5] (.block 0 (.loop [p2, p3, p5] c_cabotageref22_SameGraph_1))) [] c_cabotageref22_SameGraph_0)))
def f_cabotageref22_SameGraph : CFunc := ⟨45, [.tmp p4], c_cabotageref22_SameGraph, none⟩
def c_cabotagelaw22_known : CC := (.seq (.ops [⟨(some p0), .mv (.c (.bool false)), none, 0⟩]) [] (.seq (.ops [⟨(some p17), .build [(.int .i64 0), (.int .i64 0), (.int .i64 0)] [(0, 1, (.c (.int .i64 0))), (1, 1, (.c (.int .i64 1))), (2, 1, (.c (.int .i64 1)))], none, 0⟩, ⟨(some p18), .build [(.int .i64 0), (.int .i64 0), (.int .i64 0)] [(0, 1, (.c (.int .i64 1))), (1, 1, (.c (.int .i64 2))), (2, 1, (.c (.int .i64 1)))], none, 0⟩, ⟨(some p19), .build [(.int .i64 0), (.int .i64 0), (.int .i64 0)] [(0, 1, (.c (.int .i64 1))), (1, 1, (.c (.int .i64 3))), (2, 1, (.c (.int .i64 2)))], none, 0⟩, ⟨(some p20), .buildSlice 3 3 [(.int .i64 0), (.int .i64 0), (.int .i64 0)] [(0, (.t p17)), (1, (.t p18)), (2, (.t p19))], none, 0⟩, ⟨(some p21), .call (.c (.func (.func n_cabotagelaw22_edges) #[] #[])) [(.t p20)], none, 0⟩, ⟨(some p22), .build [(.int .i64 0), (.int .i64 0), (.slice none 0 0)] [(0, 1, (.c (.int .i64 4))), (1, 1, (.c (.int .i64 3))), (2, 1, (.t p21))], none, 0⟩, ⟨(some p1), .alloc [(.int .i64 0), (.int .i64 0), (.slice none 0 0)], none, 0⟩, ⟨none, .store 3 (.t p1) (.t p22), none, 0⟩]) [p1] (.seq (.ops [⟨(some p23), .build [(.int .i64 0), (.int .i64 0), (.int .i64 0)] [(0, 1, (.c (.int .i64 0))), (1, 1, (.c (.int .i64 1))), (2, 1, (.c (.int .i64 1)))], none, 0⟩, ⟨(some p24), .build [(.int .i64 0), (.int .i64 0), (.int .i64 0)] [(0, 1, (.c (.int .i64 0))), (1, 1, (.c (.int .i64 2))), (2, 1, (.c (.int .i64 1)))], none, 0⟩, ⟨(some p25), .build [(.int .i64 0), (.int .i64 0), (.int .i64 0)] [(0, 1, (.c (.int .i64 1))), (1, 1, (.c (.int .i64 3))), (2, 1, (.c (.int .i64 1)))], none, 0⟩, ⟨(some p26), .build [(.int .i64 0), (.int .i64 0), (.int .i64 0)] [(0, 1, (.c (.int .i64 2))), (1, 1, (.c (.int .i64 4))), (2, 1, (.c (.int .i64 2)))], none, 0⟩, ⟨(some p27), .buildSlice 4 3 [(.int .i64 0), (.int .i64 0), (.int .i64 0)] [(0, (.t p23)), (1, (.t p24)), (2, (.t p25)), (3, (.t p26))], none, 0⟩, ⟨(some p28), .call (.c (.func (.func n_cabotagelaw22_edges) #[] #[])) [(.t p27)], none, 0⟩, ⟨(some p29), .build [(.int .i64 0), (.int .i64 0), (.slice none 0 0)] [(0, 1, (.c (.int .i64 5))), (1, 1, (.c (.int .i64 3))), (2, 1, (.t p28))], none, 0⟩, ⟨(some p2), .alloc [(.int .i64 0), (.int .i64 0), (.slice none 0 0)], none, 0⟩, ⟨none, .store 3 (.t p2) (.t p29), none, 0⟩]) [p1, p2] (.seq (.ops [⟨(some p31), .loadN 3 (.t p1), none, 0⟩, ⟨(some p32), .call (.c (.func (.func n_judge_Classes) #[] #[])) [(.t p31)], none, 0⟩, ⟨(some p30), .mv (.t p32), none, 0⟩, ⟨(some p33), .extract (.t p30) 0, none, 0⟩, ⟨(some p34), .extract (.t p30) 1, none, 0⟩, ⟨(some p3), .mv (.t p33), none, 0⟩, ⟨(some p4), .mv (.t p34), none, 0⟩]) [p1, p2, p3, p4] (.seq (.ops [⟨(some p36), .loadN 3 (.t p2), none, 0⟩, ⟨(some p37), .call (.c (.func (.func n_judge_Classes) #[] #[])) [(.t p36)], none, 0⟩, ⟨(some p35), .mv (.t p37), none, 0⟩, ⟨(some p38), .extract (.t p35) 0, none, 0⟩, ⟨(some p39), .extract (.t p35) 1, none, 0⟩, ⟨(some p5), .mv (.t p38), none, 0⟩, ⟨(some p6), .mv (.t p39), none, 0⟩]) [p1, p2, p3, p4, p5, p6] (.seq (.ops [⟨(some p41), .loadN 3 (.t p1), none, 0⟩, ⟨(some p42), .loadN 3 (.t p2), none, 0⟩, ⟨(some p43), .call (.c (.func (.func n_judge_Alike) #[] #[])) [(.t p41), (.t p42)], none, 0⟩, ⟨(some p40), .mv (.t p43), none, 0⟩, ⟨(some p44), .extract (.t p40) 0, none, 0⟩, ⟨(some p45), .extract (.t p40) 1, none, 0⟩, ⟨(some p7), .mv (.t p44), none, 0⟩, ⟨(some p8), .mv (.t p45), none, 0⟩]) [p1, p2, p3, p4, p5, p6, p7, p8] (.seq (.ops [⟨(some p47), .loadN 3 (.t p1), none, 0⟩, ⟨(some p48), .loadN 3 (.t p2), none, 0⟩, ⟨(some p49), .call (.c (.func (.func n_cabotageref22_Both) #[] #[])) [(.t p47), (.t p48)], none, 0⟩, ⟨(some p50), .call (.c (.func (.func n_judge_Tells) #[] #[])) [(.t p49), (.c (.int .i64 0)), (.c (.int .i64 4))], none, 0⟩, ⟨(some p46), .mv (.t p50), none, 0⟩, ⟨(some p51), .extract (.t p46) 0, none, 0⟩, ⟨(some p52), .extract (.t p46) 1, none, 0⟩, ⟨(some p9), .alloc [(.int .i64 0), (.int .i64 0), (.slice none 0 0)], none, 0⟩, ⟨none, .store 3 (.t p9) (.t p51), none, 0⟩, ⟨(some p10), .mv (.t p52), none, 0⟩]) [p3, p4, p5, p6, p7, p8, p9, p10] (.seq (.ops [⟨(some p54), .build [(.int .i64 0), (.int .i64 0), (.int .i64 0)] [(0, 1, (.c (.int .i64 0))), (1, 1, (.c (.int .i64 1))), (2, 1, (.c (.int .i64 0)))], none, 0⟩, ⟨(some p55), .build [(.int .i64 0), (.int .i64 0), (.int .i64 0)] [(0, 1, (.c (.int .i64 1))), (1, 1, (.c (.int .i64 0))), (2, 1, (.c (.int .i64 1)))], none, 0⟩, ⟨(some p56), .buildSlice 2 3 [(.int .i64 0), (.int .i64 0), (.int .i64 0)] [(0, (.t p54)), (1, (.t p55))], none, 0⟩, ⟨(some p57), .call (.c (.func (.func n_cabotagelaw22_edges) #[] #[])) [(.t p56)], none, 0⟩, ⟨(some p58), .build [(.int .i64 0), (.int .i64 0), (.slice none 0 0)] [(0, 1, (.c (.int .i64 2))), (1, 1, (.c (.int .i64 2))), (2, 1, (.t p57))], none, 0⟩, ⟨(some p59), .call (.c (.func (.func n_judge_Weak) #[] #[])) [(.t p58)], none, 0⟩, ⟨(some p53), .mv (.t p59), none, 0⟩, ⟨(some p60), .extract (.t p53) 0, none, 0⟩, ⟨(some p61), .extract (.t p53) 1, none, 0⟩, ⟨(some p11), .alloc [(.int .i64 0), (.int .i64 0), (.slice none 0 0)], none, 0⟩, ⟨none, .store 3 (.t p11) (.t p60), none, 0⟩, ⟨(some p12), .mv (.t p61), none, 0⟩]) [p3, p4, p5, p6, p7, p8, p9, p10, p11, p12] (.seq (.seq (.ops [⟨(some p62), .mv (.t p4), none, 0⟩, ⟨(some p63), .bin .neq .other (.t p62) (.c (.int .i64 0)), none, 0⟩, ⟨(some p64), .mv (.t p63), none, 0⟩, ⟨(some p65), .mv (.t p6), (some (p64, false)), 0⟩, ⟨(some p66), .bin .neq .other (.t p65) (.c (.int .i64 0)), (some (p64, false)), 0⟩, ⟨(some p67), .pick (.t p64) (.c (.bool true)) (.t p66), none, 0⟩, ⟨(some p68), .mv (.t p67), none, 0⟩, ⟨(some p69), .mv (.t p8), (some (p68, false)), 0⟩, ⟨(some p70), .bin .neq .other (.t p69) (.c (.int .i64 0)), (some (p68, false)), 0⟩, ⟨(some p71), .pick (.t p68) (.c (.bool true)) (.t p70), none, 0⟩, ⟨(some p72), .mv (.t p71), none, 0⟩, ⟨(some p73), .mv (.t p10), (some (p72, false)), 0⟩, ⟨(some p74), .bin .neq .other (.t p73) (.c (.int .i64 0)), (some (p72, false)), 0⟩, ⟨(some p75), .pick (.t p72) (.c (.bool true)) (.t p74), none, 0⟩, ⟨(some p76), .mv (.t p75), none, 0⟩, ⟨(some p77), .mv (.t p12), (some (p76, false)), 0⟩, ⟨(some p78), .bin .neq .other (.t p77) (.c (.int .i64 0)), (some (p76, false)), 0⟩, ⟨(some p79), .pick (.t p76) (.c (.bool true)) (.t p78), none, 0⟩]) [p3, p5, p7, p9, p11, p79] (.cond (.t p79) (.seq (.ops [⟨(some p0), .mv (.c (.bool false)), none, 0⟩]) [p0] .ret) .skip)) [p3, p5, p7, p9, p11] (.seq (.ops [⟨(some p80), .build [(.int .i64 0), (.int .i64 0), (.slice none 0 0)] [(0, 1, (.c (.int .i64 3)))], none, 0⟩, ⟨(some p13), .alloc [(.int .i64 0), (.int .i64 0), (.slice none 0 0)], none, 0⟩, ⟨none, .store 3 (.t p13) (.t p80), none, 0⟩]) [p3, p5, p7, p9, p11, p13] (.seq (.ops [⟨(some p81), .loadN 3 (.t p13), none, 0⟩, ⟨(some p82), .buildSlice 1 3 [(.int .i64 0), (.int .i64 0), (.slice none 0 0)] [(0, (.t p81))], none, 0⟩, ⟨(some p83), .build [(.int .i64 0), (.int .i64 0), (.slice none 0 0)] [(0, 1, (.c (.int .i64 4))), (1, 1, (.c (.int .i64 2))), (2, 1, (.t p82))], none, 0⟩, ⟨(some p84), .loadN 3 (.t p13), none, 0⟩, ⟨(some p85), .buildSlice 1 3 [(.int .i64 0), (.int .i64 0), (.slice none 0 0)] [(0, (.t p84))], none, 0⟩, ⟨(some p86), .build [(.int .i64 0), (.int .i64 0), (.slice none 0 0)] [(0, 1, (.c (.int .i64 4))), (1, 1, (.c (.int .i64 1))), (2, 1, (.t p85))], none, 0⟩, ⟨(some p87), .buildSlice 2 3 [(.int .i64 0), (.int .i64 0), (.slice none 0 0)] [(0, (.t p83)), (1, (.t p86))], none, 0⟩, ⟨(some p14), .mv (.t p87), none, 0⟩]) [p3, p5, p7, p9, p11, p14] (.seq (.ops [⟨(some p88), .mv (.t p14), none, 0⟩, ⟨(some p89), .build [(.int .i64 0), (.int .i64 0), (.slice none 0 0)] [(0, 1, (.c (.int .i64 3))), (2, 1, (.t p88))], none, 0⟩, ⟨(some p90), .buildSlice 1 3 [(.int .i64 0), (.int .i64 0), (.slice none 0 0)] [(0, (.t p89))], none, 0⟩, ⟨(some p91), .build [(.int .i64 0), (.int .i64 0), (.slice none 0 0)] [(0, 1, (.c (.int .i64 4))), (1, 1, (.c (.int .i64 1))), (2, 1, (.t p90))], none, 0⟩, ⟨(some p15), .alloc [(.int .i64 0), (.int .i64 0), (.slice none 0 0)], none, 0⟩, ⟨none, .store 3 (.t p15) (.t p91), none, 0⟩]) [p3, p5, p7, p9, p11, p15] (.seq (.ops [⟨(some p92), .build [(.int .i64 0), (.int .i64 0), (.int .i64 0)] [(0, 1, (.c (.int .i64 0))), (1, 1, (.c (.int .i64 0))), (2, 1, (.c (.int .i64 0)))], none, 0⟩, ⟨(some p93), .build [(.int .i64 0), (.int .i64 0), (.int .i64 0)] [(0, 1, (.c (.int .i64 0))), (1, 1, (.c (.int .i64 1))), (2, 1, (.c (.int .i64 0)))], none, 0⟩, ⟨(some p94), .build [(.int .i64 0), (.int .i64 0), (.int .i64 0)] [(0, 1, (.c (.int .i64 0))), (1, 1, (.c (.int .i64 0))), (2, 1, (.c (.int .i64 1)))], none, 0⟩, ⟨(some p95), .build [(.int .i64 0), (.int .i64 0), (.int .i64 0)] [(0, 1, (.c (.int .i64 0))), (1, 1, (.c (.int .i64 1))), (2, 1, (.c (.int .i64 1)))], none, 0⟩, ⟨(some p96), .build [(.int .i64 0), (.int .i64 0), (.int .i64 0)] [(0, 1, (.c (.int .i64 1))), (1, 1, (.c (.int .i64 1))), (2, 1, (.c (.int .i64 0)))], none, 0⟩, ⟨(some p97), .build [(.int .i64 0), (.int .i64 0), (.int .i64 0)] [(0, 1, (.c (.int .i64 1))), (1, 1, (.c (.int .i64 0))), (2, 1, (.c (.int .i64 1)))], none, 0⟩, ⟨(some p98), .build [(.int .i64 0), (.int .i64 0), (.int .i64 0)] [(0, 1, (.c (.int .i64 1))), (1, 1, (.c (.int .i64 1))), (2, 1, (.c (.int .i64 1)))], none, 0⟩, ⟨(some p99), .buildSlice 7 3 [(.int .i64 0), (.int .i64 0), (.int .i64 0)] [(0, (.t p92)), (1, (.t p93)), (2, (.t p94)), (3, (.t p95)), (4, (.t p96)), (5, (.t p97)), (6, (.t p98))], none, 0⟩, ⟨(some p100), .call (.c (.func (.func n_cabotagelaw22_edges) #[] #[])) [(.t p99)], none, 0⟩, ⟨(some p16), .mv (.t p100), none, 0⟩]) [p3, p5, p7, p9, p11, p15, p16] (.seq (.ops [⟨(some p101), .mv (.t p3), none, 0⟩, ⟨(some p102), .buildSlice 4 1 [(.int .i64 0)] [(0, (.c (.int .i64 0))), (1, (.c (.int .i64 1))), (2, (.c (.int .i64 2))), (3, (.c (.int .i64 2)))], none, 0⟩, ⟨(some p103), .call (.c (.func (.func n_cabotageref03_SameInts) #[] #[])) [(.t p101), (.t p102)], none, 0⟩, ⟨(some p104), .mv (.t p103), none, 0⟩, ⟨(some p105), .mv (.t p5), (some (p104, true)), 0⟩, ⟨(some p106), .buildSlice 5 1 [(.int .i64 0)] [(0, (.c (.int .i64 0))), (1, (.c (.int .i64 1))), (2, (.c (.int .i64 2))), (3, (.c (.int .i64 3))), (4, (.c (.int .i64 3)))], (some (p104, true)), 0⟩, ⟨(some p107), .call (.c (.func (.func n_cabotageref03_SameInts) #[] #[])) [(.t p105), (.t p106)], (some (p104, true)), 0⟩, ⟨(some p108), .pick (.t p104) (.t p107) (.c (.bool false)), none, 0⟩, ⟨(some p109), .mv (.t p108), none, 0⟩, ⟨(some p110), .mv (.t p7), (some (p109, true)), 0⟩, ⟨(some p111), .un .not (.t p110), (some (p109, true)), 0⟩, ⟨(some p112), .pick (.t p109) (.t p111) (.c (.bool false)), none, 0⟩, ⟨(some p113), .mv (.t p112), none, 0⟩, ⟨(some p114), .loadN 3 (.t p9), (some (p113, true)), 0⟩, ⟨(some p115), .loadN 3 (.t p15), (some (p113, true)), 0⟩, ⟨(some p116), .call (.c (.func (.func n_cabotageref22_SameFormula) #[] #[])) [(.t p114), (.t p115)], (some (p113, true)), 0⟩, ⟨(some p117), .pick (.t p113) (.t p116) (.c (.bool false)), none, 0⟩, ⟨(some p118), .mv (.t p117), none, 0⟩, ⟨(some p119), .loadN 3 (.t p11), (some (p118, true)), 0⟩, ⟨(some p120), .mv (.t p16), (some (p118, true)), 0⟩, ⟨(some p121), .build [(.int .i64 0), (.int .i64 0), (.slice none 0 0)] [(0, 1, (.c (.int .i64 2))), (1, 1, (.c (.int .i64 2))), (2, 1, (.t p120))], (some (p118, true)), 0⟩, ⟨(some p122), .call (.c (.func (.func n_cabotageref22_SameGraph) #[] #[])) [(.t p119), (.t p121)], (some (p118, true)), 0⟩, ⟨(some p123), .pick (.t p118) (.t p122) (.c (.bool false)), none, 0⟩, ⟨(some p0), .mv (.t p123), none, 0⟩]) [p0] .ret))))))))))))))
def f_cabotagelaw22_known : CFunc := ⟨124, [.tmp p0], c_cabotagelaw22_known, none⟩
def c_judge_Tells : CC := (.seq (.ops [⟨(some p3), .box (.t p0), none, 0⟩, ⟨(some p6), .alloc [(.int .i64 0), (.int .i64 0), (.slice none 0 0)], none, 0⟩, ⟨(some p7), .mv (.c (.int .i64 0)), none, 0⟩]) [p1, p2, p3, p6] (.seq (.seq (.ops [⟨(some p11), .loadN 3 (.t p3), none, 0⟩, ⟨(some p12), .mv (.t p1), none, 0⟩, ⟨(some p13), .call (.c (.func (.func n_judge_isState) #[] #[])) [(.t p11), (.t p12)], none, 0⟩, ⟨(some p14), .un .not (.t p13), none, 0⟩, ⟨(some p15), .mv (.t p14), none, 0⟩, ⟨(some p16), .loadN 3 (.t p3), (some (p15, false)), 0⟩, ⟨(some p17), .mv (.t p2), (some (p15, false)), 0⟩, ⟨(some p18), .call (.c (.func (.func n_judge_isState) #[] #[])) [(.t p16), (.t p17)], (some (p15, false)), 0⟩, ⟨(some p19), .un .not (.t p18), (some (p15, false)), 0⟩, ⟨(some p20), .pick (.t p15) (.c (.bool true)) (.t p19), none, 0⟩]) [p1, p2, p3, p6, p20] (.cond (.t p20) (.seq (.ops [⟨(some p21), .build [(.int .i64 0), (.int .i64 0), (.slice none 0 0)] [], none, 0⟩, ⟨none, .store 3 (.t p6) (.t p21), none, 0⟩, ⟨(some p7), .mv (.c (.int .i64 2)), none, 0⟩]) [p6, p7] .ret) .skip)) [p1, p2, p3, p6] (.seq (.draw [⟨(some p22), .loadN 3 (.t p3), none, 0⟩, ⟨(some p23), .call (.c (.func (.func n_judge_apart) #[] #[])) [(.t p22)], none, 0⟩, ⟨(some p24), .loadN 3 (.t p3), none, 0⟩, ⟨(some p25), .makeMap, none, 0⟩, ⟨(some p26), .build [(.map none), (.int .i64 0), (.int .i64 0), (.slice none 0 0), (.map none)] [(0, 1, (.t p23)), (1, 3, (.t p24)), (4, 1, (.t p25))], none, 1⟩, ⟨(some p8), .alloc [(.map none), (.int .i64 0), (.int .i64 0), (.slice none 0 0), (.map none)], none, 0⟩, ⟨none, .store 5 (.t p8) (.t p26), none, 1⟩]) [p1, p2, p6, p8] (.seq (.seq (.ops [⟨(some p28), .fieldAddr 0 (.t p8), none, 0⟩, ⟨(some p29), .load1 (.t p28), none, 0⟩, ⟨(some p30), .mv (.t p1), none, 0⟩, ⟨(some p31), .mv (.t p2), none, 0⟩, ⟨(some p32), .build [(.int .i64 0), (.int .i64 0)] [(0, 1, (.t p30)), (1, 1, (.t p31))], none, 0⟩, ⟨(some p33), .lookup (.leaves [0, 1]) (.int .i64 0) true (.t p29) (.t p32), none, 0⟩, ⟨(some p27), .mv (.t p33), none, 0⟩, ⟨(some p34), .extract (.t p27) 0, none, 0⟩, ⟨(some p35), .extract (.t p27) 1, none, 0⟩, ⟨(some p9), .mv (.t p34), none, 0⟩, ⟨(some p10), .mv (.t p35), none, 0⟩]) [p1, p2, p6, p8, p10] (.seq (.ops [⟨(some p36), .mv (.t p10), none, 0⟩, ⟨(some p37), .un .not (.t p36), none, 0⟩]) [p1, p2, p6, p8, p37] (.cond (.t p37) (.seq (.ops [⟨(some p38), .build [(.int .i64 0), (.int .i64 0), (.slice none 0 0)] [], none, 0⟩, ⟨none, .store 3 (.t p6) (.t p38), none, 0⟩, ⟨(some p7), .mv (.c (.int .i64 5)), none, 0⟩]) [p6, p7] .ret) .skip))) [p1, p2, p6, p8] (.seq (.seq (.ops [⟨(some p39), .loadN 5 (.t p8), none, 0⟩, ⟨(some p40), .mv (.t p1), none, 0⟩, ⟨(some p41), .mv (.t p2), none, 0⟩, ⟨(some p42), .call (.c (.func (.func n_judge_teller_size) #[] #[])) [(.t p39), (.t p40), (.t p41)], none, 0⟩, ⟨(some p43), .bin .gtr .other (.t p42) (.c (.int .i64 3000)), none, 0⟩]) [p1, p2, p6, p8, p43] (.cond (.t p43) (.seq (.ops [⟨(some p44), .build [(.int .i64 0), (.int .i64 0), (.slice none 0 0)] [], none, 0⟩, ⟨none, .store 3 (.t p6) (.t p44), none, 0⟩, ⟨(some p7), .mv (.c (.int .i64 3)), none, 0⟩]) [p6, p7] .ret) .skip)) [p1, p2, p6, p8] (.seq (.ops [⟨(some p45), .loadN 5 (.t p8), none, 0⟩, ⟨(some p46), .mv (.t p1), none, 0⟩, ⟨(some p47), .mv (.t p2), none, 0⟩, ⟨(some p48), .call (.c (.func (.func n_judge_teller_formula) #[] #[])) [(.t p45), (.t p46), (.t p47)], none, 0⟩, ⟨none, .store 3 (.t p6) (.t p48), none, 0⟩, ⟨(some p7), .mv (.c (.int .i64 0)), none, 0⟩]) [p6, p7] .ret))))))
def f_judge_Tells : CFunc := ⟨49, [.cell (some 3) p6, .tmp p7], c_judge_Tells, none⟩
def c_cabotageref22_SameFormula_1 : CC := (.seq (.seq (.ops [⟨(some p27), .mv (.t p5), none, 0⟩, ⟨(some p28), .fieldAddr 2 (.t p2), none, 0⟩, ⟨(some p29), .load1 (.t p28), none, 0⟩, ⟨(some p30), .blt .len [(.t p29)], none, 0⟩, ⟨(some p31), .bin .lss .other (.t p27) (.t p30), none, 0⟩]) [p2, p3, p5, p31] (.cond (.t p31) .skip (.exit 0))) [p2, p3, p5] (.seq (.block 1 (.seq (.draw [⟨(some p34), .fieldAddr 2 (.t p2), none, 0⟩, ⟨(some p35), .load1 (.t p34), none, 0⟩, ⟨(some p36), .mv (.t p5), none, 0⟩, ⟨(some p37), .indexAddr 3 (.t p35) (.t p36), none, 0⟩, ⟨(some p38), .loadN 3 (.t p37), none, 0⟩, ⟨(some p39), .fieldAddr 2 (.t p3), none, 0⟩, ⟨(some p40), .load1 (.t p39), none, 0⟩, ⟨(some p41), .mv (.t p5), none, 0⟩, ⟨(some p42), .indexAddr 3 (.t p40) (.t p41), none, 0⟩, ⟨(some p43), .loadN 3 (.t p42), none, 0⟩, ⟨(some p44), .call (.c (.func (.func n_cabotageref22_SameFormula) #[] #[])) [(.t p38), (.t p43)], none, 0⟩, ⟨(some p45), .un .not (.t p44), none, 1⟩]) [p2, p3, p5, p45] (.cond (.t p45) (.seq (.ops [⟨(some p4), .mv (.c (.bool false)), none, 0⟩]) [p4] .ret) .skip))) [p2, p3, p5] (.ops [⟨(some p32), .mv (.t p5), none, 0⟩, ⟨(some p33), .bin .add .other (.t p32) (.c (.int .i64 1)), none, 0⟩, ⟨(some p5), .mv (.t p33), none, 0⟩])))
def c_cabotageref22_SameFormula_0 : CC := (.seq (.ops [⟨(some p4), .mv (.c (.bool true)), none, 0⟩]) [p4] .ret)
def c_cabotageref22_SameFormula : CC := (.seq (.ops [⟨(some p2), .box (.t p0), none, 0⟩, ⟨(some p3), .box (.t p1), none, 0⟩, ⟨(some p4), .mv (.c (.bool false)), none, 0⟩]) [p2, p3] (.seq (.seq (.ops [⟨(some p6), .fieldAddr 0 (.t p2), none, 0⟩, ⟨(some p7), .load1 (.t p6), none, 0⟩, ⟨(some p8), .fieldAddr 0 (.t p3), none, 0⟩, ⟨(some p9), .load1 (.t p8), none, 0⟩, ⟨(some p10), .bin .neq .other (.t p7) (.t p9), none, 0⟩, ⟨(some p11), .mv (.t p10), none, 0⟩, ⟨(some p12), .fieldAddr 1 (.t p2), (some (p11, false)), 0⟩, ⟨(some p13), .load1 (.t p12), (some (p11, false)), 0⟩, ⟨(some p14), .fieldAddr 1 (.t p3), (some (p11, false)), 0⟩, ⟨(some p15), .load1 (.t p14), (some (p11, false)), 0⟩, ⟨(some p16), .bin .neq .other (.t p13) (.t p15), (some (p11, false)), 0⟩, ⟨(some p17), .pick (.t p11) (.c (.bool true)) (.t p16), none, 0⟩, ⟨(some p18), .mv (.t p17), none, 0⟩, ⟨(some p19), .fieldAddr 2 (.t p2), (some (p18, false)), 0⟩, ⟨(some p20), .load1 (.t p19), (some (p18, false)), 0⟩, ⟨(some p21), .blt .len [(.t p20)], (some (p18, false)), 0⟩, ⟨(some p22), .fieldAddr 2 (.t p3), (some (p18, false)), 0⟩, ⟨(some p23), .load1 (.t p22), (some (p18, false)), 0⟩, ⟨(some p24), .blt .len [(.t p23)], (some (p18, false)), 0⟩, ⟨(some p25), .bin .neq .other (.t p21) (.t p24), (some (p18, false)), 0⟩, ⟨(some p26), .pick (.t p18) (.c (.bool true)) (.t p25), none, 0⟩]) [p2, p3, p26] (.cond (.t p26) (.seq (.ops [⟨(some p4), .mv (.c (.bool false)), none, 0⟩]) [p4] .ret) .skip)) [p2, p3] (.seq (.seq (.ops [⟨(some p5), .mv (.c (.int .i64 0)), none, 0⟩]) [p2, p3, p5] (.block 0 (.loop [p2, p3, p5] c_cabotageref22_SameFormula_1))) [] c_cabotageref22_SameFormula_0)))
def f_cabotageref22_SameFormula : CFunc := ⟨46, [.tmp p4], c_cabotageref22_SameFormula, none⟩
def c_judge_Alike : CC := (.seq (.ops [⟨(some p2), .box (.t p0), none, 0⟩, ⟨(some p3), .box (.t p1), none, 0⟩, ⟨(some p4), .mv (.c (.bool false)), none, 0⟩, ⟨(some p5), .mv (.c (.int .i64 0)), none, 0⟩]) [p2, p3] (.seq (.seq (.ops [⟨(some p6), .loadN 3 (.t p2), none, 0⟩, ⟨(some p7), .loadN 3 (.t p3), none, 0⟩, ⟨(some p8), .call (.c (.func (.func n_judge_both) #[] #[])) [(.t p6), (.t p7)], none, 0⟩, ⟨(some p9), .un .not (.t p8), none, 0⟩]) [p2, p3, p9] (.cond (.t p9) (.seq (.ops [⟨(some p4), .mv (.c (.bool false)), none, 0⟩, ⟨(some p5), .mv (.c (.int .i64 2)), none, 0⟩]) [p4, p5] .ret) .skip)) [p2, p3] (.seq (.ops [⟨(some p10), .loadN 3 (.t p2), none, 0⟩, ⟨(some p11), .loadN 3 (.t p3), none, 0⟩, ⟨(some p12), .call (.c (.func (.func n_judge_alike) #[] #[])) [(.t p10), (.t p11)], none, 0⟩, ⟨(some p4), .mv (.t p12), none, 0⟩, ⟨(some p5), .mv (.c (.int .i64 0)), none, 0⟩]) [p4, p5] .ret)))
def f_judge_Alike : CFunc := ⟨13, [.tmp p4, .tmp p5], c_judge_Alike, none⟩
def c_judge_Holds : CC := (.seq (.ops [⟨(some p3), .box (.t p0), none, 0⟩, ⟨(some p4), .box (.t p1), none, 0⟩, ⟨(some p6), .mv (.c (.bool false)), none, 0⟩, ⟨(some p7), .mv (.c (.int .i64 0)), none, 0⟩]) [p2, p3, p4] (.seq (.ops [⟨(some p8), .alloc [(.int .i64 0)], none, 0⟩, ⟨none, .store 1 (.t p8) (.c (.int .i64 3000)), none, 0⟩]) [p2, p3, p4, p8] (.seq (.seq (.ops [⟨(some p9), .loadN 3 (.t p3), none, 0⟩, ⟨(some p10), .mv (.t p2), none, 0⟩, ⟨(some p11), .call (.c (.func (.func n_judge_isState) #[] #[])) [(.t p9), (.t p10)], none, 0⟩, ⟨(some p12), .un .not (.t p11), none, 0⟩, ⟨(some p13), .mv (.t p12), none, 0⟩, ⟨(some p14), .loadN 3 (.t p3), (some (p13, false)), 0⟩, ⟨(some p15), .loadN 3 (.t p4), (some (p13, false)), 0⟩, ⟨(some p16), .call (.c (.func (.func n_judge_formed) #[] #[])) [(.t p14), (.t p15), (.t p8)], (some (p13, false)), 0⟩, ⟨(some p17), .un .not (.t p16), (some (p13, false)), 0⟩, ⟨(some p18), .pick (.t p13) (.c (.bool true)) (.t p17), none, 0⟩]) [p2, p3, p4, p18] (.cond (.t p18) (.seq (.ops [⟨(some p6), .mv (.c (.bool false)), none, 0⟩, ⟨(some p7), .mv (.c (.int .i64 2)), none, 0⟩]) [p6, p7] .ret) .skip)) [p2, p3, p4] (.seq (.ops [⟨(some p19), .loadN 3 (.t p3), none, 0⟩, ⟨(some p20), .loadN 3 (.t p4), none, 0⟩, ⟨(some p21), .call (.c (.func (.func n_judge_holds) #[] #[])) [(.t p19), (.t p20)], none, 0⟩, ⟨(some p22), .mv (.t p2), none, 0⟩, ⟨(some p23), .indexAddr 1 (.t p21) (.t p22), none, 0⟩, ⟨(some p24), .load1 (.t p23), none, 0⟩, ⟨(some p6), .mv (.t p24), none, 0⟩, ⟨(some p7), .mv (.c (.int .i64 0)), none, 0⟩]) [p6, p7] .ret))))
def f_judge_Holds : CFunc := ⟨25, [.tmp p6, .tmp p7], c_judge_Holds, none⟩
def c_cabotageref22_Holds : CC := (.seq (.ops [⟨(some p3), .box (.t p0), none, 0⟩, ⟨(some p4), .box (.t p1), none, 0⟩, ⟨(some p6), .mv (.c (.bool false)), none, 0⟩, ⟨(some p7), .mv (.c (.int .i64 0)), none, 0⟩]) [p2, p3, p4] (.seq (.ops [⟨(some p8), .alloc [(.int .i64 0)], none, 0⟩, ⟨none, .store 1 (.t p8) (.c (.int .i64 3000)), none, 0⟩]) [p2, p3, p4, p8] (.seq (.seq (.ops [⟨(some p9), .loadN 3 (.t p3), none, 0⟩, ⟨(some p10), .call (.c (.func (.func n_cabotageref22_Check) #[] #[])) [(.t p9)], none, 0⟩, ⟨(some p11), .bin .neq .other (.t p10) (.c (.int .i64 0)), none, 0⟩, ⟨(some p12), .mv (.t p11), none, 0⟩, ⟨(some p13), .loadN 3 (.t p3), (some (p12, false)), 0⟩, ⟨(some p14), .loadN 3 (.t p4), (some (p12, false)), 0⟩, ⟨(some p15), .call (.c (.func (.func n_cabotageref22_formula) #[] #[])) [(.t p13), (.t p14), (.t p8)], (some (p12, false)), 0⟩, ⟨(some p16), .un .not (.t p15), (some (p12, false)), 0⟩, ⟨(some p17), .pick (.t p12) (.c (.bool true)) (.t p16), none, 0⟩, ⟨(some p18), .mv (.t p17), none, 0⟩, ⟨(some p19), .mv (.t p2), (some (p18, false)), 0⟩, ⟨(some p20), .bin .lss .other (.t p19) (.c (.int .i64 0)), (some (p18, false)), 0⟩, ⟨(some p21), .pick (.t p18) (.c (.bool true)) (.t p20), none, 0⟩, ⟨(some p22), .mv (.t p21), none, 0⟩, ⟨(some p23), .mv (.t p2), (some (p22, false)), 0⟩, ⟨(some p24), .fieldAddr 0 (.t p3), (some (p22, false)), 0⟩, ⟨(some p25), .load1 (.t p24), (some (p22, false)), 0⟩, ⟨(some p26), .bin .geq .other (.t p23) (.t p25), (some (p22, false)), 0⟩, ⟨(some p27), .pick (.t p22) (.c (.bool true)) (.t p26), none, 0⟩]) [p2, p3, p4, p27] (.cond (.t p27) (.seq (.ops [⟨(some p6), .mv (.c (.bool false)), none, 0⟩, ⟨(some p7), .mv (.c (.int .i64 2)), none, 0⟩]) [p6, p7] .ret) .skip)) [p2, p3, p4] (.seq (.ops [⟨(some p28), .loadN 3 (.t p3), none, 0⟩, ⟨(some p29), .loadN 3 (.t p4), none, 0⟩, ⟨(some p30), .call (.c (.func (.func n_cabotageref22_holdsIn) #[] #[])) [(.t p28), (.t p29)], none, 0⟩, ⟨(some p31), .mv (.t p2), none, 0⟩, ⟨(some p32), .indexAddr 1 (.t p30) (.t p31), none, 0⟩, ⟨(some p33), .load1 (.t p32), none, 0⟩, ⟨(some p6), .mv (.t p33), none, 0⟩, ⟨(some p7), .mv (.c (.int .i64 0)), none, 0⟩]) [p6, p7] .ret))))
def f_cabotageref22_Holds : CFunc := ⟨34, [.tmp p6, .tmp p7], c_cabotageref22_Holds, none⟩
def c_judge_Classes : CC := (.seq (.ops [⟨(some p1), .box (.t p0), none, 0⟩, ⟨(some p2), .mv (.c (.slice none 0 0)), none, 0⟩, ⟨(some p3), .mv (.c (.int .i64 0)), none, 0⟩]) [p1] (.seq (.seq (.ops [⟨(some p4), .loadN 3 (.t p1), none, 0⟩, ⟨(some p5), .call (.c (.func (.func n_judge_Check) #[] #[])) [(.t p4)], none, 0⟩, ⟨(some p6), .bin .neq .other (.t p5) (.c (.int .i64 0)), none, 0⟩]) [p1, p6] (.cond (.t p6) (.seq (.ops [⟨(some p2), .mv (.c (.slice none 0 0)), none, 0⟩, ⟨(some p3), .mv (.c (.int .i64 2)), none, 0⟩]) [p2, p3] .ret) .skip)) [p1] (.seq (.ops [⟨(some p7), .loadN 3 (.t p1), none, 0⟩, ⟨(some p8), .call (.c (.func (.func n_judge_classes) #[] #[])) [(.t p7)], none, 0⟩, ⟨(some p2), .mv (.t p8), none, 0⟩, ⟨(some p3), .mv (.c (.int .i64 0)), none, 0⟩]) [p2, p3] .ret)))
def f_judge_Classes : CFunc := ⟨9, [.tmp p2, .tmp p3], c_judge_Classes, none⟩
def c_cabotageref03_SameInts_1 : CC := (.seq (.seq (.ops [⟨(some p11), .mv (.t p5), none, 0⟩, ⟨(some p12), .mv (.t p0), none, 0⟩, ⟨(some p13), .blt .len [(.t p12)], none, 0⟩, ⟨(some p14), .bin .lss .other (.t p11) (.t p13), none, 0⟩]) [p0, p1, p5, p14] (.cond (.t p14) .skip (.exit 0))) [p0, p1, p5] (.seq (.block 1 (.seq (.draw [⟨(some p17), .mv (.t p0), none, 0⟩, ⟨(some p18), .mv (.t p5), none, 0⟩, ⟨(some p19), .indexAddr 1 (.t p17) (.t p18), none, 0⟩, ⟨(some p20), .load1 (.t p19), none, 0⟩, ⟨(some p21), .mv (.t p1), none, 0⟩, ⟨(some p22), .mv (.t p5), none, 0⟩, ⟨(some p23), .indexAddr 1 (.t p21) (.t p22), none, 0⟩, ⟨(some p24), .load1 (.t p23), none, 0⟩, ⟨(some p25), .bin .neq .other (.t p20) (.t p24), none, 0⟩]) [p0, p1, p5, p25] (.cond (.t p25) (.seq (.ops [⟨(some p4), .mv (.c (.bool false)), none, 0⟩]) [p4] .ret) .skip))) [p0, p1, p5] (.ops [⟨(some p15), .mv (.t p5), none, 0⟩, ⟨(some p16), .bin .add .other (.t p15) (.c (.int .i64 1)), none, 0⟩, ⟨(some p5), .mv (.t p16), none, 0⟩])))
def c_cabotageref03_SameInts_0 : CC := (.seq (.ops [⟨(some p4), .mv (.c (.bool true)), none, 0⟩]) [p4] .ret)
def c_cabotageref03_SameInts : CC := (.seq (.ops [⟨(some p4), .mv (.c (.bool false)), none, 0⟩]) [p0, p1] (.seq (.seq (.ops [⟨(some p6), .mv (.t p0), none, 0⟩, ⟨(some p7), .blt .len [(.t p6)], none, 0⟩, ⟨(some p8), .mv (.t p1), none, 0⟩, ⟨(some p9), .blt .len [(.t p8)], none, 0⟩, ⟨(some p10), .bin .neq .other (.t p7) (.t p9), none, 0⟩]) [p0, p1, p10] (.cond (.t p10) (.seq (.ops [⟨(some p4), .mv (.c (.bool false)), none, 0⟩]) [p4] .ret) .skip)) [p0, p1] (.seq (.seq (.ops [⟨(some p5), .mv (.c (.int .i64 0)), none, 0⟩]) [p0, p1, p5] (.block 0 (.loop [p0, p1, p5] c_cabotageref03_SameInts_1))) [] c_cabotageref03_SameInts_0)))
def f_cabotageref03_SameInts : CFunc := ⟨26, [.tmp p4], c_cabotageref03_SameInts, none⟩
def c_judge_weak_1 : CC := (.seq (.ops [⟨(some p29), .bin .lss .other (.t p28) (.t p27), none, 0⟩]) [p1, p2, p3, p4, p27, p28, p29] (.seq (.cond (.t p29) .skip (.exit 0)) [p1, p2, p3, p4, p27, p28] (.seq (.block 1 (.seq (.ops [⟨(some p30), .mv (.t p28), none, 0⟩, ⟨(some p5), .mv (.t p30), none, 0⟩]) [p1, p2, p3, p4, p5, p27, p28] (.draw [⟨(some p33), .loadN 3 (.t p1), none, 0⟩, ⟨(some p34), .mv (.t p5), none, 0⟩, ⟨(some p35), .call (.c (.func (.func n_judge_silent) #[] #[])) [(.t p33), (.t p34)], none, 0⟩, ⟨(some p31), .load1 (.t p4), none, 0⟩, ⟨(some p32), .mv (.t p5), none, 0⟩, ⟨(some p36), .indexAddr 1 (.t p31) (.t p32), none, 1⟩, ⟨none, .store 1 (.t p36) (.t p35), none, 1⟩]))) [p1, p2, p3, p4, p27, p28] (.ops [⟨(some p37), .bin .add .other (.t p28) (.c (.int .i64 1)), none, 0⟩, ⟨(some p28), .mv (.t p37), none, 0⟩]))))
def c_judge_weak_6 : CC := (.seq (.ops [⟨(some p49), .bin .lss .other (.t p48) (.t p47), none, 0⟩]) [p1, p2, p3, p4, p6, p7, p39, p40, p47, p48, p49] (.seq (.cond (.t p49) .skip (.exit 4)) [p1, p2, p3, p4, p6, p7, p39, p40, p47, p48] (.seq (.block 5 (.seq (.ops [⟨(some p50), .mv (.t p48), none, 0⟩, ⟨(some p8), .mv (.t p50), none, 0⟩]) [p1, p2, p3, p4, p6, p7, p8, p39, p40, p47, p48] (.draw [⟨(some p51), .load1 (.t p7), none, 0⟩, ⟨(some p52), .mv (.t p8), none, 0⟩, ⟨(some p53), .fieldAddr 0 (.t p1), none, 0⟩, ⟨(some p54), .load1 (.t p53), none, 0⟩, ⟨(some p55), .makeSlice 1 1 [(.bool false)] (.t p54) (.t p54), none, 0⟩, ⟨(some p56), .indexAddr 1 (.t p51) (.t p52), none, 0⟩, ⟨none, .store 1 (.t p56) (.t p55), none, 0⟩]))) [p1, p2, p3, p4, p6, p7, p39, p40, p47, p48] (.ops [⟨(some p57), .bin .add .other (.t p48) (.c (.int .i64 1)), none, 0⟩, ⟨(some p48), .mv (.t p57), none, 0⟩]))))
def c_judge_weak_12 : CC := (.seq (.ops [⟨(some p83), .bin .lss .other (.t p82) (.t p81), none, 0⟩]) [p7, p11, p80, p81, p82, p83] (.seq (.cond (.t p83) .skip (.exit 10)) [p7, p11, p80, p81, p82] (.seq (.block 11 (.seq (.ops [⟨(some p84), .indexAddr 1 (.t p80) (.t p82), none, 0⟩, ⟨(some p85), .load1 (.t p84), none, 0⟩, ⟨(some p13), .mv (.t p85), none, 0⟩]) [p7, p11, p13, p80, p81, p82] (.ops [⟨(some p86), .load1 (.t p7), none, 0⟩, ⟨(some p87), .fieldAddr 2 (.t p11), none, 0⟩, ⟨(some p88), .load1 (.t p87), none, 0⟩, ⟨(some p89), .indexAddr 1 (.t p86) (.t p88), none, 0⟩, ⟨(some p90), .load1 (.t p89), none, 0⟩, ⟨(some p91), .mv (.t p13), none, 0⟩, ⟨(some p92), .indexAddr 1 (.t p90) (.t p91), none, 0⟩, ⟨none, .store 1 (.t p92) (.c (.bool true)), none, 0⟩]))) [p7, p11, p80, p81, p82] (.ops [⟨(some p93), .bin .add .other (.t p82) (.c (.int .i64 1)), none, 0⟩, ⟨(some p82), .mv (.t p93), none, 0⟩]))))
def c_judge_weak_10 : CC := (.ops [⟨(some p11), .alloc [(.int .i64 0), (.int .i64 0), (.int .i64 0)], none, 0⟩, ⟨none, .store 3 (.t p11) (.t p75), none, 0⟩])
def c_judge_weak_11 : CC := (.block 9 (.seq (.ops [⟨(some p76), .load1 (.t p4), none, 0⟩, ⟨(some p77), .fieldAddr 1 (.t p11), none, 0⟩, ⟨(some p78), .load1 (.t p77), none, 0⟩, ⟨(some p79), .indexAddr 1 (.t p76) (.t p78), none, 0⟩, ⟨(some p80), .load1 (.t p79), none, 0⟩, ⟨(some p81), .blt .len [(.t p80)], none, 0⟩, ⟨(some p82), .mv (.c (.int .i64 0)), none, 0⟩]) [p7, p11, p80, p81, p82] (.block 10 (.loop [p7, p11, p80, p81, p82] c_judge_weak_12))))
def r_judge_weak_10 : RC := ⟨(n_judge_weak * 1000 + 10), [p4, p7], [p75], c_judge_weak_10, c_judge_weak_11⟩
def c_judge_weak_9 : CC := (.ops [⟨(some p94), .bin .add .other (.t p63) (.c (.int .i64 1)), none, 0⟩, ⟨(some p63), .mv (.t p94), none, 0⟩])
def c_judge_weak_8 : CC := (.seq (.ops [⟨(some p64), .bin .lss .other (.t p63) (.t p62), none, 0⟩]) [p1, p2, p3, p4, p6, p7, p39, p40, p61, p62, p63, p64] (.seq (.cond (.t p64) .skip (.exit 6)) [p1, p2, p3, p4, p6, p7, p39, p40, p61, p62, p63] (.seq (.block 7 (.seq (.ops [⟨(some p65), .indexAddr 1 (.t p61) (.t p63), none, 0⟩, ⟨(some p66), .load1 (.t p65), none, 0⟩, ⟨(some p10), .mv (.t p66), none, 0⟩]) [p1, p2, p3, p4, p6, p7, p10, p39, p40, p61, p62, p63] (.seq (.ops [⟨(some p67), .load1 (.t p7), none, 0⟩, ⟨(some p68), .indexAddr 1 (.t p67) (.c (.int .i64 0)), none, 0⟩, ⟨(some p69), .load1 (.t p68), none, 0⟩, ⟨(some p70), .mv (.t p10), none, 0⟩, ⟨(some p71), .indexAddr 1 (.t p69) (.t p70), none, 0⟩, ⟨none, .store 1 (.t p71) (.c (.bool true)), none, 0⟩]) [p1, p2, p3, p4, p6, p7, p10, p39, p40, p61, p62, p63] (.seq (.ops [⟨(some p72), .loadN 3 (.t p1), none, 0⟩, ⟨(some p73), .mv (.t p10), none, 0⟩, ⟨(some p74), .call (.c (.func (.func n_judge_steps) #[] #[])) [(.t p72), (.t p73)], none, 0⟩]) [p1, p2, p3, p4, p6, p7, p39, p40, p61, p62, p63, p74] (.block 8 (.rangeFunc (n_judge_weak * 1000 + 10) [p4, p7] (.t p74) [p75] c_judge_weak_10 c_judge_weak_11)))))) [p1, p2, p3, p4, p6, p7, p39, p40, p61, p62, p63] c_judge_weak_9)))
def c_judge_weak_16 : CC := (.ops [⟨(some p119), .bin .add .other (.t p104) (.c (.int .i64 1)), none, 0⟩, ⟨(some p104), .mv (.t p119), none, 0⟩])
def c_judge_weak_15 : CC := (.seq (.ops [⟨(some p105), .bin .lss .other (.t p104) (.t p103), none, 0⟩]) [p1, p2, p3, p4, p6, p14, p39, p40, p95, p96, p97, p102, p103, p104, p105] (.seq (.cond (.t p105) .skip (.exit 14)) [p1, p2, p3, p4, p6, p14, p39, p40, p95, p96, p97, p102, p103, p104] (.seq (.block 15 (.seq (.ops [⟨(some p106), .mv (.t p104), none, 0⟩, ⟨(some p107), .indexAddr 1 (.t p102) (.t p104), none, 0⟩, ⟨(some p108), .load1 (.t p107), none, 0⟩, ⟨(some p16), .mv (.t p106), none, 0⟩, ⟨(some p17), .mv (.t p108), none, 0⟩]) [p1, p2, p3, p4, p6, p14, p16, p17, p39, p40, p95, p96, p97, p102, p103, p104] (.seq (.ops [⟨(some p109), .mv (.t p17), none, 0⟩]) [p1, p2, p3, p4, p6, p14, p16, p39, p40, p95, p96, p97, p102, p103, p104, p109] (.cond (.t p109) (.ops [⟨(some p110), .fieldAddr 2 (.t p3), none, 0⟩, ⟨(some p111), .load1 (.t p110), none, 0⟩, ⟨(some p112), .mv (.t p6), none, 0⟩, ⟨(some p113), .mv (.t p16), none, 0⟩, ⟨(some p114), .mv (.t p14), none, 0⟩, ⟨(some p115), .build [(.int .i64 0), (.int .i64 0), (.int .i64 0)] [(0, 1, (.t p112)), (1, 1, (.t p113)), (2, 1, (.t p114))], none, 0⟩, ⟨(some p116), .buildSlice 1 3 [(.int .i64 0), (.int .i64 0), (.int .i64 0)] [(0, (.t p115))], none, 0⟩, ⟨(some p117), .blt (.append 3 24) [(.t p111), (.t p116)], none, 0⟩, ⟨(some p118), .fieldAddr 2 (.t p3), none, 0⟩, ⟨none, .store 1 (.t p118) (.t p117), none, 0⟩]) .skip)))) [p1, p2, p3, p4, p6, p14, p39, p40, p95, p96, p97, p102, p103, p104] c_judge_weak_16)))
def c_judge_weak_14 : CC := (.ops [⟨(some p120), .bin .add .other (.t p97) (.c (.int .i64 1)), none, 0⟩, ⟨(some p97), .mv (.t p120), none, 0⟩])
def c_judge_weak_13 : CC := (.seq (.ops [⟨(some p98), .bin .lss .other (.t p97) (.t p96), none, 0⟩]) [p1, p2, p3, p4, p6, p39, p40, p95, p96, p97, p98] (.seq (.cond (.t p98) .skip (.exit 12)) [p1, p2, p3, p4, p6, p39, p40, p95, p96, p97] (.seq (.block 13 (.seq (.ops [⟨(some p99), .mv (.t p97), none, 0⟩, ⟨(some p100), .indexAddr 1 (.t p95) (.t p97), none, 0⟩, ⟨(some p101), .load1 (.t p100), none, 0⟩, ⟨(some p14), .mv (.t p99), none, 0⟩, ⟨(some p15), .mv (.t p101), none, 0⟩]) [p1, p2, p3, p4, p6, p14, p15, p39, p40, p95, p96, p97] (.seq (.ops [⟨(some p102), .mv (.t p15), none, 0⟩, ⟨(some p103), .blt .len [(.t p102)], none, 0⟩, ⟨(some p104), .mv (.c (.int .i64 0)), none, 0⟩]) [p1, p2, p3, p4, p6, p14, p39, p40, p95, p96, p97, p102, p103, p104] (.block 14 (.loop [p1, p2, p3, p4, p6, p14, p39, p40, p95, p96, p97, p102, p103, p104] c_judge_weak_15))))) [p1, p2, p3, p4, p6, p39, p40, p95, p96, p97] c_judge_weak_14)))
def c_judge_weak_7 : CC := (.seq (.ops [⟨(some p95), .load1 (.t p7), none, 0⟩, ⟨(some p96), .blt .len [(.t p95)], none, 0⟩, ⟨(some p97), .mv (.c (.int .i64 0)), none, 0⟩]) [p1, p2, p3, p4, p6, p39, p40, p95, p96, p97] (.block 12 (.loop [p1, p2, p3, p4, p6, p39, p40, p95, p96, p97] c_judge_weak_13)))
def c_judge_weak_5 : CC := (.seq (.seq (.ops [⟨(some p58), .load1 (.t p4), none, 0⟩, ⟨(some p59), .mv (.t p6), none, 0⟩, ⟨(some p60), .indexAddr 1 (.t p58) (.t p59), none, 0⟩, ⟨(some p61), .load1 (.t p60), none, 0⟩, ⟨(some p62), .blt .len [(.t p61)], none, 0⟩, ⟨(some p63), .mv (.c (.int .i64 0)), none, 0⟩]) [p1, p2, p3, p4, p6, p7, p39, p40, p61, p62, p63] (.block 6 (.loop [p1, p2, p3, p4, p6, p7, p39, p40, p61, p62, p63] c_judge_weak_8))) [p1, p2, p3, p4, p6, p7, p39, p40] c_judge_weak_7)
def c_judge_weak_4 : CC := (.ops [⟨(some p121), .bin .add .other (.t p40) (.c (.int .i64 1)), none, 0⟩, ⟨(some p40), .mv (.t p121), none, 0⟩])
def c_judge_weak_3 : CC := (.seq (.ops [⟨(some p41), .bin .lss .other (.t p40) (.t p39), none, 0⟩]) [p1, p2, p3, p4, p39, p40, p41] (.seq (.cond (.t p41) .skip (.exit 2)) [p1, p2, p3, p4, p39, p40] (.seq (.block 3 (.seq (.ops [⟨(some p42), .mv (.t p40), none, 0⟩, ⟨(some p6), .mv (.t p42), none, 0⟩]) [p1, p2, p3, p4, p6, p39, p40] (.seq (.ops [⟨(some p43), .fieldAddr 1 (.t p1), none, 0⟩, ⟨(some p44), .load1 (.t p43), none, 0⟩, ⟨(some p45), .makeSlice 1 24 [(.slice none 0 0)] (.t p44) (.t p44), none, 0⟩, ⟨(some p7), .alloc [(.slice none 0 0)], none, 0⟩, ⟨none, .store 1 (.t p7) (.t p45), none, 0⟩]) [p1, p2, p3, p4, p6, p7, p39, p40] (.seq (.seq (.ops [⟨(some p46), .load1 (.t p7), none, 0⟩, ⟨(some p47), .blt .len [(.t p46)], none, 0⟩, ⟨(some p48), .mv (.c (.int .i64 0)), none, 0⟩]) [p1, p2, p3, p4, p6, p7, p39, p40, p47, p48] (.block 4 (.loop [p1, p2, p3, p4, p6, p7, p39, p40, p47, p48] c_judge_weak_6))) [p1, p2, p3, p4, p6, p7, p39, p40] c_judge_weak_5)))) [p1, p2, p3, p4, p39, p40] c_judge_weak_4)))
def c_judge_weak_2 : CC := (.seq (.ops [⟨(some p122), .loadN 3 (.t p3), none, 0⟩, ⟨none, .store 3 (.t p2) (.t p122), none, 0⟩]) [p2] .ret)
def c_judge_weak_0 : CC := (.seq (.seq (.ops [⟨(some p38), .fieldAddr 0 (.t p1), none, 0⟩, ⟨(some p39), .load1 (.t p38), none, 0⟩, ⟨(some p40), .mv (.c (.int .i64 0)), none, 0⟩]) [p1, p2, p3, p4, p39, p40] (.block 2 (.loop [p1, p2, p3, p4, p39, p40] c_judge_weak_3))) [p2, p3] c_judge_weak_2)
def c_judge_weak : CC := (.seq (.ops [⟨(some p1), .box (.t p0), none, 0⟩, ⟨(some p2), .alloc [(.int .i64 0), (.int .i64 0), (.slice none 0 0)], none, 0⟩]) [p1, p2] (.seq (.ops [⟨(some p18), .fieldAddr 0 (.t p1), none, 0⟩, ⟨(some p19), .load1 (.t p18), none, 0⟩, ⟨(some p20), .fieldAddr 1 (.t p1), none, 0⟩, ⟨(some p21), .load1 (.t p20), none, 0⟩, ⟨(some p22), .build [(.int .i64 0), (.int .i64 0), (.slice none 0 0)] [(0, 1, (.t p19)), (1, 1, (.t p21))], none, 0⟩, ⟨(some p3), .alloc [(.int .i64 0), (.int .i64 0), (.slice none 0 0)], none, 0⟩, ⟨none, .store 3 (.t p3) (.t p22), none, 0⟩]) [p1, p2, p3] (.seq (.ops [⟨(some p23), .fieldAddr 0 (.t p1), none, 0⟩, ⟨(some p24), .load1 (.t p23), none, 0⟩, ⟨(some p25), .makeSlice 1 24 [(.slice none 0 0)] (.t p24) (.t p24), none, 0⟩, ⟨(some p4), .alloc [(.slice none 0 0)], none, 0⟩, ⟨none, .store 1 (.t p4) (.t p25), none, 0⟩]) [p1, p2, p3, p4] (.seq (.seq (.ops [⟨(some p26), .fieldAddr 0 (.t p1), none, 0⟩, ⟨(some p27), .load1 (.t p26), none, 0⟩, ⟨(some p28), .mv (.c (.int .i64 0)), none, 0⟩]) [p1, p2, p3, p4, p27, p28] (.block 0 (.loop [p1, p2, p3, p4, p27, p28] c_judge_weak_1))) [p1, p2, p3, p4] c_judge_weak_0))))
def f_judge_weak : CFunc := ⟨123, [.cell (some 3) p2], c_judge_weak, none⟩
def c_judge_compare : CC := (.seq (.ops [⟨(some p2), .box (.t p0), none, 0⟩, ⟨(some p3), .box (.t p1), none, 0⟩, ⟨(some p4), .mv (.c (.int .i64 0)), none, 0⟩]) [p2, p3] (.seq (.draw [⟨(some p5), .fieldAddr 0 (.t p2), none, 0⟩, ⟨(some p6), .load1 (.t p5), none, 0⟩, ⟨(some p7), .fieldAddr 0 (.t p3), none, 0⟩, ⟨(some p8), .load1 (.t p7), none, 0⟩, ⟨(some p9), .call (.c (.func (.func n_cmp_Compare_int_) #[] #[])) [(.t p6), (.t p8)], none, 0⟩, ⟨(some p10), .fieldAddr 2 (.t p2), none, 0⟩, ⟨(some p11), .load1 (.t p10), none, 0⟩, ⟨(some p12), .fieldAddr 2 (.t p3), none, 0⟩, ⟨(some p13), .load1 (.t p12), none, 0⟩, ⟨(some p14), .call (.c (.func (.func n_cmp_Compare_int_) #[] #[])) [(.t p11), (.t p13)], none, 1⟩, ⟨(some p15), .fieldAddr 1 (.t p2), none, 0⟩, ⟨(some p16), .load1 (.t p15), none, 0⟩, ⟨(some p17), .fieldAddr 1 (.t p3), none, 0⟩, ⟨(some p18), .load1 (.t p17), none, 0⟩, ⟨(some p19), .call (.c (.func (.func n_cmp_Compare_int_) #[] #[])) [(.t p16), (.t p18)], none, 2⟩, ⟨(some p20), .buildSlice 3 1 [(.int .i64 0)] [(0, (.t p9)), (1, (.t p14)), (2, (.t p19))], none, 3⟩, ⟨(some p21), .call (.c (.func (.func n_cmp_Or_int_) #[] #[])) [(.t p20)], none, 3⟩, ⟨(some p4), .mv (.t p21), none, 4⟩]) [p4] .ret))
def f_judge_compare : CFunc := ⟨22, [.tmp p4], c_judge_compare, none⟩
def c_cabotageref22_less : CC := (.seq (.ops [⟨(some p2), .box (.t p0), none, 0⟩, ⟨(some p3), .box (.t p1), none, 0⟩, ⟨(some p4), .mv (.c (.bool false)), none, 0⟩]) [p2, p3] (.seq (.seq (.ops [⟨(some p5), .fieldAddr 0 (.t p2), none, 0⟩, ⟨(some p6), .load1 (.t p5), none, 0⟩, ⟨(some p7), .fieldAddr 0 (.t p3), none, 0⟩, ⟨(some p8), .load1 (.t p7), none, 0⟩, ⟨(some p9), .bin .neq .other (.t p6) (.t p8), none, 0⟩]) [p2, p3, p9] (.cond (.t p9) (.seq (.ops [⟨(some p10), .fieldAddr 0 (.t p2), none, 0⟩, ⟨(some p11), .load1 (.t p10), none, 0⟩, ⟨(some p12), .fieldAddr 0 (.t p3), none, 0⟩, ⟨(some p13), .load1 (.t p12), none, 0⟩, ⟨(some p14), .bin .lss .other (.t p11) (.t p13), none, 0⟩, ⟨(some p4), .mv (.t p14), none, 0⟩]) [p4] .ret) .skip)) [p2, p3] (.seq (.seq (.ops [⟨(some p15), .fieldAddr 2 (.t p2), none, 0⟩, ⟨(some p16), .load1 (.t p15), none, 0⟩, ⟨(some p17), .fieldAddr 2 (.t p3), none, 0⟩, ⟨(some p18), .load1 (.t p17), none, 0⟩, ⟨(some p19), .bin .neq .other (.t p16) (.t p18), none, 0⟩]) [p2, p3, p19] (.cond (.t p19) (.seq (.ops [⟨(some p20), .fieldAddr 2 (.t p2), none, 0⟩, ⟨(some p21), .load1 (.t p20), none, 0⟩, ⟨(some p22), .fieldAddr 2 (.t p3), none, 0⟩, ⟨(some p23), .load1 (.t p22), none, 0⟩, ⟨(some p24), .bin .lss .other (.t p21) (.t p23), none, 0⟩, ⟨(some p4), .mv (.t p24), none, 0⟩]) [p4] .ret) .skip)) [p2, p3] (.seq (.ops [⟨(some p25), .fieldAddr 1 (.t p2), none, 0⟩, ⟨(some p26), .load1 (.t p25), none, 0⟩, ⟨(some p27), .fieldAddr 1 (.t p3), none, 0⟩, ⟨(some p28), .load1 (.t p27), none, 0⟩, ⟨(some p29), .bin .lss .other (.t p26) (.t p28), none, 0⟩, ⟨(some p4), .mv (.t p29), none, 0⟩]) [p4] .ret))))
def f_cabotageref22_less : CFunc := ⟨30, [.tmp p4], c_cabotageref22_less, none⟩
def c_cabotagelaw22_edges_1 : CC := (.seq (.seq (.ops [⟨(some p5), .mv (.t p4), none, 0⟩, ⟨(some p6), .mv (.t p0), none, 0⟩, ⟨(some p7), .blt .len [(.t p6)], none, 0⟩, ⟨(some p8), .bin .lss .other (.t p5) (.t p7), none, 0⟩]) [p0, p3, p4, p8] (.cond (.t p8) .skip (.exit 0))) [p0, p3, p4] (.seq (.block 1 (.draw [⟨(some p11), .mv (.t p3), none, 0⟩, ⟨(some p12), .mv (.t p0), none, 0⟩, ⟨(some p13), .mv (.t p4), none, 0⟩, ⟨(some p14), .indexAddr 3 (.t p12) (.t p13), none, 0⟩, ⟨(some p15), .indexArr 3 1 (.t p14) (.c (.int .i64 0)), none, 0⟩, ⟨(some p16), .load1 (.t p15), none, 0⟩, ⟨(some p17), .mv (.t p0), none, 0⟩, ⟨(some p18), .mv (.t p4), none, 0⟩, ⟨(some p19), .indexAddr 3 (.t p17) (.t p18), none, 0⟩, ⟨(some p20), .indexArr 3 1 (.t p19) (.c (.int .i64 1)), none, 0⟩, ⟨(some p21), .load1 (.t p20), none, 0⟩, ⟨(some p22), .mv (.t p0), none, 0⟩, ⟨(some p23), .mv (.t p4), none, 0⟩, ⟨(some p24), .indexAddr 3 (.t p22) (.t p23), none, 0⟩, ⟨(some p25), .indexArr 3 1 (.t p24) (.c (.int .i64 2)), none, 0⟩, ⟨(some p26), .load1 (.t p25), none, 0⟩, ⟨(some p27), .build [(.int .i64 0), (.int .i64 0), (.int .i64 0)] [(0, 1, (.t p16)), (1, 1, (.t p21)), (2, 1, (.t p26))], none, 0⟩, ⟨(some p28), .buildSlice 1 3 [(.int .i64 0), (.int .i64 0), (.int .i64 0)] [(0, (.t p27))], none, 0⟩, ⟨(some p29), .blt (.append 3 24) [(.t p11), (.t p28)], none, 0⟩, ⟨(some p3), .mv (.t p29), none, 1⟩])) [p0, p3, p4] (.ops [⟨(some p9), .mv (.t p4), none, 0⟩, ⟨(some p10), .bin .add .other (.t p9) (.c (.int .i64 1)), none, 0⟩, ⟨(some p4), .mv (.t p10), none, 0⟩])))
def c_cabotagelaw22_edges_0 : CC := (.seq (.ops [⟨(some p30), .mv (.t p3), none, 0⟩, ⟨(some p2), .mv (.t p30), none, 0⟩]) [p2] .ret)
def c_cabotagelaw22_edges : CC := (.seq (.ops [⟨(some p2), .mv (.c (.slice none 0 0)), none, 0⟩]) [p0] (.seq (.ops [⟨(some p3), .mv (.c (.slice none 0 0)), none, 0⟩]) [p0, p3] (.seq (.seq (.ops [⟨(some p4), .mv (.c (.int .i64 0)), none, 0⟩]) [p0, p3, p4] (.block 0 (.loop [p0, p3, p4] c_cabotagelaw22_edges_1))) [p3] c_cabotagelaw22_edges_0)))
def f_cabotagelaw22_edges : CFunc := ⟨31, [.tmp p2], c_cabotagelaw22_edges, none⟩
def c_cabotageref22_Both_1 : CC := (.seq (.seq (.ops [⟨(some p20), .mv (.t p6), none, 0⟩, ⟨(some p21), .fieldAddr 2 (.t p3), none, 0⟩, ⟨(some p22), .load1 (.t p21), none, 0⟩, ⟨(some p23), .blt .len [(.t p22)], none, 0⟩, ⟨(some p24), .bin .lss .other (.t p20) (.t p23), none, 0⟩]) [p2, p3, p4, p5, p6, p24] (.cond (.t p24) .skip (.exit 0))) [p2, p3, p4, p5, p6] (.seq (.block 1 (.seq (.ops [⟨(some p27), .fieldAddr 2 (.t p3), none, 0⟩, ⟨(some p28), .load1 (.t p27), none, 0⟩, ⟨(some p29), .mv (.t p6), none, 0⟩, ⟨(some p30), .indexAddr 3 (.t p28) (.t p29), none, 0⟩, ⟨(some p31), .loadN 3 (.t p30), none, 0⟩, ⟨(some p7), .alloc [(.int .i64 0), (.int .i64 0), (.int .i64 0)], none, 0⟩, ⟨none, .store 3 (.t p7) (.t p31), none, 0⟩]) [p2, p3, p4, p5, p6, p7] (.ops [⟨(some p32), .fieldAddr 2 (.t p5), none, 0⟩, ⟨(some p33), .load1 (.t p32), none, 0⟩, ⟨(some p34), .fieldAddr 0 (.t p7), none, 0⟩, ⟨(some p35), .load1 (.t p34), none, 0⟩, ⟨(some p36), .fieldAddr 0 (.t p2), none, 0⟩, ⟨(some p37), .load1 (.t p36), none, 0⟩, ⟨(some p38), .bin .add .other (.t p35) (.t p37), none, 0⟩, ⟨(some p39), .fieldAddr 1 (.t p7), none, 0⟩, ⟨(some p40), .load1 (.t p39), none, 0⟩, ⟨(some p41), .fieldAddr 0 (.t p2), none, 0⟩, ⟨(some p42), .load1 (.t p41), none, 0⟩, ⟨(some p43), .bin .add .other (.t p40) (.t p42), none, 0⟩, ⟨(some p44), .fieldAddr 2 (.t p7), none, 0⟩, ⟨(some p45), .load1 (.t p44), none, 0⟩, ⟨(some p46), .build [(.int .i64 0), (.int .i64 0), (.int .i64 0)] [(0, 1, (.t p38)), (1, 1, (.t p43)), (2, 1, (.t p45))], none, 0⟩, ⟨(some p47), .buildSlice 1 3 [(.int .i64 0), (.int .i64 0), (.int .i64 0)] [(0, (.t p46))], none, 0⟩, ⟨(some p48), .blt (.append 3 24) [(.t p33), (.t p47)], none, 0⟩, ⟨(some p49), .fieldAddr 2 (.t p5), none, 0⟩, ⟨none, .store 1 (.t p49) (.t p48), none, 0⟩]))) [p2, p3, p4, p5, p6] (.ops [⟨(some p25), .mv (.t p6), none, 0⟩, ⟨(some p26), .bin .add .other (.t p25) (.c (.int .i64 1)), none, 0⟩, ⟨(some p6), .mv (.t p26), none, 0⟩])))
def c_cabotageref22_Both_0 : CC := (.seq (.ops [⟨(some p50), .loadN 3 (.t p5), none, 0⟩, ⟨none, .store 3 (.t p4) (.t p50), none, 0⟩]) [p4] .ret)
def c_cabotageref22_Both : CC := (.seq (.ops [⟨(some p2), .box (.t p0), none, 0⟩, ⟨(some p3), .box (.t p1), none, 0⟩, ⟨(some p4), .alloc [(.int .i64 0), (.int .i64 0), (.slice none 0 0)], none, 0⟩]) [p2, p3, p4] (.seq (.draw [⟨(some p15), .buildSlice 0 3 [(.int .i64 0), (.int .i64 0), (.int .i64 0)] [], none, 0⟩, ⟨(some p16), .fieldAddr 2 (.t p2), none, 0⟩, ⟨(some p17), .load1 (.t p16), none, 0⟩, ⟨(some p18), .blt (.append 3 24) [(.t p15), (.t p17)], none, 0⟩, ⟨(some p8), .fieldAddr 0 (.t p2), none, 0⟩, ⟨(some p9), .load1 (.t p8), none, 0⟩, ⟨(some p10), .fieldAddr 0 (.t p3), none, 0⟩, ⟨(some p11), .load1 (.t p10), none, 0⟩, ⟨(some p12), .bin .add .other (.t p9) (.t p11), none, 0⟩, ⟨(some p13), .fieldAddr 1 (.t p2), none, 0⟩, ⟨(some p14), .load1 (.t p13), none, 0⟩, ⟨(some p19), .build [(.int .i64 0), (.int .i64 0), (.slice none 0 0)] [(0, 1, (.t p12)), (1, 1, (.t p14)), (2, 1, (.t p18))], none, 1⟩, ⟨(some p5), .alloc [(.int .i64 0), (.int .i64 0), (.slice none 0 0)], none, 0⟩, ⟨none, .store 3 (.t p5) (.t p19), none, 1⟩]) [p2, p3, p4, p5] (.seq (.seq (.ops [⟨(some p6), .mv (.c (.int .i64 0)), none, 0⟩]) [p2, p3, p4, p5, p6] (.block 0 (.loop [p2, p3, p4, p5, p6] c_cabotageref22_Both_1))) [p4, p5] c_cabotageref22_Both_0)))
def f_cabotageref22_Both : CFunc := ⟨51, [.cell (some 3) p4], c_cabotageref22_Both, none⟩
def c_judge_isState : CC := (.seq (.ops [⟨(some p2), .box (.t p0), none, 0⟩, ⟨(some p4), .mv (.c (.bool false)), none, 0⟩]) [p1, p2] (.seq (.ops [⟨(some p5), .loadN 3 (.t p2), none, 0⟩, ⟨(some p6), .call (.c (.func (.func n_judge_Check) #[] #[])) [(.t p5)], none, 0⟩, ⟨(some p7), .bin .eql .other (.t p6) (.c (.int .i64 0)), none, 0⟩, ⟨(some p8), .mv (.t p7), none, 0⟩, ⟨(some p9), .mv (.t p1), (some (p8, true)), 0⟩, ⟨(some p10), .bin .geq .other (.t p9) (.c (.int .i64 0)), (some (p8, true)), 0⟩, ⟨(some p11), .pick (.t p8) (.t p10) (.c (.bool false)), none, 0⟩, ⟨(some p12), .mv (.t p11), none, 0⟩, ⟨(some p13), .mv (.t p1), (some (p12, true)), 0⟩, ⟨(some p14), .fieldAddr 0 (.t p2), (some (p12, true)), 0⟩, ⟨(some p15), .load1 (.t p14), (some (p12, true)), 0⟩, ⟨(some p16), .bin .lss .other (.t p13) (.t p15), (some (p12, true)), 0⟩, ⟨(some p17), .pick (.t p12) (.t p16) (.c (.bool false)), none, 0⟩, ⟨(some p4), .mv (.t p17), none, 0⟩]) [p4] .ret))
def f_judge_isState : CFunc := ⟨18, [.tmp p4], c_judge_isState, none⟩
def c_judge_apart_7 : CC := (.seq (.ops [⟨(some p57), .mv (.t p11), none, 0⟩]) [p1, p3, p4, p5, p6, p7, p18, p19, p22, p23, p57] (.cond (.t p57) (.ops [⟨(some p58), .mv (.t p5), none, 0⟩, ⟨(some p59), .mv (.t p6), none, 0⟩, ⟨(some p60), .mv (.t p7), none, 0⟩, ⟨(some p61), .build [(.int .i64 0), (.int .i64 0)] [(0, 1, (.t p59)), (1, 1, (.t p60))], none, 0⟩, ⟨(some p62), .buildSlice 1 2 [(.int .i64 0), (.int .i64 0)] [(0, (.t p61))], none, 0⟩, ⟨(some p63), .blt (.append 2 16) [(.t p58), (.t p62)], none, 0⟩, ⟨(some p5), .mv (.t p63), none, 0⟩]) .skip))
def c_judge_apart_6 : CC := (.ops [⟨(some p64), .bin .add .other (.t p23) (.c (.int .i64 1)), none, 0⟩, ⟨(some p23), .mv (.t p64), none, 0⟩])
def c_judge_apart_5 : CC := (.seq (.ops [⟨(some p24), .bin .lss .other (.t p23) (.t p22), none, 0⟩]) [p1, p3, p4, p5, p6, p18, p19, p22, p23, p24] (.seq (.cond (.t p24) .skip (.exit 4)) [p1, p3, p4, p5, p6, p18, p19, p22, p23] (.seq (.block 5 (.seq (.ops [⟨(some p25), .mv (.t p23), none, 0⟩, ⟨(some p7), .mv (.t p25), none, 0⟩]) [p1, p3, p4, p5, p6, p7, p18, p19, p22, p23] (.seq (.seq (.ops [⟨(some p27), .mv (.t p3), none, 0⟩, ⟨(some p28), .mv (.t p6), none, 0⟩, ⟨(some p29), .mv (.t p7), none, 0⟩, ⟨(some p30), .build [(.int .i64 0), (.int .i64 0)] [(0, 1, (.t p28)), (1, 1, (.t p29))], none, 0⟩, ⟨(some p31), .lookup (.leaves [0, 1]) (.int .i64 0) true (.t p27) (.t p30), none, 0⟩, ⟨(some p26), .mv (.t p31), none, 0⟩, ⟨(some p32), .extract (.t p26) 0, none, 0⟩, ⟨(some p33), .extract (.t p26) 1, none, 0⟩, ⟨(some p8), .mv (.t p32), none, 0⟩, ⟨(some p9), .mv (.t p33), none, 0⟩]) [p1, p3, p4, p5, p6, p7, p9, p18, p19, p22, p23] (.seq (.ops [⟨(some p34), .mv (.t p9), none, 0⟩]) [p1, p3, p4, p5, p6, p7, p18, p19, p22, p23, p34] (.cond (.t p34) (.exit 5) .skip))) [p1, p3, p4, p5, p6, p7, p18, p19, p22, p23] (.seq (.ops [⟨(some p36), .mv (.t p3), none, 0⟩, ⟨(some p37), .loadN 3 (.t p1), none, 0⟩, ⟨(some p38), .mv (.t p6), none, 0⟩, ⟨(some p39), .mv (.t p7), none, 0⟩, ⟨(some p40), .mv (.t p4), none, 0⟩, ⟨(some p41), .bin .sub .other (.t p40) (.c (.int .i64 1)), none, 0⟩, ⟨(some p42), .call (.c (.func (.func n_judge_rounds_first) #[] #[])) [(.t p36), (.t p37), (.t p38), (.t p39), (.t p41)], none, 0⟩, ⟨(some p35), .mv (.t p42), none, 0⟩, ⟨(some p43), .extract (.t p35) 0, none, 0⟩, ⟨(some p44), .extract (.t p35) 1, none, 0⟩, ⟨(some p10), .alloc [(.int .i64 0), (.int .i64 0), (.int .i64 0)], none, 0⟩, ⟨none, .store 3 (.t p10) (.t p43), none, 0⟩, ⟨(some p11), .mv (.t p44), none, 0⟩]) [p1, p3, p4, p5, p6, p7, p11, p18, p19, p22, p23] (.seq (.seq (.ops [⟨(some p45), .mv (.t p11), none, 0⟩, ⟨(some p46), .un .not (.t p45), none, 0⟩]) [p1, p3, p4, p5, p6, p7, p11, p18, p19, p22, p23, p46] (.cond (.t p46) (.ops [⟨(some p48), .mv (.t p3), none, 0⟩, ⟨(some p49), .loadN 3 (.t p1), none, 0⟩, ⟨(some p50), .mv (.t p7), none, 0⟩, ⟨(some p51), .mv (.t p6), none, 0⟩, ⟨(some p52), .mv (.t p4), none, 0⟩, ⟨(some p53), .bin .sub .other (.t p52) (.c (.int .i64 1)), none, 0⟩, ⟨(some p54), .call (.c (.func (.func n_judge_rounds_first) #[] #[])) [(.t p48), (.t p49), (.t p50), (.t p51), (.t p53)], none, 0⟩, ⟨(some p47), .mv (.t p54), none, 0⟩, ⟨(some p55), .extract (.t p47) 0, none, 0⟩, ⟨(some p56), .extract (.t p47) 1, none, 0⟩, ⟨(some p11), .mv (.t p56), none, 0⟩]) .skip)) [p1, p3, p4, p5, p6, p7, p11, p18, p19, p22, p23] c_judge_apart_7))))) [p1, p3, p4, p5, p6, p18, p19, p22, p23] c_judge_apart_6)))
def c_judge_apart_4 : CC := (.ops [⟨(some p65), .bin .add .other (.t p19) (.c (.int .i64 1)), none, 0⟩, ⟨(some p19), .mv (.t p65), none, 0⟩])
def c_judge_apart_3 : CC := (.seq (.ops [⟨(some p20), .bin .lss .other (.t p19) (.t p18), none, 0⟩]) [p1, p3, p4, p5, p18, p19, p20] (.seq (.cond (.t p20) .skip (.exit 2)) [p1, p3, p4, p5, p18, p19] (.seq (.block 3 (.seq (.ops [⟨(some p21), .mv (.t p19), none, 0⟩, ⟨(some p6), .mv (.t p21), none, 0⟩]) [p1, p3, p4, p5, p6, p18, p19] (.seq (.ops [⟨(some p22), .mv (.t p6), none, 0⟩, ⟨(some p23), .mv (.c (.int .i64 0)), none, 0⟩]) [p1, p3, p4, p5, p6, p18, p19, p22, p23] (.block 4 (.loop [p1, p3, p4, p5, p6, p18, p19, p22, p23] c_judge_apart_5))))) [p1, p3, p4, p5, p18, p19] c_judge_apart_4)))
def c_judge_apart_8 : CC := (.seq (.ops [⟨(some p73), .bin .lss .other (.t p72) (.t p71), none, 0⟩]) [p1, p3, p4, p70, p71, p72, p73] (.seq (.cond (.t p73) .skip (.exit 6)) [p1, p3, p4, p70, p71, p72] (.seq (.block 7 (.seq (.ops [⟨(some p74), .indexAddr 2 (.t p70) (.t p72), none, 0⟩, ⟨(some p75), .loadN 2 (.t p74), none, 0⟩, ⟨(some p13), .alloc [(.int .i64 0), (.int .i64 0)], none, 0⟩, ⟨none, .store 2 (.t p13) (.t p75), none, 0⟩]) [p1, p3, p4, p13, p70, p71, p72] (.draw [⟨(some p76), .mv (.t p3), none, 0⟩, ⟨(some p77), .loadN 2 (.t p13), none, 0⟩, ⟨(some p84), .mv (.t p4), none, 0⟩, ⟨none, .mapUpdate (.leaves [0, 1]) (.t p76) (.t p77) (.t p84), none, 0⟩, ⟨(some p78), .mv (.t p3), none, 0⟩, ⟨(some p79), .indexArr 2 1 (.t p13) (.c (.int .i64 1)), none, 0⟩, ⟨(some p80), .load1 (.t p79), none, 0⟩, ⟨(some p81), .indexArr 2 1 (.t p13) (.c (.int .i64 0)), none, 0⟩, ⟨(some p82), .load1 (.t p81), none, 0⟩, ⟨(some p83), .build [(.int .i64 0), (.int .i64 0)] [(0, 1, (.t p80)), (1, 1, (.t p82))], none, 0⟩, ⟨(some p85), .mv (.t p4), none, 0⟩, ⟨none, .mapUpdate (.leaves [0, 1]) (.t p78) (.t p83) (.t p85), none, 1⟩]))) [p1, p3, p4, p70, p71, p72] (.ops [⟨(some p86), .bin .add .other (.t p72) (.c (.int .i64 1)), none, 0⟩, ⟨(some p72), .mv (.t p86), none, 0⟩]))))
def c_judge_apart_2 : CC := (.seq (.seq (.ops [⟨(some p66), .mv (.t p5), none, 0⟩, ⟨(some p67), .blt .len [(.t p66)], none, 0⟩, ⟨(some p68), .bin .eql .other (.t p67) (.c (.int .i64 0)), none, 0⟩]) [p1, p3, p4, p5, p68] (.cond (.t p68) (.seq (.ops [⟨(some p69), .mv (.t p3), none, 0⟩, ⟨(some p2), .mv (.t p69), none, 0⟩]) [p2] .ret) .skip)) [p1, p3, p4, p5] (.seq (.ops [⟨(some p70), .mv (.t p5), none, 0⟩, ⟨(some p71), .blt .len [(.t p70)], none, 0⟩, ⟨(some p72), .mv (.c (.int .i64 0)), none, 0⟩]) [p1, p3, p4, p70, p71, p72] (.block 6 (.loop [p1, p3, p4, p70, p71, p72] c_judge_apart_8))))
def c_judge_apart_1 : CC := (.ops [⟨(some p15), .mv (.t p4), none, 0⟩, ⟨(some p16), .bin .add .other (.t p15) (.c (.int .i64 1)), none, 0⟩, ⟨(some p4), .mv (.t p16), none, 0⟩])
def c_judge_apart_0 : CC := (.seq (.block 1 (.seq (.ops [⟨(some p5), .mv (.c (.slice none 0 0)), none, 0⟩]) [p1, p3, p4, p5] (.seq (.seq (.ops [⟨(some p17), .fieldAddr 0 (.t p1), none, 0⟩, ⟨(some p18), .load1 (.t p17), none, 0⟩, ⟨(some p19), .mv (.c (.int .i64 0)), none, 0⟩]) [p1, p3, p4, p5, p18, p19] (.block 2 (.loop [p1, p3, p4, p5, p18, p19] c_judge_apart_3))) [p1, p3, p4, p5] c_judge_apart_2))) [p1, p3, p4] c_judge_apart_1)
def c_judge_apart : CC := (.seq (.ops [⟨(some p1), .box (.t p0), none, 0⟩, ⟨(some p2), .mv (.c (.map none)), none, 0⟩]) [p1] (.seq (.ops [⟨(some p14), .makeMap, none, 0⟩, ⟨(some p3), .mv (.t p14), none, 0⟩]) [p1, p3] (.seq (.ops [⟨(some p4), .mv (.c (.int .i64 1)), none, 0⟩]) [p1, p3, p4] (.block 0 (.loop [p1, p3, p4] c_judge_apart_0)))))
def f_judge_apart : CFunc := ⟨87, [.tmp p2], c_judge_apart, none⟩
def c_judge_teller_size_1 : CC := (.ops [⟨(some p13), .mv (.t p48), none, 0⟩])
def c_judge_teller_size_2 : CC := (.block 1 (.draw [⟨(some p50), .loadN 5 (.t p3), none, 0⟩, ⟨(some p51), .fieldAddr 1 (.t p11), none, 0⟩, ⟨(some p52), .load1 (.t p51), none, 0⟩, ⟨(some p53), .mv (.t p13), none, 0⟩, ⟨(some p54), .call (.c (.func (.func n_judge_teller_size) #[] #[])) [(.t p50), (.t p52), (.t p53)], none, 0⟩, ⟨(some p49), .load1 (.t p10), none, 0⟩, ⟨(some p55), .bin .add .other (.t p49) (.t p54), none, 1⟩, ⟨(some p56), .blt .min [(.t p55), (.c (.int .i64 3001))], none, 1⟩, ⟨none, .store 1 (.t p10) (.t p56), none, 1⟩]))
def r_judge_teller_size_1 : RC := ⟨(n_judge_teller_size * 1000 + 1), [p3, p10, p11], [p48], c_judge_teller_size_1, c_judge_teller_size_2⟩
def c_judge_teller_size_0 : CC := (.seq (.ops [⟨(some p63), .fieldAddr 4 (.t p3), none, 0⟩, ⟨(some p64), .load1 (.t p63), none, 0⟩, ⟨(some p65), .loadN 2 (.t p7), none, 0⟩, ⟨(some p66), .load1 (.t p10), none, 0⟩, ⟨none, .mapUpdate (.leaves [0, 1]) (.t p64) (.t p65) (.t p66), none, 0⟩]) [p10] (.seq (.ops [⟨(some p67), .load1 (.t p10), none, 0⟩, ⟨(some p6), .mv (.t p67), none, 0⟩]) [p6] .ret))
def c_judge_teller_size : CC := (.seq (.ops [⟨(some p3), .box (.t p0), none, 0⟩, ⟨(some p6), .mv (.c (.int .i64 0)), none, 0⟩]) [p1, p2, p3, p6] (.seq (.ops [⟨(some p14), .mv (.t p1), none, 0⟩, ⟨(some p15), .mv (.t p2), none, 0⟩, ⟨(some p16), .build [(.int .i64 0), (.int .i64 0)] [(0, 1, (.t p14)), (1, 1, (.t p15))], none, 0⟩, ⟨(some p7), .alloc [(.int .i64 0), (.int .i64 0)], none, 0⟩, ⟨none, .store 2 (.t p7) (.t p16), none, 0⟩]) [p1, p2, p3, p6, p7] (.seq (.seq (.ops [⟨(some p18), .fieldAddr 4 (.t p3), none, 0⟩, ⟨(some p19), .load1 (.t p18), none, 0⟩, ⟨(some p20), .loadN 2 (.t p7), none, 0⟩, ⟨(some p21), .lookup (.leaves [0, 1]) (.int .i64 0) true (.t p19) (.t p20), none, 0⟩, ⟨(some p17), .mv (.t p21), none, 0⟩, ⟨(some p22), .extract (.t p17) 0, none, 0⟩, ⟨(some p23), .extract (.t p17) 1, none, 0⟩, ⟨(some p8), .mv (.t p22), none, 0⟩, ⟨(some p9), .mv (.t p23), none, 0⟩]) [p1, p2, p3, p6, p7, p8, p9] (.seq (.ops [⟨(some p24), .mv (.t p9), none, 0⟩]) [p1, p2, p3, p6, p7, p8, p24] (.cond (.t p24) (.seq (.ops [⟨(some p25), .mv (.t p8), none, 0⟩, ⟨(some p6), .mv (.t p25), none, 0⟩]) [p6] .ret) .skip))) [p1, p2, p3, p6, p7] (.seq (.ops [⟨(some p10), .alloc [(.int .i64 0)], none, 0⟩, ⟨none, .store 1 (.t p10) (.c (.int .i64 1)), none, 0⟩]) [p1, p2, p3, p6, p7, p10] (.seq (.seq (.draw [⟨(some p27), .fieldAddr 0 (.t p3), none, 0⟩, ⟨(some p28), .load1 (.t p27), none, 0⟩, ⟨(some p29), .fieldAddr 1 (.t p3), none, 0⟩, ⟨(some p30), .loadN 3 (.t p29), none, 0⟩, ⟨(some p31), .mv (.t p1), none, 0⟩, ⟨(some p32), .mv (.t p2), none, 0⟩, ⟨(some p33), .fieldAddr 0 (.t p3), none, 0⟩, ⟨(some p34), .load1 (.t p33), none, 0⟩, ⟨(some p35), .loadN 2 (.t p7), none, 0⟩, ⟨(some p36), .lookup (.leaves [0, 1]) (.int .i64 0) false (.t p34) (.t p35), none, 0⟩, ⟨(some p37), .bin .sub .other (.t p36) (.c (.int .i64 1)), none, 0⟩, ⟨(some p38), .call (.c (.func (.func n_judge_rounds_first) #[] #[])) [(.t p28), (.t p30), (.t p31), (.t p32), (.t p37)], none, 0⟩, ⟨(some p26), .mv (.t p38), none, 1⟩, ⟨(some p39), .extract (.t p26) 0, none, 1⟩, ⟨(some p11), .alloc [(.int .i64 0), (.int .i64 0), (.int .i64 0)], none, 0⟩, ⟨none, .store 3 (.t p11) (.t p39), none, 1⟩, ⟨(some p40), .extract (.t p26) 1, none, 1⟩, ⟨(some p12), .mv (.t p40), none, 2⟩]) [p1, p2, p3, p6, p7, p10, p11, p12] (.seq (.ops [⟨(some p41), .mv (.t p12), none, 0⟩]) [p1, p2, p3, p6, p7, p10, p11, p41] (.cond (.t p41) (.seq (.ops [⟨none, .store 1 (.t p10) (.c (.int .i64 2)), none, 0⟩]) [p2, p3, p6, p7, p10, p11] (.seq (.ops [⟨(some p42), .fieldAddr 1 (.t p3), none, 0⟩, ⟨(some p43), .loadN 3 (.t p42), none, 0⟩, ⟨(some p44), .mv (.t p2), none, 0⟩, ⟨(some p45), .fieldAddr 2 (.t p11), none, 0⟩, ⟨(some p46), .load1 (.t p45), none, 0⟩, ⟨(some p47), .call (.c (.func (.func n_judge_leads) #[] #[])) [(.t p43), (.t p44), (.t p46)], none, 0⟩]) [p3, p6, p7, p10, p11, p47] (.block 0 (.rangeFunc (n_judge_teller_size * 1000 + 1) [p3, p10, p11] (.t p47) [p48] c_judge_teller_size_1 c_judge_teller_size_2)))) (.ops [⟨(some p57), .loadN 5 (.t p3), none, 0⟩, ⟨(some p58), .mv (.t p2), none, 0⟩, ⟨(some p59), .mv (.t p1), none, 0⟩, ⟨(some p60), .call (.c (.func (.func n_judge_teller_size) #[] #[])) [(.t p57), (.t p58), (.t p59)], none, 0⟩, ⟨(some p61), .bin .add .other (.c (.int .i64 1)) (.t p60), none, 0⟩, ⟨(some p62), .blt .min [(.t p61), (.c (.int .i64 3001))], none, 0⟩, ⟨none, .store 1 (.t p10) (.t p62), none, 0⟩])))) [p3, p7, p10] c_judge_teller_size_0)))))
def f_judge_teller_size : CFunc := ⟨68, [.tmp p6], c_judge_teller_size, none⟩
def c_judge_teller_formula_1 : CC := (.ops [⟨(some p10), .mv (.t p43), none, 0⟩])
def c_judge_teller_formula_2 : CC := (.block 1 (.draw2 [⟨(some p46), .loadN 5 (.t p3), none, 0⟩, ⟨(some p47), .fieldAddr 1 (.t p7), none, 0⟩, ⟨(some p48), .load1 (.t p47), none, 0⟩, ⟨(some p49), .mv (.t p10), none, 0⟩, ⟨(some p50), .call (.c (.func (.func n_judge_teller_formula) #[] #[])) [(.t p46), (.t p48), (.t p49)], none, 0⟩, ⟨(some p44), .fieldAddr 2 (.t p9), none, 0⟩, ⟨(some p45), .load1 (.t p44), none, 0⟩, ⟨(some p51), .blt .len [(.t p45)], none, 0⟩, ⟨(some p52), .buildSlice 1 3 [(.int .i64 0), (.int .i64 0), (.slice none 0 0)] [(0, (.c (.agg ⟨[(.int .i64 0), (.int .i64 0), (.slice none 0 0)]⟩)))], none, 0⟩, ⟨(some p53), .blt (.append 3 40) [(.t p45), (.t p52)], none, 1⟩, ⟨(some p54), .indexAddr 3 (.t p53) (.t p51), none, 2⟩, ⟨(some p55), .fieldAddr 2 (.t p9), none, 2⟩] ⟨none, .store 3 (.t p54) (.t p50), none, 0⟩ ⟨none, .store 1 (.t p55) (.t p53), none, 0⟩))
def r_judge_teller_formula_1 : RC := ⟨(n_judge_teller_formula * 1000 + 1), [p3, p7, p9], [p43], c_judge_teller_formula_1, c_judge_teller_formula_2⟩
def c_judge_teller_formula_0 : CC := (.seq (.ops [⟨(some p56), .fieldAddr 2 (.t p7), none, 0⟩, ⟨(some p57), .load1 (.t p56), none, 0⟩, ⟨(some p58), .loadN 3 (.t p9), none, 0⟩, ⟨(some p59), .buildSlice 1 3 [(.int .i64 0), (.int .i64 0), (.slice none 0 0)] [(0, (.t p58))], none, 0⟩, ⟨(some p60), .build [(.int .i64 0), (.int .i64 0), (.slice none 0 0)] [(0, 1, (.c (.int .i64 4))), (1, 1, (.t p57)), (2, 1, (.t p59))], none, 0⟩, ⟨none, .store 3 (.t p6) (.t p60), none, 0⟩]) [p6] .ret)
def c_judge_teller_formula : CC := (.seq (.ops [⟨(some p3), .box (.t p0), none, 0⟩, ⟨(some p6), .alloc [(.int .i64 0), (.int .i64 0), (.slice none 0 0)], none, 0⟩]) [p1, p2, p3, p6] (.seq (.draw [⟨(some p12), .fieldAddr 0 (.t p3), none, 0⟩, ⟨(some p13), .load1 (.t p12), none, 0⟩, ⟨(some p14), .fieldAddr 1 (.t p3), none, 0⟩, ⟨(some p15), .loadN 3 (.t p14), none, 0⟩, ⟨(some p16), .mv (.t p1), none, 0⟩, ⟨(some p17), .mv (.t p2), none, 0⟩, ⟨(some p18), .fieldAddr 0 (.t p3), none, 0⟩, ⟨(some p19), .load1 (.t p18), none, 0⟩, ⟨(some p20), .mv (.t p1), none, 0⟩, ⟨(some p21), .mv (.t p2), none, 0⟩, ⟨(some p22), .build [(.int .i64 0), (.int .i64 0)] [(0, 1, (.t p20)), (1, 1, (.t p21))], none, 0⟩, ⟨(some p23), .lookup (.leaves [0, 1]) (.int .i64 0) false (.t p19) (.t p22), none, 0⟩, ⟨(some p24), .bin .sub .other (.t p23) (.c (.int .i64 1)), none, 0⟩, ⟨(some p25), .call (.c (.func (.func n_judge_rounds_first) #[] #[])) [(.t p13), (.t p15), (.t p16), (.t p17), (.t p24)], none, 0⟩, ⟨(some p11), .mv (.t p25), none, 1⟩, ⟨(some p26), .extract (.t p11) 0, none, 1⟩, ⟨(some p7), .alloc [(.int .i64 0), (.int .i64 0), (.int .i64 0)], none, 0⟩, ⟨none, .store 3 (.t p7) (.t p26), none, 1⟩, ⟨(some p27), .extract (.t p11) 1, none, 1⟩, ⟨(some p8), .mv (.t p27), none, 2⟩]) [p1, p2, p3, p6, p7, p8] (.seq (.seq (.ops [⟨(some p28), .mv (.t p8), none, 0⟩, ⟨(some p29), .un .not (.t p28), none, 0⟩]) [p1, p2, p3, p6, p7, p29] (.cond (.t p29) (.seq (.ops [⟨(some p30), .loadN 5 (.t p3), none, 0⟩, ⟨(some p31), .mv (.t p2), none, 0⟩, ⟨(some p32), .mv (.t p1), none, 0⟩, ⟨(some p33), .call (.c (.func (.func n_judge_teller_formula) #[] #[])) [(.t p30), (.t p31), (.t p32)], none, 0⟩, ⟨(some p34), .buildSlice 1 3 [(.int .i64 0), (.int .i64 0), (.slice none 0 0)] [(0, (.t p33))], none, 0⟩, ⟨(some p35), .build [(.int .i64 0), (.int .i64 0), (.slice none 0 0)] [(0, 1, (.c (.int .i64 2))), (2, 1, (.t p34))], none, 0⟩, ⟨none, .store 3 (.t p6) (.t p35), none, 0⟩]) [p6] .ret) .skip)) [p2, p3, p6, p7] (.seq (.ops [⟨(some p36), .build [(.int .i64 0), (.int .i64 0), (.slice none 0 0)] [(0, 1, (.c (.int .i64 3)))], none, 0⟩, ⟨(some p9), .alloc [(.int .i64 0), (.int .i64 0), (.slice none 0 0)], none, 0⟩, ⟨none, .store 3 (.t p9) (.t p36), none, 0⟩]) [p2, p3, p6, p7, p9] (.seq (.seq (.ops [⟨(some p37), .fieldAddr 1 (.t p3), none, 0⟩, ⟨(some p38), .loadN 3 (.t p37), none, 0⟩, ⟨(some p39), .mv (.t p2), none, 0⟩, ⟨(some p40), .fieldAddr 2 (.t p7), none, 0⟩, ⟨(some p41), .load1 (.t p40), none, 0⟩, ⟨(some p42), .call (.c (.func (.func n_judge_leads) #[] #[])) [(.t p38), (.t p39), (.t p41)], none, 0⟩]) [p3, p6, p7, p9, p42] (.block 0 (.rangeFunc (n_judge_teller_formula * 1000 + 1) [p3, p7, p9] (.t p42) [p43] c_judge_teller_formula_1 c_judge_teller_formula_2))) [p6, p7, p9] c_judge_teller_formula_0)))))
def f_judge_teller_formula : CFunc := ⟨61, [.cell (some 3) p6], c_judge_teller_formula, none⟩
def c_judge_both : CC := (.seq (.ops [⟨(some p2), .box (.t p0), none, 0⟩, ⟨(some p3), .box (.t p1), none, 0⟩, ⟨(some p4), .mv (.c (.bool false)), none, 0⟩]) [p2, p3] (.seq (.ops [⟨(some p5), .loadN 3 (.t p2), none, 0⟩, ⟨(some p6), .call (.c (.func (.func n_judge_Check) #[] #[])) [(.t p5)], none, 0⟩, ⟨(some p7), .bin .eql .other (.t p6) (.c (.int .i64 0)), none, 0⟩, ⟨(some p8), .mv (.t p7), none, 0⟩, ⟨(some p9), .loadN 3 (.t p3), (some (p8, true)), 0⟩, ⟨(some p10), .call (.c (.func (.func n_judge_Check) #[] #[])) [(.t p9)], (some (p8, true)), 0⟩, ⟨(some p11), .bin .eql .other (.t p10) (.c (.int .i64 0)), (some (p8, true)), 0⟩, ⟨(some p12), .pick (.t p8) (.t p11) (.c (.bool false)), none, 0⟩, ⟨(some p13), .mv (.t p12), none, 0⟩, ⟨(some p14), .fieldAddr 1 (.t p2), (some (p13, true)), 0⟩, ⟨(some p15), .load1 (.t p14), (some (p13, true)), 0⟩, ⟨(some p16), .fieldAddr 1 (.t p3), (some (p13, true)), 0⟩, ⟨(some p17), .load1 (.t p16), (some (p13, true)), 0⟩, ⟨(some p18), .bin .eql .other (.t p15) (.t p17), (some (p13, true)), 0⟩, ⟨(some p19), .pick (.t p13) (.t p18) (.c (.bool false)), none, 0⟩, ⟨(some p4), .mv (.t p19), none, 0⟩]) [p4] .ret))
def f_judge_both : CFunc := ⟨20, [.tmp p4], c_judge_both, none⟩
def c_judge_alike_1 : CC := (.seq (.ops [⟨(some p25), .bin .lss .other (.t p24) (.t p23), none, 0⟩]) [p2, p5, p22, p23, p24, p25] (.seq (.cond (.t p25) .skip (.exit 0)) [p2, p5, p22, p23, p24] (.seq (.block 1 (.seq (.ops [⟨(some p26), .indexAddr 3 (.t p22) (.t p24), none, 0⟩, ⟨(some p27), .loadN 3 (.t p26), none, 0⟩, ⟨(some p7), .alloc [(.int .i64 0), (.int .i64 0), (.int .i64 0)], none, 0⟩, ⟨none, .store 3 (.t p7) (.t p27), none, 0⟩]) [p2, p5, p7, p22, p23, p24] (.ops [⟨(some p28), .fieldAddr 2 (.t p5), none, 0⟩, ⟨(some p29), .load1 (.t p28), none, 0⟩, ⟨(some p30), .fieldAddr 0 (.t p7), none, 0⟩, ⟨(some p31), .load1 (.t p30), none, 0⟩, ⟨(some p32), .fieldAddr 0 (.t p2), none, 0⟩, ⟨(some p33), .load1 (.t p32), none, 0⟩, ⟨(some p34), .bin .add .other (.t p31) (.t p33), none, 0⟩, ⟨(some p35), .fieldAddr 1 (.t p7), none, 0⟩, ⟨(some p36), .load1 (.t p35), none, 0⟩, ⟨(some p37), .fieldAddr 0 (.t p2), none, 0⟩, ⟨(some p38), .load1 (.t p37), none, 0⟩, ⟨(some p39), .bin .add .other (.t p36) (.t p38), none, 0⟩, ⟨(some p40), .fieldAddr 2 (.t p7), none, 0⟩, ⟨(some p41), .load1 (.t p40), none, 0⟩, ⟨(some p42), .build [(.int .i64 0), (.int .i64 0), (.int .i64 0)] [(0, 1, (.t p34)), (1, 1, (.t p39)), (2, 1, (.t p41))], none, 0⟩, ⟨(some p43), .buildSlice 1 3 [(.int .i64 0), (.int .i64 0), (.int .i64 0)] [(0, (.t p42))], none, 0⟩, ⟨(some p44), .blt (.append 3 24) [(.t p29), (.t p43)], none, 0⟩, ⟨(some p45), .fieldAddr 2 (.t p5), none, 0⟩, ⟨none, .store 1 (.t p45) (.t p44), none, 0⟩]))) [p2, p5, p22, p23, p24] (.ops [⟨(some p46), .bin .add .other (.t p24) (.c (.int .i64 1)), none, 0⟩, ⟨(some p24), .mv (.t p46), none, 0⟩]))))
def c_judge_alike_0 : CC := (.seq (.draw [⟨(some p48), .loadN 3 (.t p5), none, 0⟩, ⟨(some p49), .call (.c (.func (.func n_judge_apart) #[] #[])) [(.t p48)], none, 0⟩, ⟨(some p50), .fieldAddr 0 (.t p2), none, 0⟩, ⟨(some p51), .load1 (.t p50), none, 0⟩, ⟨(some p52), .build [(.int .i64 0), (.int .i64 0)] [(0, 1, (.c (.int .i64 0))), (1, 1, (.t p51))], none, 0⟩, ⟨(some p53), .lookup (.leaves [0, 1]) (.int .i64 0) true (.t p49) (.t p52), none, 1⟩, ⟨(some p47), .mv (.t p53), none, 1⟩, ⟨(some p54), .extract (.t p47) 0, none, 1⟩, ⟨(some p55), .extract (.t p47) 1, none, 1⟩, ⟨(some p8), .mv (.t p54), none, 1⟩, ⟨(some p9), .mv (.t p55), none, 1⟩]) [p9] (.seq (.ops [⟨(some p56), .mv (.t p9), none, 0⟩, ⟨(some p57), .un .not (.t p56), none, 0⟩, ⟨(some p4), .mv (.t p57), none, 0⟩]) [p4] .ret))
def c_judge_alike : CC := (.seq (.ops [⟨(some p2), .box (.t p0), none, 0⟩, ⟨(some p3), .box (.t p1), none, 0⟩, ⟨(some p4), .mv (.c (.bool false)), none, 0⟩]) [p2, p3] (.seq (.draw [⟨(some p17), .fieldAddr 2 (.t p2), none, 0⟩, ⟨(some p18), .load1 (.t p17), none, 0⟩, ⟨(some p19), .call (.c (.func (.func n_slices_Clone_api_JudgeEdge_api_JudgeEdge_) #[] #[])) [(.t p18)], none, 0⟩, ⟨(some p10), .fieldAddr 0 (.t p2), none, 0⟩, ⟨(some p11), .load1 (.t p10), none, 0⟩, ⟨(some p12), .fieldAddr 0 (.t p3), none, 0⟩, ⟨(some p13), .load1 (.t p12), none, 0⟩, ⟨(some p14), .bin .add .other (.t p11) (.t p13), none, 0⟩, ⟨(some p15), .fieldAddr 1 (.t p2), none, 0⟩, ⟨(some p16), .load1 (.t p15), none, 0⟩, ⟨(some p20), .build [(.int .i64 0), (.int .i64 0), (.slice none 0 0)] [(0, 1, (.t p14)), (1, 1, (.t p16)), (2, 1, (.t p19))], none, 1⟩, ⟨(some p5), .alloc [(.int .i64 0), (.int .i64 0), (.slice none 0 0)], none, 0⟩, ⟨none, .store 3 (.t p5) (.t p20), none, 1⟩]) [p2, p3, p5] (.seq (.seq (.ops [⟨(some p21), .fieldAddr 2 (.t p3), none, 0⟩, ⟨(some p22), .load1 (.t p21), none, 0⟩, ⟨(some p23), .blt .len [(.t p22)], none, 0⟩, ⟨(some p24), .mv (.c (.int .i64 0)), none, 0⟩]) [p2, p5, p22, p23, p24] (.block 0 (.loop [p2, p5, p22, p23, p24] c_judge_alike_1))) [p2, p5] c_judge_alike_0)))
def f_judge_alike : CFunc := ⟨58, [.tmp p4], c_judge_alike, none⟩
def c_judge_formed_1 : CC := (.cond (.t p26) (.ops [⟨(some p7), .mv (.c (.int .i64 1)), none, 0⟩]) (.seq (.ops [⟨(some p30), .bin .eql .other (.t p23) (.c (.int .i64 3)), none, 0⟩, ⟨(some p29), .mv (.t p30), none, 0⟩]) [p2, p3, p4, p7, p29] (.cond (.t p29) .skip (.seq (.ops [⟨(some p6), .mv (.c (.bool false)), none, 0⟩]) [p6] .ret))))
def c_judge_formed_3 : CC := (.seq (.ops [⟨(some p62), .bin .lss .other (.t p61) (.t p60), none, 0⟩]) [p2, p3, p59, p60, p61, p62] (.seq (.cond (.t p62) .skip (.exit 1)) [p2, p3, p59, p60, p61] (.seq (.block 2 (.seq (.ops [⟨(some p63), .indexAddr 3 (.t p59) (.t p61), none, 0⟩, ⟨(some p64), .loadN 3 (.t p63), none, 0⟩, ⟨(some p9), .alloc [(.int .i64 0), (.int .i64 0), (.slice none 0 0)], none, 0⟩, ⟨none, .store 3 (.t p9) (.t p64), none, 0⟩]) [p2, p3, p9, p59, p60, p61] (.seq (.ops [⟨(some p65), .loadN 3 (.t p3), none, 0⟩, ⟨(some p66), .loadN 3 (.t p9), none, 0⟩, ⟨(some p67), .mv (.t p2), none, 0⟩, ⟨(some p68), .call (.c (.func (.func n_judge_formed) #[] #[])) [(.t p65), (.t p66), (.t p67)], none, 0⟩, ⟨(some p69), .un .not (.t p68), none, 0⟩]) [p2, p3, p59, p60, p61, p69] (.cond (.t p69) (.seq (.ops [⟨(some p6), .mv (.c (.bool false)), none, 0⟩]) [p6] .ret) .skip)))) [p2, p3, p59, p60, p61] (.ops [⟨(some p70), .bin .add .other (.t p61) (.c (.int .i64 1)), none, 0⟩, ⟨(some p61), .mv (.t p70), none, 0⟩]))))
def c_judge_formed_2 : CC := (.seq (.ops [⟨(some p6), .mv (.c (.bool true)), none, 0⟩]) [p6] .ret)
def c_judge_formed_0 : CC := (.seq (.seq (.ops [⟨(some p31), .fieldAddr 2 (.t p4), none, 0⟩, ⟨(some p32), .load1 (.t p31), none, 0⟩, ⟨(some p33), .blt .len [(.t p32)], none, 0⟩, ⟨(some p34), .mv (.t p7), none, 0⟩, ⟨(some p35), .bin .neq .other (.t p33) (.t p34), none, 0⟩, ⟨(some p36), .mv (.t p35), none, 0⟩, ⟨(some p37), .fieldAddr 1 (.t p4), (some (p36, false)), 0⟩, ⟨(some p38), .load1 (.t p37), (some (p36, false)), 0⟩, ⟨(some p39), .bin .neq .other (.t p38) (.c (.int .i64 0)), (some (p36, false)), 0⟩, ⟨(some p40), .mv (.t p39), (some (p36, false)), 0⟩, ⟨(some p41), .fieldAddr 0 (.t p4), (some (p40, true)), 0⟩, ⟨(some p42), .load1 (.t p41), (some (p40, true)), 0⟩, ⟨(some p43), .bin .neq .other (.t p42) (.c (.int .i64 4)), (some (p40, true)), 0⟩, ⟨(some p44), .pick (.t p40) (.t p43) (.c (.bool false)), (some (p36, false)), 0⟩, ⟨(some p45), .pick (.t p36) (.c (.bool true)) (.t p44), none, 0⟩, ⟨(some p46), .mv (.t p45), none, 0⟩, ⟨(some p47), .fieldAddr 1 (.t p4), (some (p46, false)), 0⟩, ⟨(some p48), .load1 (.t p47), (some (p46, false)), 0⟩, ⟨(some p49), .bin .lss .other (.t p48) (.c (.int .i64 0)), (some (p46, false)), 0⟩, ⟨(some p50), .pick (.t p46) (.c (.bool true)) (.t p49), none, 0⟩, ⟨(some p51), .mv (.t p50), none, 0⟩, ⟨(some p52), .fieldAddr 1 (.t p4), (some (p51, false)), 0⟩, ⟨(some p53), .load1 (.t p52), (some (p51, false)), 0⟩, ⟨(some p54), .fieldAddr 1 (.t p3), (some (p51, false)), 0⟩, ⟨(some p55), .load1 (.t p54), (some (p51, false)), 0⟩, ⟨(some p56), .bin .geq .other (.t p53) (.t p55), (some (p51, false)), 0⟩, ⟨(some p57), .pick (.t p51) (.c (.bool true)) (.t p56), none, 0⟩]) [p2, p3, p4, p57] (.cond (.t p57) (.seq (.ops [⟨(some p6), .mv (.c (.bool false)), none, 0⟩]) [p6] .ret) .skip)) [p2, p3, p4] (.seq (.seq (.ops [⟨(some p58), .fieldAddr 2 (.t p4), none, 0⟩, ⟨(some p59), .load1 (.t p58), none, 0⟩, ⟨(some p60), .blt .len [(.t p59)], none, 0⟩, ⟨(some p61), .mv (.c (.int .i64 0)), none, 0⟩]) [p2, p3, p59, p60, p61] (.block 1 (.loop [p2, p3, p59, p60, p61] c_judge_formed_3))) [] c_judge_formed_2))
def c_judge_formed : CC := (.seq (.ops [⟨(some p3), .box (.t p0), none, 0⟩, ⟨(some p4), .box (.t p1), none, 0⟩, ⟨(some p6), .mv (.c (.bool false)), none, 0⟩]) [p2, p3, p4] (.seq (.seq (.ops [⟨(some p10), .mv (.t p2), none, 0⟩, ⟨(some p11), .nilCheck (.t p10), none, 0⟩, ⟨(some p12), .load1 (.t p11), none, 0⟩, ⟨(some p13), .bin .sub .other (.t p12) (.c (.int .i64 1)), none, 0⟩, ⟨(some p14), .nilCheck (.t p10), none, 0⟩, ⟨none, .store 1 (.t p14) (.t p13), none, 0⟩]) [p2, p3, p4] (.seq (.ops [⟨(some p15), .mv (.t p2), none, 0⟩, ⟨(some p16), .nilCheck (.t p15), none, 0⟩, ⟨(some p17), .load1 (.t p16), none, 0⟩, ⟨(some p18), .bin .lss .other (.t p17) (.c (.int .i64 0)), none, 0⟩]) [p2, p3, p4, p18] (.cond (.t p18) (.seq (.ops [⟨(some p6), .mv (.c (.bool false)), none, 0⟩]) [p6] .ret) .skip))) [p2, p3, p4] (.seq (.ops [⟨(some p19), .fieldAddr 2 (.t p4), none, 0⟩, ⟨(some p20), .load1 (.t p19), none, 0⟩, ⟨(some p21), .blt .len [(.t p20)], none, 0⟩, ⟨(some p7), .mv (.t p21), none, 0⟩]) [p2, p3, p4, p7] (.seq (.seq (.ops [⟨(some p22), .fieldAddr 0 (.t p4), none, 0⟩, ⟨(some p23), .load1 (.t p22), none, 0⟩]) [p2, p3, p4, p7, p23] (.block 0 (.seq (.ops [⟨(some p25), .bin .eql .other (.t p23) (.c (.int .i64 1)), none, 0⟩, ⟨(some p24), .mv (.t p25), none, 0⟩]) [p2, p3, p4, p7, p23, p24] (.cond (.t p24) (.ops [⟨(some p7), .mv (.c (.int .i64 0)), none, 0⟩]) (.seq (.seq (.ops [⟨(some p27), .bin .eql .other (.t p23) (.c (.int .i64 2)), none, 0⟩, ⟨(some p26), .mv (.t p27), none, 0⟩]) [p2, p3, p4, p7, p23, p26] (.cond (.t p26) .skip (.ops [⟨(some p28), .bin .eql .other (.t p23) (.c (.int .i64 4)), none, 0⟩, ⟨(some p26), .mv (.t p28), none, 0⟩]))) [p2, p3, p4, p7, p23, p26] c_judge_formed_1))))) [p2, p3, p4, p7] c_judge_formed_0))))
def f_judge_formed : CFunc := ⟨71, [.tmp p6], c_judge_formed, none⟩
def c_judge_holds_1 : CC := (.seq (.ops [⟨(some p68), .bin .lss .other (.t p67) (.t p66), none, 0⟩]) [p5, p65, p66, p67, p68] (.seq (.cond (.t p68) .skip (.exit 7)) [p5, p65, p66, p67] (.seq (.block 8 (.seq (.ops [⟨(some p69), .mv (.t p67), none, 0⟩, ⟨(some p70), .indexAddr 1 (.t p65) (.t p67), none, 0⟩, ⟨(some p71), .load1 (.t p70), none, 0⟩, ⟨(some p6), .mv (.t p69), none, 0⟩, ⟨(some p7), .mv (.t p71), none, 0⟩]) [p5, p6, p7, p65, p66, p67] (.ops [⟨(some p72), .mv (.t p5), none, 0⟩, ⟨(some p73), .mv (.t p6), none, 0⟩, ⟨(some p74), .mv (.t p7), none, 0⟩, ⟨(some p75), .un .not (.t p74), none, 0⟩, ⟨(some p76), .indexAddr 1 (.t p72) (.t p73), none, 0⟩, ⟨none, .store 1 (.t p76) (.t p75), none, 0⟩]))) [p5, p65, p66, p67] (.ops [⟨(some p77), .bin .add .other (.t p67) (.c (.int .i64 1)), none, 0⟩, ⟨(some p67), .mv (.t p77), none, 0⟩]))))
def c_judge_holds_2 : CC := (.seq (.ops [⟨(some p90), .bin .lss .other (.t p89) (.t p88), none, 0⟩]) [p3, p5, p8, p87, p88, p89, p90] (.seq (.cond (.t p90) .skip (.exit 9)) [p3, p5, p8, p87, p88, p89] (.seq (.block 10 (.seq (.ops [⟨(some p91), .indexAddr 3 (.t p87) (.t p89), none, 0⟩, ⟨(some p92), .loadN 3 (.t p91), none, 0⟩, ⟨(some p10), .alloc [(.int .i64 0), (.int .i64 0), (.int .i64 0)], none, 0⟩, ⟨none, .store 3 (.t p10) (.t p92), none, 0⟩]) [p3, p5, p8, p10, p87, p88, p89] (.draw [⟨(some p93), .mv (.t p5), none, 0⟩, ⟨(some p94), .fieldAddr 0 (.t p10), none, 0⟩, ⟨(some p95), .load1 (.t p94), none, 0⟩, ⟨(some p96), .mv (.t p5), none, 0⟩, ⟨(some p97), .fieldAddr 0 (.t p10), none, 0⟩, ⟨(some p98), .load1 (.t p97), none, 0⟩, ⟨(some p99), .indexAddr 1 (.t p96) (.t p98), none, 0⟩, ⟨(some p100), .load1 (.t p99), none, 0⟩, ⟨(some p101), .mv (.t p100), none, 0⟩, ⟨(some p102), .fieldAddr 2 (.t p10), (some (p101, false)), 0⟩, ⟨(some p103), .load1 (.t p102), (some (p101, false)), 0⟩, ⟨(some p104), .fieldAddr 1 (.t p3), (some (p101, false)), 0⟩, ⟨(some p105), .load1 (.t p104), (some (p101, false)), 0⟩, ⟨(some p106), .bin .eql .other (.t p103) (.t p105), (some (p101, false)), 0⟩, ⟨(some p107), .mv (.t p106), (some (p101, false)), 0⟩, ⟨(some p108), .mv (.t p8), (some (p107, true)), 0⟩, ⟨(some p109), .fieldAddr 1 (.t p10), (some (p107, true)), 0⟩, ⟨(some p110), .load1 (.t p109), (some (p107, true)), 0⟩, ⟨(some p111), .indexAddr 1 (.t p108) (.t p110), (some (p107, true)), 0⟩, ⟨(some p112), .load1 (.t p111), (some (p107, true)), 0⟩, ⟨(some p113), .pick (.t p107) (.t p112) (.c (.bool false)), (some (p101, false)), 0⟩, ⟨(some p114), .pick (.t p101) (.c (.bool true)) (.t p113), none, 0⟩, ⟨(some p115), .indexAddr 1 (.t p93) (.t p95), none, 0⟩, ⟨none, .store 1 (.t p115) (.t p114), none, 0⟩]))) [p3, p5, p8, p87, p88, p89] (.ops [⟨(some p116), .bin .add .other (.t p89) (.c (.int .i64 1)), none, 0⟩, ⟨(some p89), .mv (.t p116), none, 0⟩]))))
def c_judge_holds_4 : CC := (.seq (.ops [⟨(some p24), .bin .lss .other (.t p23) (.t p22), none, 0⟩]) [p2, p3, p5, p22, p23, p24] (.seq (.cond (.t p24) .skip (.exit 1)) [p2, p3, p5, p22, p23] (.seq (.block 2 (.seq (.ops [⟨(some p25), .mv (.t p23), none, 0⟩, ⟨(some p11), .mv (.t p25), none, 0⟩]) [p2, p3, p5, p11, p22, p23] (.ops [⟨(some p26), .mv (.t p5), none, 0⟩, ⟨(some p27), .mv (.t p11), none, 0⟩, ⟨(some p28), .indexAddr 1 (.t p26) (.t p27), none, 0⟩, ⟨none, .store 1 (.t p28) (.c (.bool true)), none, 0⟩]))) [p2, p3, p5, p22, p23] (.ops [⟨(some p29), .bin .add .other (.t p23) (.c (.int .i64 1)), none, 0⟩, ⟨(some p23), .mv (.t p29), none, 0⟩]))))
def c_judge_holds_7 : CC := (.seq (.ops [⟨(some p42), .bin .lss .other (.t p41) (.t p40), none, 0⟩]) [p2, p5, p31, p32, p33, p39, p40, p41, p42] (.seq (.cond (.t p42) .skip (.exit 5)) [p2, p5, p31, p32, p33, p39, p40, p41] (.seq (.block 6 (.seq (.ops [⟨(some p43), .mv (.t p41), none, 0⟩, ⟨(some p44), .indexAddr 1 (.t p39) (.t p41), none, 0⟩, ⟨(some p45), .load1 (.t p44), none, 0⟩, ⟨(some p14), .mv (.t p43), none, 0⟩, ⟨(some p15), .mv (.t p45), none, 0⟩]) [p2, p5, p14, p15, p31, p32, p33, p39, p40, p41] (.ops [⟨(some p46), .mv (.t p5), none, 0⟩, ⟨(some p47), .mv (.t p14), none, 0⟩, ⟨(some p48), .mv (.t p5), none, 0⟩, ⟨(some p49), .mv (.t p14), none, 0⟩, ⟨(some p50), .indexAddr 1 (.t p48) (.t p49), none, 0⟩, ⟨(some p51), .load1 (.t p50), none, 0⟩, ⟨(some p52), .mv (.t p51), none, 0⟩, ⟨(some p53), .mv (.t p15), (some (p52, true)), 0⟩, ⟨(some p54), .pick (.t p52) (.t p53) (.c (.bool false)), none, 0⟩, ⟨(some p55), .indexAddr 1 (.t p46) (.t p47), none, 0⟩, ⟨none, .store 1 (.t p55) (.t p54), none, 0⟩]))) [p2, p5, p31, p32, p33, p39, p40, p41] (.ops [⟨(some p56), .bin .add .other (.t p41) (.c (.int .i64 1)), none, 0⟩, ⟨(some p41), .mv (.t p56), none, 0⟩]))))
def c_judge_holds_6 : CC := (.ops [⟨(some p57), .bin .add .other (.t p33) (.c (.int .i64 1)), none, 0⟩, ⟨(some p33), .mv (.t p57), none, 0⟩])
def c_judge_holds_5 : CC := (.seq (.ops [⟨(some p34), .bin .lss .other (.t p33) (.t p32), none, 0⟩]) [p2, p5, p31, p32, p33, p34] (.seq (.cond (.t p34) .skip (.exit 3)) [p2, p5, p31, p32, p33] (.seq (.block 4 (.seq (.ops [⟨(some p35), .indexAddr 3 (.t p31) (.t p33), none, 0⟩, ⟨(some p36), .loadN 3 (.t p35), none, 0⟩, ⟨(some p13), .alloc [(.int .i64 0), (.int .i64 0), (.slice none 0 0)], none, 0⟩, ⟨none, .store 3 (.t p13) (.t p36), none, 0⟩]) [p2, p5, p13, p31, p32, p33] (.seq (.ops [⟨(some p37), .loadN 3 (.t p2), none, 0⟩, ⟨(some p38), .loadN 3 (.t p13), none, 0⟩, ⟨(some p39), .call (.c (.func (.func n_judge_holds) #[] #[])) [(.t p37), (.t p38)], none, 0⟩, ⟨(some p40), .blt .len [(.t p39)], none, 0⟩, ⟨(some p41), .mv (.c (.int .i64 0)), none, 0⟩]) [p2, p5, p31, p32, p33, p39, p40, p41] (.block 5 (.loop [p2, p5, p31, p32, p33, p39, p40, p41] c_judge_holds_7))))) [p2, p5, p31, p32, p33] c_judge_holds_6)))
def c_judge_holds_3 : CC := (.seq (.ops [⟨(some p30), .fieldAddr 2 (.t p3), none, 0⟩, ⟨(some p31), .load1 (.t p30), none, 0⟩, ⟨(some p32), .blt .len [(.t p31)], none, 0⟩, ⟨(some p33), .mv (.c (.int .i64 0)), none, 0⟩]) [p2, p5, p31, p32, p33] (.block 3 (.loop [p2, p5, p31, p32, p33] c_judge_holds_5)))
def c_judge_holds_0 : CC := (.seq (.ops [⟨(some p117), .mv (.t p5), none, 0⟩, ⟨(some p4), .mv (.t p117), none, 0⟩]) [p4] .ret)
def c_judge_holds : CC := (.seq (.ops [⟨(some p2), .box (.t p0), none, 0⟩, ⟨(some p3), .box (.t p1), none, 0⟩, ⟨(some p4), .mv (.c (.slice none 0 0)), none, 0⟩]) [p2, p3] (.seq (.ops [⟨(some p16), .fieldAddr 0 (.t p2), none, 0⟩, ⟨(some p17), .load1 (.t p16), none, 0⟩, ⟨(some p18), .makeSlice 1 1 [(.bool false)] (.t p17) (.t p17), none, 0⟩, ⟨(some p5), .mv (.t p18), none, 0⟩]) [p2, p3, p5] (.seq (.seq (.ops [⟨(some p19), .fieldAddr 0 (.t p3), none, 0⟩, ⟨(some p20), .load1 (.t p19), none, 0⟩]) [p2, p3, p5, p20] (.block 0 (.seq (.ops [⟨(some p59), .bin .eql .other (.t p20) (.c (.int .i64 2)), none, 0⟩, ⟨(some p58), .mv (.t p59), none, 0⟩]) [p2, p3, p5, p20, p58] (.cond (.t p58) (.seq (.draw [⟨(some p60), .loadN 3 (.t p2), none, 0⟩, ⟨(some p61), .fieldAddr 2 (.t p3), none, 0⟩, ⟨(some p62), .load1 (.t p61), none, 0⟩, ⟨(some p63), .indexAddr 3 (.t p62) (.c (.int .i64 0)), none, 0⟩, ⟨(some p64), .loadN 3 (.t p63), none, 0⟩, ⟨(some p65), .call (.c (.func (.func n_judge_holds) #[] #[])) [(.t p60), (.t p64)], none, 0⟩, ⟨(some p66), .blt .len [(.t p65)], none, 1⟩, ⟨(some p67), .mv (.c (.int .i64 0)), none, 0⟩]) [p5, p65, p66, p67] (.block 7 (.loop [p5, p65, p66, p67] c_judge_holds_1))) (.seq (.ops [⟨(some p79), .bin .eql .other (.t p20) (.c (.int .i64 4)), none, 0⟩, ⟨(some p78), .mv (.t p79), none, 0⟩]) [p2, p3, p5, p78] (.cond (.t p78) (.seq (.draw [⟨(some p80), .loadN 3 (.t p2), none, 0⟩, ⟨(some p81), .fieldAddr 2 (.t p3), none, 0⟩, ⟨(some p82), .load1 (.t p81), none, 0⟩, ⟨(some p83), .indexAddr 3 (.t p82) (.c (.int .i64 0)), none, 0⟩, ⟨(some p84), .loadN 3 (.t p83), none, 0⟩, ⟨(some p85), .call (.c (.func (.func n_judge_holds) #[] #[])) [(.t p80), (.t p84)], none, 0⟩, ⟨(some p8), .mv (.t p85), none, 1⟩]) [p2, p3, p5, p8] (.seq (.ops [⟨(some p86), .fieldAddr 2 (.t p2), none, 0⟩, ⟨(some p87), .load1 (.t p86), none, 0⟩, ⟨(some p88), .blt .len [(.t p87)], none, 0⟩, ⟨(some p89), .mv (.c (.int .i64 0)), none, 0⟩]) [p3, p5, p8, p87, p88, p89] (.block 9 (.loop [p3, p5, p8, p87, p88, p89] c_judge_holds_2)))) (.seq (.seq (.ops [⟨(some p21), .mv (.t p5), none, 0⟩, ⟨(some p22), .blt .len [(.t p21)], none, 0⟩, ⟨(some p23), .mv (.c (.int .i64 0)), none, 0⟩]) [p2, p3, p5, p22, p23] (.block 1 (.loop [p2, p3, p5, p22, p23] c_judge_holds_4))) [p2, p3, p5] c_judge_holds_3))))))) [p5] c_judge_holds_0)))
def f_judge_holds : CFunc := ⟨118, [.tmp p4], c_judge_holds, none⟩
def c_cabotageref22_formula_2 : CC := (.seq (.seq (.ops [⟨(some p65), .mv (.t p7), none, 0⟩, ⟨(some p66), .fieldAddr 2 (.t p4), none, 0⟩, ⟨(some p67), .load1 (.t p66), none, 0⟩, ⟨(some p68), .blt .len [(.t p67)], none, 0⟩, ⟨(some p69), .bin .lss .other (.t p65) (.t p68), none, 0⟩]) [p2, p3, p4, p7, p69] (.cond (.t p69) .skip (.exit 1))) [p2, p3, p4, p7] (.seq (.block 2 (.seq (.draw [⟨(some p72), .loadN 3 (.t p3), none, 0⟩, ⟨(some p73), .fieldAddr 2 (.t p4), none, 0⟩, ⟨(some p74), .load1 (.t p73), none, 0⟩, ⟨(some p75), .mv (.t p7), none, 0⟩, ⟨(some p76), .indexAddr 3 (.t p74) (.t p75), none, 0⟩, ⟨(some p77), .loadN 3 (.t p76), none, 0⟩, ⟨(some p78), .mv (.t p2), none, 0⟩, ⟨(some p79), .call (.c (.func (.func n_cabotageref22_formula) #[] #[])) [(.t p72), (.t p77), (.t p78)], none, 0⟩, ⟨(some p80), .un .not (.t p79), none, 1⟩]) [p2, p3, p4, p7, p80] (.cond (.t p80) (.seq (.ops [⟨(some p6), .mv (.c (.bool false)), none, 0⟩]) [p6] .ret) .skip))) [p2, p3, p4, p7] (.ops [⟨(some p70), .mv (.t p7), none, 0⟩, ⟨(some p71), .bin .add .other (.t p70) (.c (.int .i64 1)), none, 0⟩, ⟨(some p7), .mv (.t p71), none, 0⟩])))
def c_cabotageref22_formula_1 : CC := (.seq (.ops [⟨(some p6), .mv (.c (.bool true)), none, 0⟩]) [p6] .ret)
def c_cabotageref22_formula_0 : CC := (.seq (.seq (.ops [⟨(some p7), .mv (.c (.int .i64 0)), none, 0⟩]) [p2, p3, p4, p7] (.block 1 (.loop [p2, p3, p4, p7] c_cabotageref22_formula_2))) [] c_cabotageref22_formula_1)
def c_cabotageref22_formula : CC := (.seq (.ops [⟨(some p3), .box (.t p0), none, 0⟩, ⟨(some p4), .box (.t p1), none, 0⟩, ⟨(some p6), .mv (.c (.bool false)), none, 0⟩]) [p2, p3, p4] (.seq (.ops [⟨(some p8), .mv (.t p2), none, 0⟩, ⟨(some p9), .mv (.t p2), none, 0⟩, ⟨(some p10), .nilCheck (.t p9), none, 0⟩, ⟨(some p11), .load1 (.t p10), none, 0⟩, ⟨(some p12), .bin .sub .other (.t p11) (.c (.int .i64 1)), none, 0⟩, ⟨(some p13), .nilCheck (.t p8), none, 0⟩, ⟨none, .store 1 (.t p13) (.t p12), none, 0⟩]) [p2, p3, p4] (.seq (.seq (.ops [⟨(some p14), .mv (.t p2), none, 0⟩, ⟨(some p15), .nilCheck (.t p14), none, 0⟩, ⟨(some p16), .load1 (.t p15), none, 0⟩, ⟨(some p17), .bin .lss .other (.t p16) (.c (.int .i64 0)), none, 0⟩]) [p2, p3, p4, p17] (.cond (.t p17) (.seq (.ops [⟨(some p6), .mv (.c (.bool false)), none, 0⟩]) [p6] .ret) .skip)) [p2, p3, p4] (.seq (.seq (.ops [⟨(some p18), .fieldAddr 0 (.t p4), none, 0⟩, ⟨(some p19), .load1 (.t p18), none, 0⟩]) [p2, p3, p4, p19] (.block 0 (.seq (.ops [⟨(some p21), .bin .eql .other (.t p19) (.c (.int .i64 1)), none, 0⟩, ⟨(some p20), .mv (.t p21), none, 0⟩]) [p2, p3, p4, p19, p20] (.cond (.t p20) (.seq (.ops [⟨(some p22), .fieldAddr 2 (.t p4), none, 0⟩, ⟨(some p23), .load1 (.t p22), none, 0⟩, ⟨(some p24), .blt .len [(.t p23)], none, 0⟩, ⟨(some p25), .bin .eql .other (.t p24) (.c (.int .i64 0)), none, 0⟩, ⟨(some p26), .mv (.t p25), none, 0⟩, ⟨(some p27), .fieldAddr 1 (.t p4), (some (p26, true)), 0⟩, ⟨(some p28), .load1 (.t p27), (some (p26, true)), 0⟩, ⟨(some p29), .bin .eql .other (.t p28) (.c (.int .i64 0)), (some (p26, true)), 0⟩, ⟨(some p30), .pick (.t p26) (.t p29) (.c (.bool false)), none, 0⟩, ⟨(some p6), .mv (.t p30), none, 0⟩]) [p6] .ret) (.seq (.ops [⟨(some p32), .bin .eql .other (.t p19) (.c (.int .i64 2)), none, 0⟩, ⟨(some p31), .mv (.t p32), none, 0⟩]) [p2, p3, p4, p19, p31] (.cond (.t p31) (.seq (.ops [⟨(some p33), .fieldAddr 2 (.t p4), none, 0⟩, ⟨(some p34), .load1 (.t p33), none, 0⟩, ⟨(some p35), .blt .len [(.t p34)], none, 0⟩, ⟨(some p36), .bin .neq .other (.t p35) (.c (.int .i64 1)), none, 0⟩, ⟨(some p37), .mv (.t p36), none, 0⟩, ⟨(some p38), .fieldAddr 1 (.t p4), (some (p37, false)), 0⟩, ⟨(some p39), .load1 (.t p38), (some (p37, false)), 0⟩, ⟨(some p40), .bin .neq .other (.t p39) (.c (.int .i64 0)), (some (p37, false)), 0⟩, ⟨(some p41), .pick (.t p37) (.c (.bool true)) (.t p40), none, 0⟩]) [p2, p3, p4, p41] (.cond (.t p41) (.seq (.ops [⟨(some p6), .mv (.c (.bool false)), none, 0⟩]) [p6] .ret) .skip)) (.seq (.ops [⟨(some p43), .bin .eql .other (.t p19) (.c (.int .i64 3)), none, 0⟩, ⟨(some p42), .mv (.t p43), none, 0⟩]) [p2, p3, p4, p19, p42] (.cond (.t p42) (.seq (.ops [⟨(some p44), .fieldAddr 1 (.t p4), none, 0⟩, ⟨(some p45), .load1 (.t p44), none, 0⟩, ⟨(some p46), .bin .neq .other (.t p45) (.c (.int .i64 0)), none, 0⟩]) [p2, p3, p4, p46] (.cond (.t p46) (.seq (.ops [⟨(some p6), .mv (.c (.bool false)), none, 0⟩]) [p6] .ret) .skip)) (.seq (.ops [⟨(some p48), .bin .eql .other (.t p19) (.c (.int .i64 4)), none, 0⟩, ⟨(some p47), .mv (.t p48), none, 0⟩]) [p2, p3, p4, p47] (.cond (.t p47) (.seq (.ops [⟨(some p49), .fieldAddr 2 (.t p4), none, 0⟩, ⟨(some p50), .load1 (.t p49), none, 0⟩, ⟨(some p51), .blt .len [(.t p50)], none, 0⟩, ⟨(some p52), .bin .neq .other (.t p51) (.c (.int .i64 1)), none, 0⟩, ⟨(some p53), .mv (.t p52), none, 0⟩, ⟨(some p54), .fieldAddr 1 (.t p4), (some (p53, false)), 0⟩, ⟨(some p55), .load1 (.t p54), (some (p53, false)), 0⟩, ⟨(some p56), .bin .lss .other (.t p55) (.c (.int .i64 0)), (some (p53, false)), 0⟩, ⟨(some p57), .pick (.t p53) (.c (.bool true)) (.t p56), none, 0⟩, ⟨(some p58), .mv (.t p57), none, 0⟩, ⟨(some p59), .fieldAddr 1 (.t p4), (some (p58, false)), 0⟩, ⟨(some p60), .load1 (.t p59), (some (p58, false)), 0⟩, ⟨(some p61), .fieldAddr 1 (.t p3), (some (p58, false)), 0⟩, ⟨(some p62), .load1 (.t p61), (some (p58, false)), 0⟩, ⟨(some p63), .bin .geq .other (.t p60) (.t p62), (some (p58, false)), 0⟩, ⟨(some p64), .pick (.t p58) (.c (.bool true)) (.t p63), none, 0⟩]) [p2, p3, p4, p64] (.cond (.t p64) (.seq (.ops [⟨(some p6), .mv (.c (.bool false)), none, 0⟩]) [p6] .ret) .skip)) (.seq (.ops [⟨(some p6), .mv (.c (.bool false)), none, 0⟩]) [p6] .ret))))))))))) [p2, p3, p4] c_cabotageref22_formula_0))))
def f_cabotageref22_formula : CFunc := ⟨81, [.tmp p6], c_cabotageref22_formula, none⟩
def c_cabotageref22_holdsIn_1 : CC := (.seq (.seq (.ops [⟨(some p15), .mv (.t p6), none, 0⟩, ⟨(some p16), .mv (.t p5), none, 0⟩, ⟨(some p17), .blt .len [(.t p16)], none, 0⟩, ⟨(some p18), .bin .lss .other (.t p15) (.t p17), none, 0⟩]) [p2, p3, p5, p6, p18] (.cond (.t p18) .skip (.exit 0))) [p2, p3, p5, p6] (.seq (.block 1 (.ops [⟨(some p21), .mv (.t p5), none, 0⟩, ⟨(some p22), .mv (.t p6), none, 0⟩, ⟨(some p23), .indexAddr 1 (.t p21) (.t p22), none, 0⟩, ⟨none, .store 1 (.t p23) (.c (.bool true)), none, 0⟩])) [p2, p3, p5, p6] (.ops [⟨(some p19), .mv (.t p6), none, 0⟩, ⟨(some p20), .bin .add .other (.t p19) (.c (.int .i64 1)), none, 0⟩, ⟨(some p6), .mv (.t p20), none, 0⟩])))
def c_cabotageref22_holdsIn_7 : CC := (.ops [⟨(some p42), .mv (.t p9), none, 0⟩, ⟨(some p43), .bin .add .other (.t p42) (.c (.int .i64 1)), none, 0⟩, ⟨(some p9), .mv (.t p43), none, 0⟩])
def c_cabotageref22_holdsIn_6 : CC := (.seq (.seq (.ops [⟨(some p38), .mv (.t p9), none, 0⟩, ⟨(some p39), .mv (.t p5), none, 0⟩, ⟨(some p40), .blt .len [(.t p39)], none, 0⟩, ⟨(some p41), .bin .lss .other (.t p38) (.t p40), none, 0⟩]) [p2, p3, p5, p7, p8, p9, p41] (.cond (.t p41) .skip (.exit 4))) [p2, p3, p5, p7, p8, p9] (.seq (.block 5 (.seq (.ops [⟨(some p44), .fieldAddr 0 (.t p3), none, 0⟩, ⟨(some p45), .load1 (.t p44), none, 0⟩]) [p2, p3, p5, p7, p8, p9, p45] (.block 6 (.seq (.ops [⟨(some p47), .bin .eql .other (.t p45) (.c (.int .i64 2)), none, 0⟩, ⟨(some p46), .mv (.t p47), none, 0⟩]) [p2, p3, p5, p7, p8, p9, p45, p46] (.cond (.t p46) (.ops [⟨(some p48), .mv (.t p5), none, 0⟩, ⟨(some p49), .mv (.t p9), none, 0⟩, ⟨(some p50), .mv (.t p8), none, 0⟩, ⟨(some p51), .mv (.t p9), none, 0⟩, ⟨(some p52), .indexAddr 1 (.t p50) (.t p51), none, 0⟩, ⟨(some p53), .load1 (.t p52), none, 0⟩, ⟨(some p54), .un .not (.t p53), none, 0⟩, ⟨(some p55), .indexAddr 1 (.t p48) (.t p49), none, 0⟩, ⟨none, .store 1 (.t p55) (.t p54), none, 0⟩]) (.seq (.ops [⟨(some p57), .bin .eql .other (.t p45) (.c (.int .i64 3)), none, 0⟩, ⟨(some p56), .mv (.t p57), none, 0⟩]) [p2, p3, p5, p7, p8, p9, p45, p56] (.cond (.t p56) (.ops [⟨(some p58), .mv (.t p5), none, 0⟩, ⟨(some p59), .mv (.t p9), none, 0⟩, ⟨(some p60), .mv (.t p5), none, 0⟩, ⟨(some p61), .mv (.t p9), none, 0⟩, ⟨(some p62), .indexAddr 1 (.t p60) (.t p61), none, 0⟩, ⟨(some p63), .load1 (.t p62), none, 0⟩, ⟨(some p64), .mv (.t p63), none, 0⟩, ⟨(some p65), .mv (.t p8), (some (p64, true)), 0⟩, ⟨(some p66), .mv (.t p9), (some (p64, true)), 0⟩, ⟨(some p67), .indexAddr 1 (.t p65) (.t p66), (some (p64, true)), 0⟩, ⟨(some p68), .load1 (.t p67), (some (p64, true)), 0⟩, ⟨(some p69), .pick (.t p64) (.t p68) (.c (.bool false)), none, 0⟩, ⟨(some p70), .indexAddr 1 (.t p58) (.t p59), none, 0⟩, ⟨none, .store 1 (.t p70) (.t p69), none, 0⟩]) (.seq (.ops [⟨(some p72), .bin .eql .other (.t p45) (.c (.int .i64 4)), none, 0⟩, ⟨(some p71), .mv (.t p72), none, 0⟩]) [p2, p3, p5, p7, p8, p9, p71] (.cond (.t p71) (.ops [⟨(some p73), .mv (.t p5), none, 0⟩, ⟨(some p74), .mv (.t p9), none, 0⟩, ⟨(some p75), .indexAddr 1 (.t p73) (.t p74), none, 0⟩, ⟨none, .store 1 (.t p75) (.c (.bool false)), none, 0⟩]) .skip))))))))) [p2, p3, p5, p7, p8, p9] c_cabotageref22_holdsIn_7))
def c_cabotageref22_holdsIn_9 : CC := (.ops [⟨(some p86), .mv (.t p10), none, 0⟩, ⟨(some p87), .bin .add .other (.t p86) (.c (.int .i64 1)), none, 0⟩, ⟨(some p10), .mv (.t p87), none, 0⟩])
def c_cabotageref22_holdsIn_8 : CC := (.seq (.seq (.ops [⟨(some p76), .mv (.t p10), none, 0⟩, ⟨(some p77), .fieldAddr 2 (.t p2), none, 0⟩, ⟨(some p78), .load1 (.t p77), none, 0⟩, ⟨(some p79), .blt .len [(.t p78)], none, 0⟩, ⟨(some p80), .bin .lss .other (.t p76) (.t p79), none, 0⟩, ⟨(some p81), .mv (.t p80), none, 0⟩, ⟨(some p82), .fieldAddr 0 (.t p3), (some (p81, true)), 0⟩, ⟨(some p83), .load1 (.t p82), (some (p81, true)), 0⟩, ⟨(some p84), .bin .eql .other (.t p83) (.c (.int .i64 4)), (some (p81, true)), 0⟩, ⟨(some p85), .pick (.t p81) (.t p84) (.c (.bool false)), none, 0⟩]) [p2, p3, p5, p7, p8, p10, p85] (.cond (.t p85) .skip (.exit 7))) [p2, p3, p5, p7, p8, p10] (.seq (.block 8 (.seq (.ops [⟨(some p88), .fieldAddr 2 (.t p2), none, 0⟩, ⟨(some p89), .load1 (.t p88), none, 0⟩, ⟨(some p90), .mv (.t p10), none, 0⟩, ⟨(some p91), .indexAddr 3 (.t p89) (.t p90), none, 0⟩, ⟨(some p92), .loadN 3 (.t p91), none, 0⟩, ⟨(some p11), .alloc [(.int .i64 0), (.int .i64 0), (.int .i64 0)], none, 0⟩, ⟨none, .store 3 (.t p11) (.t p92), none, 0⟩]) [p2, p3, p5, p7, p8, p10, p11] (.seq (.ops [⟨(some p93), .fieldAddr 2 (.t p11), none, 0⟩, ⟨(some p94), .load1 (.t p93), none, 0⟩, ⟨(some p95), .fieldAddr 1 (.t p3), none, 0⟩, ⟨(some p96), .load1 (.t p95), none, 0⟩, ⟨(some p97), .bin .eql .other (.t p94) (.t p96), none, 0⟩, ⟨(some p98), .mv (.t p97), none, 0⟩, ⟨(some p99), .mv (.t p8), (some (p98, true)), 0⟩, ⟨(some p100), .fieldAddr 1 (.t p11), (some (p98, true)), 0⟩, ⟨(some p101), .load1 (.t p100), (some (p98, true)), 0⟩, ⟨(some p102), .indexAddr 1 (.t p99) (.t p101), (some (p98, true)), 0⟩, ⟨(some p103), .load1 (.t p102), (some (p98, true)), 0⟩, ⟨(some p104), .pick (.t p98) (.t p103) (.c (.bool false)), none, 0⟩]) [p2, p3, p5, p7, p8, p10, p11, p104] (.cond (.t p104) (.ops [⟨(some p105), .mv (.t p5), none, 0⟩, ⟨(some p106), .fieldAddr 0 (.t p11), none, 0⟩, ⟨(some p107), .load1 (.t p106), none, 0⟩, ⟨(some p108), .indexAddr 1 (.t p105) (.t p107), none, 0⟩, ⟨none, .store 1 (.t p108) (.c (.bool true)), none, 0⟩]) .skip)))) [p2, p3, p5, p7, p8, p10] c_cabotageref22_holdsIn_9))
def c_cabotageref22_holdsIn_5 : CC := (.seq (.ops [⟨(some p10), .mv (.c (.int .i64 0)), none, 0⟩]) [p2, p3, p5, p7, p8, p10] (.block 7 (.loop [p2, p3, p5, p7, p8, p10] c_cabotageref22_holdsIn_8)))
def c_cabotageref22_holdsIn_4 : CC := (.ops [⟨(some p29), .mv (.t p7), none, 0⟩, ⟨(some p30), .bin .add .other (.t p29) (.c (.int .i64 1)), none, 0⟩, ⟨(some p7), .mv (.t p30), none, 0⟩])
def c_cabotageref22_holdsIn_3 : CC := (.seq (.seq (.ops [⟨(some p24), .mv (.t p7), none, 0⟩, ⟨(some p25), .fieldAddr 2 (.t p3), none, 0⟩, ⟨(some p26), .load1 (.t p25), none, 0⟩, ⟨(some p27), .blt .len [(.t p26)], none, 0⟩, ⟨(some p28), .bin .lss .other (.t p24) (.t p27), none, 0⟩]) [p2, p3, p5, p7, p28] (.cond (.t p28) .skip (.exit 2))) [p2, p3, p5, p7] (.seq (.block 3 (.seq (.draw [⟨(some p31), .loadN 3 (.t p2), none, 0⟩, ⟨(some p32), .fieldAddr 2 (.t p3), none, 0⟩, ⟨(some p33), .load1 (.t p32), none, 0⟩, ⟨(some p34), .mv (.t p7), none, 0⟩, ⟨(some p35), .indexAddr 3 (.t p33) (.t p34), none, 0⟩, ⟨(some p36), .loadN 3 (.t p35), none, 0⟩, ⟨(some p37), .call (.c (.func (.func n_cabotageref22_holdsIn) #[] #[])) [(.t p31), (.t p36)], none, 0⟩, ⟨(some p8), .mv (.t p37), none, 1⟩]) [p2, p3, p5, p7, p8] (.seq (.seq (.ops [⟨(some p9), .mv (.c (.int .i64 0)), none, 0⟩]) [p2, p3, p5, p7, p8, p9] (.block 4 (.loop [p2, p3, p5, p7, p8, p9] c_cabotageref22_holdsIn_6))) [p2, p3, p5, p7, p8] c_cabotageref22_holdsIn_5))) [p2, p3, p5, p7] c_cabotageref22_holdsIn_4))
def c_cabotageref22_holdsIn_2 : CC := (.seq (.ops [⟨(some p109), .mv (.t p5), none, 0⟩, ⟨(some p4), .mv (.t p109), none, 0⟩]) [p4] .ret)
def c_cabotageref22_holdsIn_0 : CC := (.seq (.seq (.ops [⟨(some p7), .mv (.c (.int .i64 0)), none, 0⟩]) [p2, p3, p5, p7] (.block 2 (.loop [p2, p3, p5, p7] c_cabotageref22_holdsIn_3))) [p5] c_cabotageref22_holdsIn_2)
def c_cabotageref22_holdsIn : CC := (.seq (.ops [⟨(some p2), .box (.t p0), none, 0⟩, ⟨(some p3), .box (.t p1), none, 0⟩, ⟨(some p4), .mv (.c (.slice none 0 0)), none, 0⟩]) [p2, p3] (.seq (.ops [⟨(some p12), .fieldAddr 0 (.t p2), none, 0⟩, ⟨(some p13), .load1 (.t p12), none, 0⟩, ⟨(some p14), .makeSlice 1 1 [(.bool false)] (.t p13) (.t p13), none, 0⟩, ⟨(some p5), .mv (.t p14), none, 0⟩]) [p2, p3, p5] (.seq (.seq (.ops [⟨(some p6), .mv (.c (.int .i64 0)), none, 0⟩]) [p2, p3, p5, p6] (.block 0 (.loop [p2, p3, p5, p6] c_cabotageref22_holdsIn_1))) [p2, p3, p5] c_cabotageref22_holdsIn_0)))
def f_cabotageref22_holdsIn : CFunc := ⟨110, [.tmp p4], c_cabotageref22_holdsIn, none⟩
def c_judge_classes_4 : CC := (.seq (.ops [⟨(some p21), .bin .lss .other (.t p20) (.t p19), none, 0⟩]) [p3, p4, p5, p6, p14, p15, p18, p19, p20, p21] (.seq (.cond (.t p21) .skip (.exit 2)) [p3, p4, p5, p6, p14, p15, p18, p19, p20] (.seq (.block 3 (.seq (.ops [⟨(some p22), .mv (.t p20), none, 0⟩, ⟨(some p23), .indexAddr 1 (.t p18) (.t p20), none, 0⟩, ⟨(some p24), .load1 (.t p23), none, 0⟩, ⟨(some p7), .mv (.t p22), none, 0⟩, ⟨(some p8), .mv (.t p24), none, 0⟩]) [p3, p4, p5, p6, p7, p8, p14, p15, p18, p19, p20] (.seq (.ops [⟨(some p26), .mv (.t p3), none, 0⟩, ⟨(some p27), .mv (.t p8), none, 0⟩, ⟨(some p28), .mv (.t p6), none, 0⟩, ⟨(some p29), .build [(.int .i64 0), (.int .i64 0)] [(0, 1, (.t p27)), (1, 1, (.t p28))], none, 0⟩, ⟨(some p30), .lookup (.leaves [0, 1]) (.int .i64 0) true (.t p26) (.t p29), none, 0⟩, ⟨(some p25), .mv (.t p30), none, 0⟩, ⟨(some p31), .extract (.t p25) 0, none, 0⟩, ⟨(some p32), .extract (.t p25) 1, none, 0⟩, ⟨(some p9), .mv (.t p31), none, 0⟩, ⟨(some p10), .mv (.t p32), none, 0⟩]) [p3, p4, p5, p6, p7, p10, p14, p15, p18, p19, p20] (.seq (.ops [⟨(some p33), .mv (.t p10), none, 0⟩, ⟨(some p34), .un .not (.t p33), none, 0⟩]) [p3, p4, p5, p6, p7, p14, p15, p18, p19, p20, p34] (.cond (.t p34) (.seq (.ops [⟨(some p35), .mv (.t p4), none, 0⟩, ⟨(some p36), .mv (.t p7), none, 0⟩, ⟨(some p37), .buildSlice 1 1 [(.int .i64 0)] [(0, (.t p36))], none, 0⟩, ⟨(some p38), .blt (.append 1 8) [(.t p35), (.t p37)], none, 0⟩, ⟨(some p4), .mv (.t p38), none, 0⟩]) [p3, p4, p5, p14, p15] (.exit 1)) .skip))))) [p3, p4, p5, p6, p14, p15, p18, p19, p20] (.ops [⟨(some p39), .bin .add .other (.t p20) (.c (.int .i64 1)), none, 0⟩, ⟨(some p20), .mv (.t p39), none, 0⟩]))))
def c_judge_classes_3 : CC := (.seq (.ops [⟨(some p40), .mv (.t p4), none, 0⟩, ⟨(some p41), .mv (.t p5), none, 0⟩, ⟨(some p42), .blt .len [(.t p41)], none, 0⟩, ⟨(some p43), .buildSlice 1 1 [(.int .i64 0)] [(0, (.t p42))], none, 0⟩, ⟨(some p44), .blt (.append 1 8) [(.t p40), (.t p43)], none, 0⟩, ⟨(some p4), .mv (.t p44), none, 0⟩]) [p3, p4, p5, p6, p14, p15] (.ops [⟨(some p45), .mv (.t p5), none, 0⟩, ⟨(some p46), .mv (.t p6), none, 0⟩, ⟨(some p47), .buildSlice 1 1 [(.int .i64 0)] [(0, (.t p46))], none, 0⟩, ⟨(some p48), .blt (.append 1 8) [(.t p45), (.t p47)], none, 0⟩, ⟨(some p5), .mv (.t p48), none, 0⟩]))
def c_judge_classes_2 : CC := (.ops [⟨(some p49), .bin .add .other (.t p15) (.c (.int .i64 1)), none, 0⟩, ⟨(some p15), .mv (.t p49), none, 0⟩])
def c_judge_classes_1 : CC := (.seq (.ops [⟨(some p16), .bin .lss .other (.t p15) (.t p14), none, 0⟩]) [p3, p4, p5, p14, p15, p16] (.seq (.cond (.t p16) .skip (.exit 0)) [p3, p4, p5, p14, p15] (.seq (.block 1 (.seq (.ops [⟨(some p17), .mv (.t p15), none, 0⟩, ⟨(some p6), .mv (.t p17), none, 0⟩]) [p3, p4, p5, p6, p14, p15] (.seq (.seq (.ops [⟨(some p18), .mv (.t p5), none, 0⟩, ⟨(some p19), .blt .len [(.t p18)], none, 0⟩, ⟨(some p20), .mv (.c (.int .i64 0)), none, 0⟩]) [p3, p4, p5, p6, p14, p15, p18, p19, p20] (.block 2 (.loop [p3, p4, p5, p6, p14, p15, p18, p19, p20] c_judge_classes_4))) [p3, p4, p5, p6, p14, p15] c_judge_classes_3))) [p3, p4, p5, p14, p15] c_judge_classes_2)))
def c_judge_classes_0 : CC := (.seq (.ops [⟨(some p50), .mv (.t p4), none, 0⟩, ⟨(some p2), .mv (.t p50), none, 0⟩]) [p2] .ret)
def c_judge_classes : CC := (.seq (.ops [⟨(some p1), .box (.t p0), none, 0⟩, ⟨(some p2), .mv (.c (.slice none 0 0)), none, 0⟩]) [p1] (.seq (.ops [⟨(some p11), .loadN 3 (.t p1), none, 0⟩, ⟨(some p12), .call (.c (.func (.func n_judge_apart) #[] #[])) [(.t p11)], none, 0⟩, ⟨(some p3), .mv (.t p12), none, 0⟩]) [p1, p3] (.seq (.ops [⟨(some p4), .mv (.c (.slice none 0 0)), none, 0⟩, ⟨(some p5), .mv (.c (.slice none 0 0)), none, 0⟩]) [p1, p3, p4, p5] (.seq .skip [p1, p3, p4, p5] (.seq (.seq (.ops [⟨(some p13), .fieldAddr 0 (.t p1), none, 0⟩, ⟨(some p14), .load1 (.t p13), none, 0⟩, ⟨(some p15), .mv (.c (.int .i64 0)), none, 0⟩]) [p3, p4, p5, p14, p15] (.block 0 (.loop [p3, p4, p5, p14, p15] c_judge_classes_1))) [p4] c_judge_classes_0)))))
def f_judge_classes : CFunc := ⟨51, [.tmp p2], c_judge_classes, none⟩
def c_judge_steps : CC := (.seq (.ops [⟨(some p2), .box (.t p0), none, 0⟩, ⟨(some p3), .box (.t p1), none, 0⟩, ⟨(some p4), .mv (.c .nilFunc), none, 0⟩]) [p2, p3] (.seq (.ops [⟨(some p5), .makeFunc (.func n_judge_steps_1) [] [(.t p2), (.t p3)], none, 0⟩, ⟨(some p4), .mv (.t p5), none, 0⟩]) [p4] .ret))
def f_judge_steps : CFunc := ⟨6, [.tmp p4], c_judge_steps, none⟩
def c_slices_Contains_int_int_ : CC := (.seq (.ops [⟨(some p4), .mv (.c (.bool false)), none, 0⟩]) [p0, p1] (.seq (.ops [⟨(some p5), .mv (.t p0), none, 0⟩, ⟨(some p6), .mv (.t p1), none, 0⟩, ⟨(some p7), .call (.c (.func (.func n_slices_Index_int_int_) #[] #[])) [(.t p5), (.t p6)], none, 0⟩, ⟨(some p8), .bin .geq .other (.t p7) (.c (.int .i64 0)), none, 0⟩, ⟨(some p4), .mv (.t p8), none, 0⟩]) [p4] .ret))
def f_slices_Contains_int_int_ : CFunc := ⟨9, [.tmp p4], c_slices_Contains_int_int_, none⟩
def c_cmp_Compare_int_ : CC := (.seq (.ops [⟨(some p4), .mv (.c (.int .i64 0)), none, 0⟩]) [p0, p1] (.seq (.ops [⟨(some p7), .mv (.t p0), none, 0⟩, ⟨(some p8), .call (.c (.func (.func n_cmp_isNaN_int_) #[] #[])) [(.t p7)], none, 0⟩, ⟨(some p5), .mv (.t p8), none, 0⟩]) [p0, p1, p5] (.seq (.ops [⟨(some p9), .mv (.t p1), none, 0⟩, ⟨(some p10), .call (.c (.func (.func n_cmp_isNaN_int_) #[] #[])) [(.t p9)], none, 0⟩, ⟨(some p6), .mv (.t p10), none, 0⟩]) [p0, p1, p5, p6] (.seq (.seq (.ops [⟨(some p11), .mv (.t p5), none, 0⟩]) [p0, p1, p6, p11] (.cond (.t p11) (.seq (.seq (.ops [⟨(some p12), .mv (.t p6), none, 0⟩]) [p12] (.cond (.t p12) (.seq (.ops [⟨(some p4), .mv (.c (.int .i64 0)), none, 0⟩]) [p4] .ret) .skip)) [] (.seq (.ops [⟨(some p4), .mv (.c (.int .i64 (-1))), none, 0⟩]) [p4] .ret)) .skip)) [p0, p1, p6] (.seq (.seq (.ops [⟨(some p13), .mv (.t p6), none, 0⟩]) [p0, p1, p13] (.cond (.t p13) (.seq (.ops [⟨(some p4), .mv (.c (.int .i64 1)), none, 0⟩]) [p4] .ret) .skip)) [p0, p1] (.seq (.seq (.ops [⟨(some p14), .mv (.t p0), none, 0⟩, ⟨(some p15), .mv (.t p1), none, 0⟩, ⟨(some p16), .bin .lss .other (.t p14) (.t p15), none, 0⟩]) [p0, p1, p16] (.cond (.t p16) (.seq (.ops [⟨(some p4), .mv (.c (.int .i64 (-1))), none, 0⟩]) [p4] .ret) .skip)) [p0, p1] (.seq (.seq (.ops [⟨(some p17), .mv (.t p0), none, 0⟩, ⟨(some p18), .mv (.t p1), none, 0⟩, ⟨(some p19), .bin .gtr .other (.t p17) (.t p18), none, 0⟩]) [p19] (.cond (.t p19) (.seq (.ops [⟨(some p4), .mv (.c (.int .i64 1)), none, 0⟩]) [p4] .ret) .skip)) [] (.seq (.ops [⟨(some p4), .mv (.c (.int .i64 0)), none, 0⟩]) [p4] .ret))))))))
def f_cmp_Compare_int_ : CFunc := ⟨20, [.tmp p4], c_cmp_Compare_int_, none⟩
def c_judge_silent_3 : CC := (.ops [⟨(some p7), .mv (.t p22), none, 0⟩])
def c_judge_silent_4 : CC := (.block 3 (.seq (.ops [⟨(some p23), .load1 (.t p5), none, 0⟩, ⟨(some p24), .mv (.t p7), none, 0⟩, ⟨(some p25), .call (.c (.func (.func n_slices_Contains_int_int_) #[] #[])) [(.t p23), (.t p24)], none, 0⟩, ⟨(some p26), .un .not (.t p25), none, 0⟩]) [p5, p7, p26] (.cond (.t p26) (.ops [⟨(some p27), .load1 (.t p5), none, 0⟩, ⟨(some p28), .mv (.t p7), none, 0⟩, ⟨(some p29), .buildSlice 1 1 [(.int .i64 0)] [(0, (.t p28))], none, 0⟩, ⟨(some p30), .blt (.append 1 8) [(.t p27), (.t p29)], none, 0⟩, ⟨none, .store 1 (.t p5) (.t p30), none, 0⟩]) .skip)))
def r_judge_silent_3 : RC := ⟨(n_judge_silent * 1000 + 3), [p5], [p22], c_judge_silent_3, c_judge_silent_4⟩
def c_judge_silent_2 : CC := (.ops [⟨(some p14), .mv (.t p6), none, 0⟩, ⟨(some p15), .bin .add .other (.t p14) (.c (.int .i64 1)), none, 0⟩, ⟨(some p6), .mv (.t p15), none, 0⟩])
def c_judge_silent_1 : CC := (.seq (.seq (.ops [⟨(some p10), .mv (.t p6), none, 0⟩, ⟨(some p11), .load1 (.t p5), none, 0⟩, ⟨(some p12), .blt .len [(.t p11)], none, 0⟩, ⟨(some p13), .bin .lss .other (.t p10) (.t p12), none, 0⟩]) [p2, p4, p5, p6, p13] (.cond (.t p13) .skip (.exit 0))) [p2, p4, p5, p6] (.seq (.block 1 (.seq (.draw [⟨(some p16), .loadN 3 (.t p2), none, 0⟩, ⟨(some p17), .load1 (.t p5), none, 0⟩, ⟨(some p18), .mv (.t p6), none, 0⟩, ⟨(some p19), .indexAddr 1 (.t p17) (.t p18), none, 0⟩, ⟨(some p20), .load1 (.t p19), none, 0⟩, ⟨(some p21), .call (.c (.func (.func n_judge_leads) #[] #[])) [(.t p16), (.t p20), (.c (.int .i64 0))], none, 0⟩]) [p2, p4, p5, p6, p21] (.block 2 (.rangeFunc (n_judge_silent * 1000 + 3) [p5] (.t p21) [p22] c_judge_silent_3 c_judge_silent_4)))) [p2, p4, p5, p6] c_judge_silent_2))
def c_judge_silent_0 : CC := (.seq (.ops [⟨(some p31), .load1 (.t p5), none, 0⟩, ⟨(some p4), .mv (.t p31), none, 0⟩]) [p4] .ret)
def c_judge_silent : CC := (.seq (.ops [⟨(some p2), .box (.t p0), none, 0⟩, ⟨(some p4), .mv (.c (.slice none 0 0)), none, 0⟩]) [p1, p2, p4] (.seq (.ops [⟨(some p8), .mv (.t p1), none, 0⟩, ⟨(some p9), .buildSlice 1 1 [(.int .i64 0)] [(0, (.t p8))], none, 0⟩, ⟨(some p5), .alloc [(.slice none 0 0)], none, 0⟩, ⟨none, .store 1 (.t p5) (.t p9), none, 0⟩]) [p2, p4, p5] (.seq (.seq (.ops [⟨(some p6), .mv (.c (.int .i64 0)), none, 0⟩]) [p2, p4, p5, p6] (.block 0 (.loop [p2, p4, p5, p6] c_judge_silent_1))) [p5] c_judge_silent_0)))
def f_judge_silent : CFunc := ⟨32, [.tmp p4], c_judge_silent, none⟩
def c_cmp_Or_int__1 : CC := (.seq (.ops [⟨(some p9), .bin .lss .other (.t p8) (.t p7), none, 0⟩]) [p3, p6, p7, p8, p9] (.seq (.cond (.t p9) .skip (.exit 0)) [p3, p6, p7, p8] (.seq (.block 1 (.seq (.ops [⟨(some p10), .indexAddr 1 (.t p6) (.t p8), none, 0⟩, ⟨(some p11), .load1 (.t p10), none, 0⟩, ⟨(some p5), .mv (.t p11), none, 0⟩]) [p3, p5, p6, p7, p8] (.seq (.ops [⟨(some p12), .mv (.t p5), none, 0⟩, ⟨(some p13), .mv (.t p3), none, 0⟩, ⟨(some p14), .bin .neq .other (.t p12) (.t p13), none, 0⟩]) [p3, p5, p6, p7, p8, p14] (.cond (.t p14) (.seq (.ops [⟨(some p15), .mv (.t p5), none, 0⟩, ⟨(some p2), .mv (.t p15), none, 0⟩]) [p2] .ret) .skip)))) [p3, p6, p7, p8] (.ops [⟨(some p16), .bin .add .other (.t p8) (.c (.int .i64 1)), none, 0⟩, ⟨(some p8), .mv (.t p16), none, 0⟩]))))
def c_cmp_Or_int__0 : CC := (.seq (.ops [⟨(some p17), .mv (.t p3), none, 0⟩, ⟨(some p2), .mv (.t p17), none, 0⟩]) [p2] .ret)
def c_cmp_Or_int_ : CC := (.seq (.ops [⟨(some p2), .mv (.c (.int .i64 0)), none, 0⟩]) [p0] (.seq (.ops [⟨(some p3), .mv (.c (.int .i64 0)), none, 0⟩]) [p0, p3] (.seq (.seq (.ops [⟨(some p6), .mv (.t p0), none, 0⟩, ⟨(some p7), .blt .len [(.t p6)], none, 0⟩, ⟨(some p8), .mv (.c (.int .i64 0)), none, 0⟩]) [p3, p6, p7, p8] (.block 0 (.loop [p3, p6, p7, p8] c_cmp_Or_int__1))) [p3] c_cmp_Or_int__0)))
def f_cmp_Or_int_ : CFunc := ⟨18, [.tmp p2], c_cmp_Or_int_, none⟩
def c_judge_rounds_first_1 : CC := (.ops [⟨(some p12), .alloc [(.int .i64 0), (.int .i64 0), (.int .i64 0)], none, 0⟩, ⟨none, .store 3 (.t p12) (.t p16), none, 0⟩])
def c_judge_rounds_first_2 : CC := (.block 1 (.seq (.ops [⟨(some p17), .load1 (.t p5), none, 0⟩, ⟨(some p18), .loadN 3 (.t p6), none, 0⟩, ⟨(some p19), .loadN 3 (.t p12), none, 0⟩, ⟨(some p20), .load1 (.t p8), none, 0⟩, ⟨(some p21), .load1 (.t p9), none, 0⟩, ⟨(some p22), .call (.c (.func (.func n_judge_rounds_told) #[] #[])) [(.t p17), (.t p18), (.t p19), (.t p20), (.t p21)], none, 0⟩]) [p10, p11, p12, p22] (.cond (.t p22) (.seq (.ops [⟨(some p23), .loadN 3 (.t p12), none, 0⟩, ⟨none, .store 3 (.t p10) (.t p23), none, 0⟩, ⟨none, .store 1 (.t p11) (.c (.bool true)), none, 0⟩]) [] .ret) .skip)))
def r_judge_rounds_first_1 : RC := ⟨(n_judge_rounds_first * 1000 + 1), [p5, p6, p8, p9, p10, p11], [p16], c_judge_rounds_first_1, c_judge_rounds_first_2⟩
def c_judge_rounds_first_0 : CC := (.seq (.ops [⟨(some p24), .build [(.int .i64 0), (.int .i64 0), (.int .i64 0)] [], none, 0⟩, ⟨none, .store 3 (.t p10) (.t p24), none, 0⟩, ⟨none, .store 1 (.t p11) (.c (.bool false)), none, 0⟩]) [p10, p11] .ret)
def c_judge_rounds_first : CC := (.seq (.ops [⟨(some p5), .box (.t p0), none, 0⟩, ⟨(some p6), .box (.t p1), none, 0⟩, ⟨(some p8), .box (.t p3), none, 0⟩, ⟨(some p9), .box (.t p4), none, 0⟩, ⟨(some p10), .alloc [(.int .i64 0), (.int .i64 0), (.int .i64 0)], none, 0⟩, ⟨(some p11), .alloc [(.bool false)], none, 0⟩]) [p2, p5, p6, p8, p9, p10, p11] (.seq (.seq (.ops [⟨(some p13), .loadN 3 (.t p6), none, 0⟩, ⟨(some p14), .mv (.t p2), none, 0⟩, ⟨(some p15), .call (.c (.func (.func n_judge_steps) #[] #[])) [(.t p13), (.t p14)], none, 0⟩]) [p5, p6, p8, p9, p10, p11, p15] (.block 0 (.rangeFunc (n_judge_rounds_first * 1000 + 1) [p5, p6, p8, p9, p10, p11] (.t p15) [p16] c_judge_rounds_first_1 c_judge_rounds_first_2))) [p10, p11] c_judge_rounds_first_0))
def f_judge_rounds_first : CFunc := ⟨25, [.cell (some 3) p10, .cell none p11], c_judge_rounds_first, none⟩
def c_judge_leads : CC := (.seq (.ops [⟨(some p3), .box (.t p0), none, 0⟩, ⟨(some p4), .box (.t p1), none, 0⟩, ⟨(some p5), .box (.t p2), none, 0⟩, ⟨(some p6), .mv (.c .nilFunc), none, 0⟩]) [p3, p4, p5] (.seq (.ops [⟨(some p7), .makeFunc (.func n_judge_leads_1) [] [(.t p3), (.t p4), (.t p5)], none, 0⟩, ⟨(some p6), .mv (.t p7), none, 0⟩]) [p6] .ret))
def f_judge_leads : CFunc := ⟨8, [.tmp p6], c_judge_leads, none⟩
def c_slices_Clone_api_JudgeEdge_api_JudgeEdge_ : CC := (.seq (.ops [⟨(some p2), .mv (.c (.slice none 0 0)), none, 0⟩]) [p0] (.seq (.seq (.ops [⟨(some p3), .mv (.t p0), none, 0⟩, ⟨(some p4), .bin .eql .slice (.t p3) (.c (.slice none 0 0)), none, 0⟩]) [p0, p4] (.cond (.t p4) (.seq (.ops [⟨(some p2), .mv (.c (.slice none 0 0)), none, 0⟩]) [p2] .ret) .skip)) [p0] (.seq (.ops [⟨(some p5), .buildSlice 0 3 [(.int .i64 0), (.int .i64 0), (.int .i64 0)] [], none, 0⟩, ⟨(some p6), .mv (.t p0), none, 0⟩, ⟨(some p7), .blt (.append 3 24) [(.t p5), (.t p6)], none, 0⟩, ⟨(some p2), .mv (.t p7), none, 0⟩]) [p2] .ret)))
def f_slices_Clone_api_JudgeEdge_api_JudgeEdge_ : CFunc := ⟨8, [.tmp p2], c_slices_Clone_api_JudgeEdge_api_JudgeEdge_, none⟩
def c_judge_steps_1_0 : CC := (.seq (.ops [⟨(some p21), .bin .lss .other (.t p20) (.t p19), none, 0⟩]) [p0, p2, p18, p19, p20, p21] (.seq (.cond (.t p21) .skip (.exit 0)) [p0, p2, p18, p19, p20] (.seq (.block 1 (.seq (.ops [⟨(some p22), .indexAddr 3 (.t p18) (.t p20), none, 0⟩, ⟨(some p23), .loadN 3 (.t p22), none, 0⟩, ⟨(some p7), .alloc [(.int .i64 0), (.int .i64 0), (.int .i64 0)], none, 0⟩, ⟨none, .store 3 (.t p7) (.t p23), none, 0⟩]) [p0, p2, p7, p18, p19, p20] (.seq (.ops [⟨(some p24), .fieldAddr 0 (.t p7), none, 0⟩, ⟨(some p25), .load1 (.t p24), none, 0⟩, ⟨(some p26), .load1 (.t p2), none, 0⟩, ⟨(some p27), .bin .neq .other (.t p25) (.t p26), none, 0⟩, ⟨(some p28), .mv (.t p27), none, 0⟩, ⟨(some p29), .mv (.t p0), (some (p28, false)), 0⟩, ⟨(some p30), .loadN 3 (.t p7), (some (p28, false)), 0⟩, ⟨(some p31), .call (.t p29) [(.t p30)], (some (p28, false)), 0⟩, ⟨(some p32), .un .not (.t p31), (some (p28, false)), 0⟩, ⟨(some p33), .pick (.t p28) (.c (.bool true)) (.t p32), none, 0⟩]) [p0, p2, p18, p19, p20, p33] (.cond (.t p33) .ret .skip)))) [p0, p2, p18, p19, p20] (.ops [⟨(some p34), .bin .add .other (.t p20) (.c (.int .i64 1)), none, 0⟩, ⟨(some p20), .mv (.t p34), none, 0⟩]))))
def c_judge_steps_1 : CC := (.seq (.ops [⟨(some p9), .fieldAddr 2 (.t p1), none, 0⟩, ⟨(some p10), .load1 (.t p9), none, 0⟩, ⟨(some p11), .load1 (.t p2), none, 0⟩, ⟨(some p12), .call (.c (.func (.func n_slices_BinarySearchFunc_api_JudgeEdge_api_JudgeEdge_int_) #[] #[])) [(.t p10), (.t p11), (.c (.func (.func n_judge_steps_1_1) #[] #[]))], none, 0⟩, ⟨(some p8), .mv (.t p12), none, 0⟩, ⟨(some p13), .extract (.t p8) 0, none, 0⟩, ⟨(some p14), .extract (.t p8) 1, none, 0⟩, ⟨(some p4), .mv (.t p13), none, 0⟩, ⟨(some p5), .mv (.t p14), none, 0⟩]) [p0, p1, p2, p4] (.seq (.ops [⟨(some p15), .fieldAddr 2 (.t p1), none, 0⟩, ⟨(some p16), .load1 (.t p15), none, 0⟩, ⟨(some p17), .mv (.t p4), none, 0⟩, ⟨(some p18), .slice 3 (.t p16) (some (.t p17)) none, none, 0⟩, ⟨(some p19), .blt .len [(.t p18)], none, 0⟩, ⟨(some p20), .mv (.c (.int .i64 0)), none, 0⟩]) [p0, p2, p18, p19, p20] (.block 0 (.loop [p0, p2, p18, p19, p20] c_judge_steps_1_0))))
def f_judge_steps_1 : CFunc := ⟨35, [], c_judge_steps_1, none⟩
def c_slices_BinarySearchFunc_api_JudgeEdge_api_JudgeEdge_int__1 : CC := (.seq (.seq (.ops [⟨(some p15), .mv (.t p9), none, 0⟩, ⟨(some p16), .mv (.t p10), none, 0⟩, ⟨(some p17), .bin .lss .other (.t p15) (.t p16), none, 0⟩]) [p0, p1, p2, p8, p9, p10, p17] (.cond (.t p17) .skip (.exit 0))) [p0, p1, p2, p8, p9, p10] (.block 1 (.seq (.ops [⟨(some p18), .mv (.t p9), none, 0⟩, ⟨(some p19), .mv (.t p10), none, 0⟩, ⟨(some p20), .bin .add .other (.t p18) (.t p19), none, 0⟩, ⟨(some p21), .conv .u64 (.t p20), none, 0⟩, ⟨(some p22), .bin .shr .other (.t p21) (.c (.int .u64 1)), none, 0⟩, ⟨(some p23), .conv .i64 (.t p22), none, 0⟩, ⟨(some p11), .mv (.t p23), none, 0⟩]) [p0, p1, p2, p8, p9, p10, p11] (.seq (.ops [⟨(some p24), .mv (.t p2), none, 0⟩, ⟨(some p25), .mv (.t p0), none, 0⟩, ⟨(some p26), .mv (.t p11), none, 0⟩, ⟨(some p27), .indexAddr 3 (.t p25) (.t p26), none, 0⟩, ⟨(some p28), .loadN 3 (.t p27), none, 0⟩, ⟨(some p29), .mv (.t p1), none, 0⟩, ⟨(some p30), .call (.t p24) [(.t p28), (.t p29)], none, 0⟩, ⟨(some p31), .bin .lss .other (.t p30) (.c (.int .i64 0)), none, 0⟩]) [p0, p1, p2, p8, p9, p10, p11, p31] (.cond (.t p31) (.ops [⟨(some p32), .mv (.t p11), none, 0⟩, ⟨(some p33), .bin .add .other (.t p32) (.c (.int .i64 1)), none, 0⟩, ⟨(some p9), .mv (.t p33), none, 0⟩]) (.ops [⟨(some p34), .mv (.t p11), none, 0⟩, ⟨(some p10), .mv (.t p34), none, 0⟩]))))))
def c_slices_BinarySearchFunc_api_JudgeEdge_api_JudgeEdge_int__0 : CC := (.seq (.ops [⟨(some p35), .mv (.t p9), none, 0⟩, ⟨(some p36), .mv (.t p9), none, 0⟩, ⟨(some p37), .mv (.t p8), none, 0⟩, ⟨(some p38), .bin .lss .other (.t p36) (.t p37), none, 0⟩, ⟨(some p39), .mv (.t p38), none, 0⟩, ⟨(some p40), .mv (.t p2), (some (p39, true)), 0⟩, ⟨(some p41), .mv (.t p0), (some (p39, true)), 0⟩, ⟨(some p42), .mv (.t p9), (some (p39, true)), 0⟩, ⟨(some p43), .indexAddr 3 (.t p41) (.t p42), (some (p39, true)), 0⟩, ⟨(some p44), .loadN 3 (.t p43), (some (p39, true)), 0⟩, ⟨(some p45), .mv (.t p1), (some (p39, true)), 0⟩, ⟨(some p46), .call (.t p40) [(.t p44), (.t p45)], (some (p39, true)), 0⟩, ⟨(some p47), .bin .eql .other (.t p46) (.c (.int .i64 0)), (some (p39, true)), 0⟩, ⟨(some p48), .pick (.t p39) (.t p47) (.c (.bool false)), none, 0⟩, ⟨(some p6), .mv (.t p35), none, 0⟩, ⟨(some p7), .mv (.t p48), none, 0⟩]) [p6, p7] .ret)
def c_slices_BinarySearchFunc_api_JudgeEdge_api_JudgeEdge_int_ : CC := (.seq (.ops [⟨(some p6), .mv (.c (.int .i64 0)), none, 0⟩, ⟨(some p7), .mv (.c (.bool false)), none, 0⟩]) [p0, p1, p2] (.seq (.ops [⟨(some p12), .mv (.t p0), none, 0⟩, ⟨(some p13), .blt .len [(.t p12)], none, 0⟩, ⟨(some p8), .mv (.t p13), none, 0⟩]) [p0, p1, p2, p8] (.seq (.ops [⟨(some p14), .mv (.t p8), none, 0⟩, ⟨(some p9), .mv (.c (.int .i64 0)), none, 0⟩, ⟨(some p10), .mv (.t p14), none, 0⟩]) [p0, p1, p2, p8, p9, p10] (.seq (.block 0 (.loop [p0, p1, p2, p8, p9, p10] c_slices_BinarySearchFunc_api_JudgeEdge_api_JudgeEdge_int__1)) [p0, p1, p2, p8, p9] c_slices_BinarySearchFunc_api_JudgeEdge_api_JudgeEdge_int__0))))
def f_slices_BinarySearchFunc_api_JudgeEdge_api_JudgeEdge_int_ : CFunc := ⟨49, [.tmp p6, .tmp p7], c_slices_BinarySearchFunc_api_JudgeEdge_api_JudgeEdge_int_, none⟩
def c_judge_steps_1_1 : CC := (.seq (.ops [⟨(some p2), .box (.t p0), none, 0⟩, ⟨(some p4), .mv (.c (.int .i64 0)), none, 0⟩]) [p1, p2] (.seq (.ops [⟨(some p5), .fieldAddr 0 (.t p2), none, 0⟩, ⟨(some p6), .load1 (.t p5), none, 0⟩, ⟨(some p7), .mv (.t p1), none, 0⟩, ⟨(some p8), .call (.c (.func (.func n_cmp_Compare_int_) #[] #[])) [(.t p6), (.t p7)], none, 0⟩, ⟨(some p4), .mv (.t p8), none, 0⟩]) [p4] .ret))
def f_judge_steps_1_1 : CFunc := ⟨9, [.tmp p4], c_judge_steps_1_1, none⟩
def c_slices_Index_int_int__1 : CC := (.seq (.ops [⟨(some p9), .bin .lss .other (.t p8) (.t p7), none, 0⟩]) [p0, p1, p7, p8, p9] (.seq (.cond (.t p9) .skip (.exit 0)) [p0, p1, p7, p8] (.seq (.block 1 (.seq (.ops [⟨(some p10), .mv (.t p8), none, 0⟩, ⟨(some p5), .mv (.t p10), none, 0⟩]) [p0, p1, p5, p7, p8] (.seq (.ops [⟨(some p11), .mv (.t p1), none, 0⟩, ⟨(some p12), .mv (.t p0), none, 0⟩, ⟨(some p13), .mv (.t p5), none, 0⟩, ⟨(some p14), .indexAddr 1 (.t p12) (.t p13), none, 0⟩, ⟨(some p15), .load1 (.t p14), none, 0⟩, ⟨(some p16), .bin .eql .other (.t p11) (.t p15), none, 0⟩]) [p0, p1, p5, p7, p8, p16] (.cond (.t p16) (.seq (.ops [⟨(some p17), .mv (.t p5), none, 0⟩, ⟨(some p4), .mv (.t p17), none, 0⟩]) [p4] .ret) .skip)))) [p0, p1, p7, p8] (.ops [⟨(some p18), .bin .add .other (.t p8) (.c (.int .i64 1)), none, 0⟩, ⟨(some p8), .mv (.t p18), none, 0⟩]))))
def c_slices_Index_int_int__0 : CC := (.seq (.ops [⟨(some p4), .mv (.c (.int .i64 (-1))), none, 0⟩]) [p4] .ret)
def c_slices_Index_int_int_ : CC := (.seq (.ops [⟨(some p4), .mv (.c (.int .i64 0)), none, 0⟩]) [p0, p1] (.seq (.seq (.ops [⟨(some p6), .mv (.t p0), none, 0⟩, ⟨(some p7), .blt .len [(.t p6)], none, 0⟩, ⟨(some p8), .mv (.c (.int .i64 0)), none, 0⟩]) [p0, p1, p7, p8] (.block 0 (.loop [p0, p1, p7, p8] c_slices_Index_int_int__1))) [] c_slices_Index_int_int__0))
def f_slices_Index_int_int_ : CFunc := ⟨19, [.tmp p4], c_slices_Index_int_int_, none⟩
def c_cmp_isNaN_int_ : CC := (.seq (.ops [⟨(some p2), .mv (.c (.bool false)), none, 0⟩]) [p0] (.seq (.ops [⟨(some p3), .mv (.t p0), none, 0⟩, ⟨(some p4), .mv (.t p0), none, 0⟩, ⟨(some p5), .bin .neq .other (.t p3) (.t p4), none, 0⟩, ⟨(some p2), .mv (.t p5), none, 0⟩]) [p2] .ret))
def f_cmp_isNaN_int_ : CFunc := ⟨6, [.tmp p2], c_cmp_isNaN_int_, none⟩
def c_judge_rounds_told_1 : CC := (.ops [⟨(some p11), .mv (.t p20), none, 0⟩])
def c_judge_rounds_told_2 : CC := (.block 1 (.seq (.ops [⟨(some p21), .fieldAddr 1 (.t p7), none, 0⟩, ⟨(some p22), .load1 (.t p21), none, 0⟩, ⟨(some p23), .mv (.t p11), none, 0⟩, ⟨(some p24), .build [(.int .i64 0), (.int .i64 0)] [(0, 1, (.t p22)), (1, 1, (.t p23))], none, 0⟩, ⟨(some p12), .alloc [(.int .i64 0), (.int .i64 0)], none, 0⟩, ⟨none, .store 2 (.t p12) (.t p24), none, 0⟩]) [p5, p9, p10, p11, p12] (.seq (.ops [⟨(some p26), .load1 (.t p5), none, 0⟩, ⟨(some p27), .loadN 2 (.t p12), none, 0⟩, ⟨(some p28), .lookup (.leaves [0, 1]) (.int .i64 0) true (.t p26) (.t p27), none, 0⟩, ⟨(some p25), .mv (.t p28), none, 0⟩, ⟨(some p29), .extract (.t p25) 0, none, 0⟩, ⟨(some p30), .extract (.t p25) 1, none, 0⟩, ⟨(some p13), .mv (.t p29), none, 0⟩, ⟨(some p14), .mv (.t p30), none, 0⟩]) [p9, p10, p11, p12, p13, p14] (.seq (.ops [⟨(some p31), .loadN 2 (.t p12), none, 0⟩, ⟨(some p32), .mv (.t p11), none, 0⟩, ⟨(some p33), .mv (.t p11), none, 0⟩, ⟨(some p34), .build [(.int .i64 0), (.int .i64 0)] [(0, 1, (.t p32)), (1, 1, (.t p33))], none, 0⟩, ⟨(some p35), .bin .eql (.leaves [0, 1]) (.t p31) (.t p34), none, 0⟩, ⟨(some p36), .mv (.t p35), none, 0⟩, ⟨(some p37), .mv (.t p14), (some (p36, false)), 0⟩, ⟨(some p38), .un .not (.t p37), (some (p36, false)), 0⟩, ⟨(some p39), .pick (.t p36) (.c (.bool true)) (.t p38), none, 0⟩, ⟨(some p40), .mv (.t p39), none, 0⟩, ⟨(some p41), .mv (.t p13), (some (p40, false)), 0⟩, ⟨(some p42), .load1 (.t p9), (some (p40, false)), 0⟩, ⟨(some p43), .bin .gtr .other (.t p41) (.t p42), (some (p40, false)), 0⟩, ⟨(some p44), .pick (.t p40) (.c (.bool true)) (.t p43), none, 0⟩]) [p10, p44] (.cond (.t p44) (.seq (.ops [⟨none, .store 1 (.t p10) (.c (.bool false)), none, 0⟩]) [] .ret) .skip)))))
def r_judge_rounds_told_1 : RC := ⟨(n_judge_rounds_told * 1000 + 1), [p5, p7, p9, p10], [p20], c_judge_rounds_told_1, c_judge_rounds_told_2⟩
def c_judge_rounds_told_0 : CC := (.seq (.ops [⟨none, .store 1 (.t p10) (.c (.bool true)), none, 0⟩]) [p10] .ret)
def c_judge_rounds_told : CC := (.seq (.ops [⟨(some p5), .box (.t p0), none, 0⟩, ⟨(some p6), .box (.t p1), none, 0⟩, ⟨(some p7), .box (.t p2), none, 0⟩, ⟨(some p9), .box (.t p4), none, 0⟩, ⟨(some p10), .alloc [(.bool false)], none, 0⟩]) [p3, p5, p6, p7, p9, p10] (.seq (.seq (.ops [⟨(some p15), .loadN 3 (.t p6), none, 0⟩, ⟨(some p16), .mv (.t p3), none, 0⟩, ⟨(some p17), .fieldAddr 2 (.t p7), none, 0⟩, ⟨(some p18), .load1 (.t p17), none, 0⟩, ⟨(some p19), .call (.c (.func (.func n_judge_leads) #[] #[])) [(.t p15), (.t p16), (.t p18)], none, 0⟩]) [p5, p7, p9, p10, p19] (.block 0 (.rangeFunc (n_judge_rounds_told * 1000 + 1) [p5, p7, p9, p10] (.t p19) [p20] c_judge_rounds_told_1 c_judge_rounds_told_2))) [p10] c_judge_rounds_told_0))
def f_judge_rounds_told : CFunc := ⟨45, [.cell none p10], c_judge_rounds_told, none⟩
def c_judge_leads_1_0 : CC := (.ops [⟨(some p5), .alloc [(.int .i64 0), (.int .i64 0), (.int .i64 0)], none, 0⟩, ⟨none, .store 3 (.t p5) (.t p9), none, 0⟩])
def c_judge_leads_1_1 : CC := (.block 1 (.seq (.ops [⟨(some p10), .fieldAddr 2 (.t p5), none, 0⟩, ⟨(some p11), .load1 (.t p10), none, 0⟩, ⟨(some p12), .load1 (.t p3), none, 0⟩, ⟨(some p13), .bin .eql .other (.t p11) (.t p12), none, 0⟩, ⟨(some p14), .mv (.t p13), none, 0⟩, ⟨(some p15), .load1 (.t p4), (some (p14, true)), 0⟩, ⟨(some p16), .fieldAddr 1 (.t p5), (some (p14, true)), 0⟩, ⟨(some p17), .load1 (.t p16), (some (p14, true)), 0⟩, ⟨(some p18), .call (.t p15) [(.t p17)], (some (p14, true)), 0⟩, ⟨(some p19), .un .not (.t p18), (some (p14, true)), 0⟩, ⟨(some p20), .pick (.t p14) (.t p19) (.c (.bool false)), none, 0⟩]) [p20] (.cond (.t p20) .ret .skip)))
def r_judge_leads_1_0 : RC := ⟨(n_judge_leads_1 * 1000 + 0), [p3, p4], [p9], c_judge_leads_1_0, c_judge_leads_1_1⟩
def c_judge_leads_1 : CC := (.seq (.ops [⟨(some p4), .box (.t p0), none, 0⟩]) [p1, p2, p3, p4] (.seq (.ops [⟨(some p6), .loadN 3 (.t p1), none, 0⟩, ⟨(some p7), .load1 (.t p2), none, 0⟩, ⟨(some p8), .call (.c (.func (.func n_judge_steps) #[] #[])) [(.t p6), (.t p7)], none, 0⟩]) [p3, p4, p8] (.block 0 (.rangeFunc (n_judge_leads_1 * 1000 + 0) [p3, p4] (.t p8) [p9] c_judge_leads_1_0 c_judge_leads_1_1))))
def f_judge_leads_1 : CFunc := ⟨21, [], c_judge_leads_1, none⟩
def tabF : List (Nat × CFunc) := [(n_cabotagelaw22_JudgeHolds, f_cabotagelaw22_JudgeHolds), (n_judge_Weak, f_judge_Weak), (n_judge_Check, f_judge_Check), (n_cabotageref22_Check, f_cabotageref22_Check), (n_cabotageref22_SameGraph, f_cabotageref22_SameGraph), (n_cabotagelaw22_known, primF true), (n_judge_Tells, f_judge_Tells), (n_cabotageref22_SameFormula, f_cabotageref22_SameFormula), (n_judge_Alike, f_judge_Alike), (n_judge_Holds, f_judge_Holds), (n_cabotageref22_Holds, f_cabotageref22_Holds), (n_judge_Classes, f_judge_Classes), (n_cabotageref03_SameInts, f_cabotageref03_SameInts), (n_judge_weak, f_judge_weak), (n_judge_compare, f_judge_compare), (n_cabotageref22_less, f_cabotageref22_less), (n_cabotagelaw22_edges, f_cabotagelaw22_edges), (n_cabotageref22_Both, f_cabotageref22_Both), (n_judge_isState, f_judge_isState), (n_judge_apart, f_judge_apart), (n_judge_teller_size, f_judge_teller_size), (n_judge_teller_formula, f_judge_teller_formula), (n_judge_both, f_judge_both), (n_judge_alike, f_judge_alike), (n_judge_formed, f_judge_formed), (n_judge_holds, f_judge_holds), (n_cabotageref22_formula, f_cabotageref22_formula), (n_cabotageref22_holdsIn, f_cabotageref22_holdsIn), (n_judge_classes, f_judge_classes), (n_judge_steps, f_judge_steps), (n_slices_Contains_int_int_, f_slices_Contains_int_int_), (n_cmp_Compare_int_, f_cmp_Compare_int_), (n_judge_silent, f_judge_silent), (n_cmp_Or_int_, f_cmp_Or_int_), (n_judge_rounds_first, f_judge_rounds_first), (n_judge_leads, f_judge_leads), (n_slices_Clone_api_JudgeEdge_api_JudgeEdge_, f_slices_Clone_api_JudgeEdge_api_JudgeEdge_), (n_judge_steps_1, f_judge_steps_1), (n_slices_BinarySearchFunc_api_JudgeEdge_api_JudgeEdge_int_, f_slices_BinarySearchFunc_api_JudgeEdge_api_JudgeEdge_int_), (n_judge_steps_1_1, f_judge_steps_1_1), (n_slices_Index_int_int_, f_slices_Index_int_int_), (n_cmp_isNaN_int_, f_cmp_isNaN_int_), (n_judge_rounds_told, f_judge_rounds_told), (n_judge_leads_1, f_judge_leads_1)]
def F : FuncId → Option CFunc := lookF tabF
theorem F_cabotagelaw22_JudgeHolds : F n_cabotagelaw22_JudgeHolds = some f_cabotagelaw22_JudgeHolds := by kernel_rfl
theorem F_judge_Weak : F n_judge_Weak = some f_judge_Weak := by kernel_rfl
theorem F_judge_Check : F n_judge_Check = some f_judge_Check := by kernel_rfl
theorem F_cabotageref22_Check : F n_cabotageref22_Check = some f_cabotageref22_Check := by kernel_rfl
theorem F_cabotageref22_SameGraph : F n_cabotageref22_SameGraph = some f_cabotageref22_SameGraph := by kernel_rfl
theorem F_cabotagelaw22_known : F n_cabotagelaw22_known = some (primF true) := by kernel_rfl
theorem F_judge_Tells : F n_judge_Tells = some f_judge_Tells := by kernel_rfl
theorem F_cabotageref22_SameFormula : F n_cabotageref22_SameFormula = some f_cabotageref22_SameFormula := by kernel_rfl
theorem F_judge_Alike : F n_judge_Alike = some f_judge_Alike := by kernel_rfl
theorem F_judge_Holds : F n_judge_Holds = some f_judge_Holds := by kernel_rfl
theorem F_cabotageref22_Holds : F n_cabotageref22_Holds = some f_cabotageref22_Holds := by kernel_rfl
theorem F_judge_Classes : F n_judge_Classes = some f_judge_Classes := by kernel_rfl
theorem F_cabotageref03_SameInts : F n_cabotageref03_SameInts = some f_cabotageref03_SameInts := by kernel_rfl
theorem F_judge_weak : F n_judge_weak = some f_judge_weak := by kernel_rfl
theorem F_judge_compare : F n_judge_compare = some f_judge_compare := by kernel_rfl
theorem F_cabotageref22_less : F n_cabotageref22_less = some f_cabotageref22_less := by kernel_rfl
theorem F_cabotagelaw22_edges : F n_cabotagelaw22_edges = some f_cabotagelaw22_edges := by kernel_rfl
theorem F_cabotageref22_Both : F n_cabotageref22_Both = some f_cabotageref22_Both := by kernel_rfl
theorem F_judge_isState : F n_judge_isState = some f_judge_isState := by kernel_rfl
theorem F_judge_apart : F n_judge_apart = some f_judge_apart := by kernel_rfl
theorem F_judge_teller_size : F n_judge_teller_size = some f_judge_teller_size := by kernel_rfl
theorem F_judge_teller_formula : F n_judge_teller_formula = some f_judge_teller_formula := by kernel_rfl
theorem F_judge_both : F n_judge_both = some f_judge_both := by kernel_rfl
theorem F_judge_alike : F n_judge_alike = some f_judge_alike := by kernel_rfl
theorem F_judge_formed : F n_judge_formed = some f_judge_formed := by kernel_rfl
theorem F_judge_holds : F n_judge_holds = some f_judge_holds := by kernel_rfl
theorem F_cabotageref22_formula : F n_cabotageref22_formula = some f_cabotageref22_formula := by kernel_rfl
theorem F_cabotageref22_holdsIn : F n_cabotageref22_holdsIn = some f_cabotageref22_holdsIn := by kernel_rfl
theorem F_judge_classes : F n_judge_classes = some f_judge_classes := by kernel_rfl
theorem F_judge_steps : F n_judge_steps = some f_judge_steps := by kernel_rfl
theorem F_slices_Contains_int_int_ : F n_slices_Contains_int_int_ = some f_slices_Contains_int_int_ := by kernel_rfl
theorem F_cmp_Compare_int_ : F n_cmp_Compare_int_ = some f_cmp_Compare_int_ := by kernel_rfl
theorem F_judge_silent : F n_judge_silent = some f_judge_silent := by kernel_rfl
theorem F_cmp_Or_int_ : F n_cmp_Or_int_ = some f_cmp_Or_int_ := by kernel_rfl
theorem F_judge_rounds_first : F n_judge_rounds_first = some f_judge_rounds_first := by kernel_rfl
theorem F_judge_leads : F n_judge_leads = some f_judge_leads := by kernel_rfl
theorem F_slices_Clone_api_JudgeEdge_api_JudgeEdge_ : F n_slices_Clone_api_JudgeEdge_api_JudgeEdge_ = some f_slices_Clone_api_JudgeEdge_api_JudgeEdge_ := by kernel_rfl
theorem F_judge_steps_1 : F n_judge_steps_1 = some f_judge_steps_1 := by kernel_rfl
theorem F_slices_BinarySearchFunc_api_JudgeEdge_api_JudgeEdge_int_ : F n_slices_BinarySearchFunc_api_JudgeEdge_api_JudgeEdge_int_ = some f_slices_BinarySearchFunc_api_JudgeEdge_api_JudgeEdge_int_ := by kernel_rfl
theorem F_judge_steps_1_1 : F n_judge_steps_1_1 = some f_judge_steps_1_1 := by kernel_rfl
theorem F_slices_Index_int_int_ : F n_slices_Index_int_int_ = some f_slices_Index_int_int_ := by kernel_rfl
theorem F_cmp_isNaN_int_ : F n_cmp_isNaN_int_ = some f_cmp_isNaN_int_ := by kernel_rfl
theorem F_judge_rounds_told : F n_judge_rounds_told = some f_judge_rounds_told := by kernel_rfl
theorem F_judge_leads_1 : F n_judge_leads_1 = some f_judge_leads_1 := by kernel_rfl


def K_judge_Check_0 (X : Rn) : K := (fnK [.tmp p2])
def K_judge_Check_1 (X : Rn) : K := (kLoop X [p1, p30, p31, p32] c_judge_Check_1 (kBlk 0 (kSeq X c_judge_Check_0 [] (K_judge_Check_0 X))))
def K_cabotageref22_Check_0 (X : Rn) : K := (fnK [.tmp p2])
def K_cabotageref22_Check_1 (X : Rn) : K := (kLoop X [p1, p3] c_cabotageref22_Check_1 (kBlk 0 (kSeq X c_cabotageref22_Check_0 [] (K_cabotageref22_Check_0 X))))
def K_cabotageref22_SameGraph_0 (X : Rn) : K := (fnK [.tmp p4])
def K_cabotageref22_SameGraph_1 (X : Rn) : K := (kLoop X [p2, p3, p5] c_cabotageref22_SameGraph_1 (kBlk 0 (kSeq X c_cabotageref22_SameGraph_0 [] (K_cabotageref22_SameGraph_0 X))))


def K_cabotageref22_SameFormula_0 (X : Rn) : K := (fnK [.tmp p4])
def K_cabotageref22_SameFormula_1 (X : Rn) : K := (kLoop X [p2, p3, p5] c_cabotageref22_SameFormula_1 (kBlk 0 (kSeq X c_cabotageref22_SameFormula_0 [] (K_cabotageref22_SameFormula_0 X))))




def K_cabotageref03_SameInts_0 (X : Rn) : K := (fnK [.tmp p4])
def K_cabotageref03_SameInts_1 (X : Rn) : K := (kLoop X [p0, p1, p5] c_cabotageref03_SameInts_1 (kBlk 0 (kSeq X c_cabotageref03_SameInts_0 [] (K_cabotageref03_SameInts_0 X))))
def K_judge_weak_0 (X : Rn) : K := (fnK [.cell (some 3) p2])
def K_judge_weak_2 (X : Rn) : K := (K_judge_weak_0 X)
def K_judge_weak_3 (X : Rn) : K := (kLoop X [p1, p2, p3, p4, p39, p40] c_judge_weak_3 (kBlk 2 (kSeq X c_judge_weak_2 [p2, p3] (K_judge_weak_2 X))))
def K_judge_weak_4 (X : Rn) : K := (K_judge_weak_3 X)
def K_judge_weak_5 (X : Rn) : K := (kBlk 3 (kSeq X c_judge_weak_4 [p1, p2, p3, p4, p39, p40] (K_judge_weak_4 X)))
def K_judge_weak_7 (X : Rn) : K := (K_judge_weak_5 X)
def K_judge_weak_13 (X : Rn) : K := (kLoop X [p1, p2, p3, p4, p6, p39, p40, p95, p96, p97] c_judge_weak_13 (kBlk 12 (K_judge_weak_7 X)))
def K_judge_weak_14 (X : Rn) : K := (K_judge_weak_13 X)
def K_judge_weak_15 (X : Rn) : K := (kLoop X [p1, p2, p3, p4, p6, p14, p39, p40, p95, p96, p97, p102, p103, p104] c_judge_weak_15 (kBlk 14 (kBlk 13 (kSeq X c_judge_weak_14 [p1, p2, p3, p4, p6, p39, p40, p95, p96, p97] (K_judge_weak_14 X)))))
def K_judge_weak_16 (X : Rn) : K := (K_judge_weak_15 X)
def K_judge_weak_8 (X : Rn) : K := (kLoop X [p1, p2, p3, p4, p6, p7, p39, p40, p61, p62, p63] c_judge_weak_8 (kBlk 6 (kSeq X c_judge_weak_7 [p1, p2, p3, p4, p6, p7, p39, p40] (K_judge_weak_7 X))))
def K_judge_weak_9 (X : Rn) : K := (K_judge_weak_8 X)
def K_judge_weak_11 (X : Rn) (l : Nat) : K := (finK l)
def K_judge_weak_12 (X : Rn) (l : Nat) : K := (kLoop X [p7, p11, p80, p81, p82] c_judge_weak_12 (kBlk 10 (kBlk 9 (K_judge_weak_11 X l))))
def K_judge_weak_6 (X : Rn) : K := (kLoop X [p1, p2, p3, p4, p6, p7, p39, p40, p47, p48] c_judge_weak_6 (kBlk 4 (kSeq X c_judge_weak_5 [p1, p2, p3, p4, p6, p7, p39, p40] (K_judge_weak_5 X))))
def K_judge_weak_1 (X : Rn) : K := (kLoop X [p1, p2, p3, p4, p27, p28] c_judge_weak_1 (kBlk 0 (kSeq X c_judge_weak_0 [p1, p2, p3, p4] (K_judge_weak_0 X))))


def K_cabotagelaw22_edges_0 (X : Rn) : K := (fnK [.tmp p2])
def K_cabotagelaw22_edges_1 (X : Rn) : K := (kLoop X [p0, p3, p4] c_cabotagelaw22_edges_1 (kBlk 0 (kSeq X c_cabotagelaw22_edges_0 [p3] (K_cabotagelaw22_edges_0 X))))
def K_cabotageref22_Both_0 (X : Rn) : K := (fnK [.cell (some 3) p4])
def K_cabotageref22_Both_1 (X : Rn) : K := (kLoop X [p2, p3, p4, p5, p6] c_cabotageref22_Both_1 (kBlk 0 (kSeq X c_cabotageref22_Both_0 [p4, p5] (K_cabotageref22_Both_0 X))))

def K_judge_apart_0 (X : Rn) : K := (kLoop X [p1, p3, p4] c_judge_apart_0 (kBlk 0 (fnK [.tmp p2])))
def K_judge_apart_1 (X : Rn) : K := (K_judge_apart_0 X)
def K_judge_apart_2 (X : Rn) : K := (kBlk 1 (kSeq X c_judge_apart_1 [p1, p3, p4] (K_judge_apart_1 X)))
def K_judge_apart_8 (X : Rn) : K := (kLoop X [p1, p3, p4, p70, p71, p72] c_judge_apart_8 (kBlk 6 (K_judge_apart_2 X)))
def K_judge_apart_3 (X : Rn) : K := (kLoop X [p1, p3, p4, p5, p18, p19] c_judge_apart_3 (kBlk 2 (kSeq X c_judge_apart_2 [p1, p3, p4, p5] (K_judge_apart_2 X))))
def K_judge_apart_4 (X : Rn) : K := (K_judge_apart_3 X)
def K_judge_apart_5 (X : Rn) : K := (kLoop X [p1, p3, p4, p5, p6, p18, p19, p22, p23] c_judge_apart_5 (kBlk 4 (kBlk 3 (kSeq X c_judge_apart_4 [p1, p3, p4, p5, p18, p19] (K_judge_apart_4 X)))))
def K_judge_apart_6 (X : Rn) : K := (K_judge_apart_5 X)
def K_judge_apart_7 (X : Rn) : K := (kBlk 5 (kSeq X c_judge_apart_6 [p1, p3, p4, p5, p6, p18, p19, p22, p23] (K_judge_apart_6 X)))
def K_judge_teller_size_0 (X : Rn) : K := (fnK [.tmp p6])
def K_judge_teller_size_2 (X : Rn) (l : Nat) : K := (finK l)
def K_judge_teller_formula_0 (X : Rn) : K := (fnK [.cell (some 3) p6])
def K_judge_teller_formula_2 (X : Rn) (l : Nat) : K := (finK l)

def K_judge_alike_0 (X : Rn) : K := (fnK [.tmp p4])
def K_judge_alike_1 (X : Rn) : K := (kLoop X [p2, p5, p22, p23, p24] c_judge_alike_1 (kBlk 0 (kSeq X c_judge_alike_0 [p2, p5] (K_judge_alike_0 X))))
def K_judge_formed_0 (X : Rn) : K := (fnK [.tmp p6])
def K_judge_formed_2 (X : Rn) : K := (K_judge_formed_0 X)
def K_judge_formed_3 (X : Rn) : K := (kLoop X [p2, p3, p59, p60, p61] c_judge_formed_3 (kBlk 1 (kSeq X c_judge_formed_2 [] (K_judge_formed_2 X))))
def K_judge_formed_1 (X : Rn) : K := (kBlk 0 (kSeq X c_judge_formed_0 [p2, p3, p4, p7] (K_judge_formed_0 X)))
def K_judge_holds_0 (X : Rn) : K := (fnK [.tmp p4])
def K_judge_holds_1 (X : Rn) : K := (kLoop X [p5, p65, p66, p67] c_judge_holds_1 (kBlk 7 (kBlk 0 (kSeq X c_judge_holds_0 [p5] (K_judge_holds_0 X)))))
def K_judge_holds_2 (X : Rn) : K := (kLoop X [p3, p5, p8, p87, p88, p89] c_judge_holds_2 (kBlk 9 (kBlk 0 (kSeq X c_judge_holds_0 [p5] (K_judge_holds_0 X)))))
def K_judge_holds_3 (X : Rn) : K := (kBlk 0 (kSeq X c_judge_holds_0 [p5] (K_judge_holds_0 X)))
def K_judge_holds_5 (X : Rn) : K := (kLoop X [p2, p5, p31, p32, p33] c_judge_holds_5 (kBlk 3 (K_judge_holds_3 X)))
def K_judge_holds_6 (X : Rn) : K := (K_judge_holds_5 X)
def K_judge_holds_7 (X : Rn) : K := (kLoop X [p2, p5, p31, p32, p33, p39, p40, p41] c_judge_holds_7 (kBlk 5 (kBlk 4 (kSeq X c_judge_holds_6 [p2, p5, p31, p32, p33] (K_judge_holds_6 X)))))
def K_judge_holds_4 (X : Rn) : K := (kLoop X [p2, p3, p5, p22, p23] c_judge_holds_4 (kBlk 1 (kSeq X c_judge_holds_3 [p2, p3, p5] (K_judge_holds_3 X))))
def K_cabotageref22_formula_0 (X : Rn) : K := (fnK [.tmp p6])
def K_cabotageref22_formula_1 (X : Rn) : K := (K_cabotageref22_formula_0 X)
def K_cabotageref22_formula_2 (X : Rn) : K := (kLoop X [p2, p3, p4, p7] c_cabotageref22_formula_2 (kBlk 1 (kSeq X c_cabotageref22_formula_1 [] (K_cabotageref22_formula_1 X))))
def K_cabotageref22_holdsIn_0 (X : Rn) : K := (fnK [.tmp p4])
def K_cabotageref22_holdsIn_2 (X : Rn) : K := (K_cabotageref22_holdsIn_0 X)
def K_cabotageref22_holdsIn_3 (X : Rn) : K := (kLoop X [p2, p3, p5, p7] c_cabotageref22_holdsIn_3 (kBlk 2 (kSeq X c_cabotageref22_holdsIn_2 [p5] (K_cabotageref22_holdsIn_2 X))))
def K_cabotageref22_holdsIn_4 (X : Rn) : K := (K_cabotageref22_holdsIn_3 X)
def K_cabotageref22_holdsIn_5 (X : Rn) : K := (kBlk 3 (kSeq X c_cabotageref22_holdsIn_4 [p2, p3, p5, p7] (K_cabotageref22_holdsIn_4 X)))
def K_cabotageref22_holdsIn_8 (X : Rn) : K := (kLoop X [p2, p3, p5, p7, p8, p10] c_cabotageref22_holdsIn_8 (kBlk 7 (K_cabotageref22_holdsIn_5 X)))
def K_cabotageref22_holdsIn_9 (X : Rn) : K := (K_cabotageref22_holdsIn_8 X)
def K_cabotageref22_holdsIn_6 (X : Rn) : K := (kLoop X [p2, p3, p5, p7, p8, p9] c_cabotageref22_holdsIn_6 (kBlk 4 (kSeq X c_cabotageref22_holdsIn_5 [p2, p3, p5, p7, p8] (K_cabotageref22_holdsIn_5 X))))
def K_cabotageref22_holdsIn_7 (X : Rn) : K := (K_cabotageref22_holdsIn_6 X)
def K_cabotageref22_holdsIn_1 (X : Rn) : K := (kLoop X [p2, p3, p5, p6] c_cabotageref22_holdsIn_1 (kBlk 0 (kSeq X c_cabotageref22_holdsIn_0 [p2, p3, p5] (K_cabotageref22_holdsIn_0 X))))
def K_judge_classes_0 (X : Rn) : K := (fnK [.tmp p2])
def K_judge_classes_1 (X : Rn) : K := (kLoop X [p3, p4, p5, p14, p15] c_judge_classes_1 (kBlk 0 (kSeq X c_judge_classes_0 [p4] (K_judge_classes_0 X))))
def K_judge_classes_2 (X : Rn) : K := (K_judge_classes_1 X)
def K_judge_classes_3 (X : Rn) : K := (kBlk 1 (kSeq X c_judge_classes_2 [p3, p4, p5, p14, p15] (K_judge_classes_2 X)))
def K_judge_classes_4 (X : Rn) : K := (kLoop X [p3, p4, p5, p6, p14, p15, p18, p19, p20] c_judge_classes_4 (kBlk 2 (kSeq X c_judge_classes_3 [p3, p4, p5, p6, p14, p15] (K_judge_classes_3 X))))



def K_judge_silent_0 (X : Rn) : K := (fnK [.tmp p4])
def K_judge_silent_1 (X : Rn) : K := (kLoop X [p2, p4, p5, p6] c_judge_silent_1 (kBlk 0 (kSeq X c_judge_silent_0 [p5] (K_judge_silent_0 X))))
def K_judge_silent_2 (X : Rn) : K := (K_judge_silent_1 X)
def K_judge_silent_4 (X : Rn) (l : Nat) : K := (finK l)
def K_cmp_Or_int__0 (X : Rn) : K := (fnK [.tmp p2])
def K_cmp_Or_int__1 (X : Rn) : K := (kLoop X [p3, p6, p7, p8] c_cmp_Or_int__1 (kBlk 0 (kSeq X c_cmp_Or_int__0 [p3] (K_cmp_Or_int__0 X))))
def K_judge_rounds_first_0 (X : Rn) : K := (fnK [.cell (some 3) p10, .cell none p11])
def K_judge_rounds_first_2 (X : Rn) (l : Nat) : K := (finK l)


def K_judge_steps_1_0 (X : Rn) : K := (kLoop X [p0, p2, p18, p19, p20] c_judge_steps_1_0 (kBlk 0 (fnK [])))
def K_slices_BinarySearchFunc_api_JudgeEdge_api_JudgeEdge_int__0 (X : Rn) : K := (fnK [.tmp p6, .tmp p7])
def K_slices_BinarySearchFunc_api_JudgeEdge_api_JudgeEdge_int__1 (X : Rn) : K := (kLoop X [p0, p1, p2, p8, p9, p10] c_slices_BinarySearchFunc_api_JudgeEdge_api_JudgeEdge_int__1 (kBlk 0 (kSeq X c_slices_BinarySearchFunc_api_JudgeEdge_api_JudgeEdge_int__0 [p0, p1, p2, p8, p9] (K_slices_BinarySearchFunc_api_JudgeEdge_api_JudgeEdge_int__0 X))))

def K_slices_Index_int_int__0 (X : Rn) : K := (fnK [.tmp p4])
def K_slices_Index_int_int__1 (X : Rn) : K := (kLoop X [p0, p1, p7, p8] c_slices_Index_int_int__1 (kBlk 0 (kSeq X c_slices_Index_int_int__0 [] (K_slices_Index_int_int__0 X))))

def K_judge_rounds_told_0 (X : Rn) : K := (fnK [.cell none p10])
def K_judge_rounds_told_2 (X : Rn) (l : Nat) : K := (finK l)
def K_judge_leads_1_1 (X : Rn) (l : Nat) : K := (finK l)

end Go.Ideal.J
end
noncomputable section
namespace Go.Ideal.X
open Go Go.Ideal Go.Ideal.J
set_option maxRecDepth 100000
set_option linter.unusedVariables false
abbrev Z := List Value → H → Option Out
def kSelf (L : List (List Bool)) (z : Z) (k : K) : K := ⟨fun s h => getL L s fun vs => z vs h, k.ext, k.ret⟩
def tabF : List (Nat × CFunc) := [(n_judge_Weak, f_judge_Weak), (n_judge_Check, f_judge_Check), (n_cabotageref22_SameGraph, f_cabotageref22_SameGraph), (n_cabotagelaw22_known, f_cabotagelaw22_known), (n_judge_Tells, f_judge_Tells), (n_cabotageref22_SameFormula, f_cabotageref22_SameFormula), (n_judge_Alike, f_judge_Alike), (n_judge_Classes, f_judge_Classes), (n_cabotageref03_SameInts, f_cabotageref03_SameInts), (n_judge_weak, f_judge_weak), (n_judge_compare, f_judge_compare), (n_cabotagelaw22_edges, f_cabotagelaw22_edges), (n_cabotageref22_Both, f_cabotageref22_Both), (n_judge_isState, f_judge_isState), (n_judge_apart, f_judge_apart), (n_judge_teller_size, f_judge_teller_size), (n_judge_teller_formula, f_judge_teller_formula), (n_judge_both, f_judge_both), (n_judge_alike, f_judge_alike), (n_judge_classes, f_judge_classes), (n_judge_steps, f_judge_steps), (n_slices_Contains_int_int_, f_slices_Contains_int_int_), (n_cmp_Compare_int_, f_cmp_Compare_int_), (n_judge_silent, f_judge_silent), (n_cmp_Or_int_, f_cmp_Or_int_), (n_judge_rounds_first, f_judge_rounds_first), (n_judge_leads, f_judge_leads), (n_slices_Clone_api_JudgeEdge_api_JudgeEdge_, f_slices_Clone_api_JudgeEdge_api_JudgeEdge_), (n_judge_steps_1, f_judge_steps_1), (n_slices_BinarySearchFunc_api_JudgeEdge_api_JudgeEdge_int_, f_slices_BinarySearchFunc_api_JudgeEdge_api_JudgeEdge_int_), (n_judge_steps_1_1, f_judge_steps_1_1), (n_slices_Index_int_int_, f_slices_Index_int_int_), (n_cmp_isNaN_int_, f_cmp_isNaN_int_), (n_judge_rounds_told, f_judge_rounds_told), (n_judge_leads_1, f_judge_leads_1)]
def F : FuncId → Option CFunc := lookF tabF

def KZ_judge_Check_0 (X : Rn) : K := (fnK [.tmp p2])
def KZ_judge_Check_1 (X : Rn) (z_1 : Z) : K := (kSelf [p1, p30, p31, p32] z_1 (kBlk 0 (kSeq X c_judge_Check_0 [] (KZ_judge_Check_0 X))))
def KZ_cabotageref22_SameGraph_0 (X : Rn) : K := (fnK [.tmp p4])
def KZ_cabotageref22_SameGraph_1 (X : Rn) (z_1 : Z) : K := (kSelf [p2, p3, p5] z_1 (kBlk 0 (kSeq X c_cabotageref22_SameGraph_0 [] (KZ_cabotageref22_SameGraph_0 X))))


def KZ_cabotageref22_SameFormula_0 (X : Rn) : K := (fnK [.tmp p4])
def KZ_cabotageref22_SameFormula_1 (X : Rn) (z_1 : Z) : K := (kSelf [p2, p3, p5] z_1 (kBlk 0 (kSeq X c_cabotageref22_SameFormula_0 [] (KZ_cabotageref22_SameFormula_0 X))))


def KZ_cabotageref03_SameInts_0 (X : Rn) : K := (fnK [.tmp p4])
def KZ_cabotageref03_SameInts_1 (X : Rn) (z_1 : Z) : K := (kSelf [p0, p1, p5] z_1 (kBlk 0 (kSeq X c_cabotageref03_SameInts_0 [] (KZ_cabotageref03_SameInts_0 X))))
def KZ_judge_weak_0 (X : Rn) : K := (fnK [.cell (some 3) p2])
def KZ_judge_weak_2 (X : Rn) : K := (KZ_judge_weak_0 X)
def KZ_judge_weak_3 (X : Rn) (z_3 : Z) : K := (kSelf [p1, p2, p3, p4, p39, p40] z_3 (kBlk 2 (kSeq X c_judge_weak_2 [p2, p3] (KZ_judge_weak_2 X))))
def KZ_judge_weak_4 (X : Rn) (z_3 : Z) : K := (KZ_judge_weak_3 X z_3)
def KZ_judge_weak_5 (X : Rn) (z_3 : Z) : K := (kBlk 3 (kSeq X c_judge_weak_4 [p1, p2, p3, p4, p39, p40] (KZ_judge_weak_4 X z_3)))
def KZ_judge_weak_7 (X : Rn) (z_3 : Z) : K := (KZ_judge_weak_5 X z_3)
def KZ_judge_weak_13 (X : Rn) (z_3 z_13 : Z) : K := (kSelf [p1, p2, p3, p4, p6, p39, p40, p95, p96, p97] z_13 (kBlk 12 (KZ_judge_weak_7 X z_3)))
def KZ_judge_weak_14 (X : Rn) (z_3 z_13 : Z) : K := (KZ_judge_weak_13 X z_3 z_13)
def KZ_judge_weak_15 (X : Rn) (z_3 z_13 z_15 : Z) : K := (kSelf [p1, p2, p3, p4, p6, p14, p39, p40, p95, p96, p97, p102, p103, p104] z_15 (kBlk 14 (kBlk 13 (kSeq X c_judge_weak_14 [p1, p2, p3, p4, p6, p39, p40, p95, p96, p97] (KZ_judge_weak_14 X z_3 z_13)))))
def KZ_judge_weak_16 (X : Rn) (z_3 z_13 z_15 : Z) : K := (KZ_judge_weak_15 X z_3 z_13 z_15)
def KZ_judge_weak_8 (X : Rn) (z_3 z_8 : Z) : K := (kSelf [p1, p2, p3, p4, p6, p7, p39, p40, p61, p62, p63] z_8 (kBlk 6 (kSeq X c_judge_weak_7 [p1, p2, p3, p4, p6, p7, p39, p40] (KZ_judge_weak_7 X z_3))))
def KZ_judge_weak_9 (X : Rn) (z_3 z_8 : Z) : K := (KZ_judge_weak_8 X z_3 z_8)
def KZ_judge_weak_11 (X : Rn) (l : Nat) : K := (finK l)
def KZ_judge_weak_12 (X : Rn) (l : Nat) (z_12 : Z) : K := (kSelf [p7, p11, p80, p81, p82] z_12 (kBlk 10 (kBlk 9 (KZ_judge_weak_11 X l))))
def KZ_judge_weak_6 (X : Rn) (z_3 z_6 : Z) : K := (kSelf [p1, p2, p3, p4, p6, p7, p39, p40, p47, p48] z_6 (kBlk 4 (kSeq X c_judge_weak_5 [p1, p2, p3, p4, p6, p7, p39, p40] (KZ_judge_weak_5 X z_3))))
def KZ_judge_weak_1 (X : Rn) (z_1 : Z) : K := (kSelf [p1, p2, p3, p4, p27, p28] z_1 (kBlk 0 (kSeq X c_judge_weak_0 [p1, p2, p3, p4] (KZ_judge_weak_0 X))))

def KZ_cabotagelaw22_edges_0 (X : Rn) : K := (fnK [.tmp p2])
def KZ_cabotagelaw22_edges_1 (X : Rn) (z_1 : Z) : K := (kSelf [p0, p3, p4] z_1 (kBlk 0 (kSeq X c_cabotagelaw22_edges_0 [p3] (KZ_cabotagelaw22_edges_0 X))))
def KZ_cabotageref22_Both_0 (X : Rn) : K := (fnK [.cell (some 3) p4])
def KZ_cabotageref22_Both_1 (X : Rn) (z_1 : Z) : K := (kSelf [p2, p3, p4, p5, p6] z_1 (kBlk 0 (kSeq X c_cabotageref22_Both_0 [p4, p5] (KZ_cabotageref22_Both_0 X))))

def KZ_judge_apart_0 (X : Rn) (z_0 : Z) : K := (kSelf [p1, p3, p4] z_0 (kBlk 0 (fnK [.tmp p2])))
def KZ_judge_apart_1 (X : Rn) (z_0 : Z) : K := (KZ_judge_apart_0 X z_0)
def KZ_judge_apart_2 (X : Rn) (z_0 : Z) : K := (kBlk 1 (kSeq X c_judge_apart_1 [p1, p3, p4] (KZ_judge_apart_1 X z_0)))
def KZ_judge_apart_8 (X : Rn) (z_0 z_8 : Z) : K := (kSelf [p1, p3, p4, p70, p71, p72] z_8 (kBlk 6 (KZ_judge_apart_2 X z_0)))
def KZ_judge_apart_3 (X : Rn) (z_0 z_3 : Z) : K := (kSelf [p1, p3, p4, p5, p18, p19] z_3 (kBlk 2 (kSeq X c_judge_apart_2 [p1, p3, p4, p5] (KZ_judge_apart_2 X z_0))))
def KZ_judge_apart_4 (X : Rn) (z_0 z_3 : Z) : K := (KZ_judge_apart_3 X z_0 z_3)
def KZ_judge_apart_5 (X : Rn) (z_0 z_3 z_5 : Z) : K := (kSelf [p1, p3, p4, p5, p6, p18, p19, p22, p23] z_5 (kBlk 4 (kBlk 3 (kSeq X c_judge_apart_4 [p1, p3, p4, p5, p18, p19] (KZ_judge_apart_4 X z_0 z_3)))))
def KZ_judge_apart_6 (X : Rn) (z_0 z_3 z_5 : Z) : K := (KZ_judge_apart_5 X z_0 z_3 z_5)
def KZ_judge_apart_7 (X : Rn) (z_0 z_3 z_5 : Z) : K := (kBlk 5 (kSeq X c_judge_apart_6 [p1, p3, p4, p5, p6, p18, p19, p22, p23] (KZ_judge_apart_6 X z_0 z_3 z_5)))
def KZ_judge_teller_size_0 (X : Rn) : K := (fnK [.tmp p6])
def KZ_judge_teller_size_2 (X : Rn) (l : Nat) : K := (finK l)
def KZ_judge_teller_formula_0 (X : Rn) : K := (fnK [.cell (some 3) p6])
def KZ_judge_teller_formula_2 (X : Rn) (l : Nat) : K := (finK l)

def KZ_judge_alike_0 (X : Rn) : K := (fnK [.tmp p4])
def KZ_judge_alike_1 (X : Rn) (z_1 : Z) : K := (kSelf [p2, p5, p22, p23, p24] z_1 (kBlk 0 (kSeq X c_judge_alike_0 [p2, p5] (KZ_judge_alike_0 X))))
def KZ_judge_classes_0 (X : Rn) : K := (fnK [.tmp p2])
def KZ_judge_classes_1 (X : Rn) (z_1 : Z) : K := (kSelf [p3, p4, p5, p14, p15] z_1 (kBlk 0 (kSeq X c_judge_classes_0 [p4] (KZ_judge_classes_0 X))))
def KZ_judge_classes_2 (X : Rn) (z_1 : Z) : K := (KZ_judge_classes_1 X z_1)
def KZ_judge_classes_3 (X : Rn) (z_1 : Z) : K := (kBlk 1 (kSeq X c_judge_classes_2 [p3, p4, p5, p14, p15] (KZ_judge_classes_2 X z_1)))
def KZ_judge_classes_4 (X : Rn) (z_1 z_4 : Z) : K := (kSelf [p3, p4, p5, p6, p14, p15, p18, p19, p20] z_4 (kBlk 2 (kSeq X c_judge_classes_3 [p3, p4, p5, p6, p14, p15] (KZ_judge_classes_3 X z_1))))



def KZ_judge_silent_0 (X : Rn) : K := (fnK [.tmp p4])
def KZ_judge_silent_1 (X : Rn) (z_1 : Z) : K := (kSelf [p2, p4, p5, p6] z_1 (kBlk 0 (kSeq X c_judge_silent_0 [p5] (KZ_judge_silent_0 X))))
def KZ_judge_silent_2 (X : Rn) (z_1 : Z) : K := (KZ_judge_silent_1 X z_1)
def KZ_judge_silent_4 (X : Rn) (l : Nat) : K := (finK l)
def KZ_cmp_Or_int__0 (X : Rn) : K := (fnK [.tmp p2])
def KZ_cmp_Or_int__1 (X : Rn) (z_1 : Z) : K := (kSelf [p3, p6, p7, p8] z_1 (kBlk 0 (kSeq X c_cmp_Or_int__0 [p3] (KZ_cmp_Or_int__0 X))))
def KZ_judge_rounds_first_0 (X : Rn) : K := (fnK [.cell (some 3) p10, .cell none p11])
def KZ_judge_rounds_first_2 (X : Rn) (l : Nat) : K := (finK l)


def KZ_judge_steps_1_0 (X : Rn) (z_0 : Z) : K := (kSelf [p0, p2, p18, p19, p20] z_0 (kBlk 0 (fnK [])))
def KZ_slices_BinarySearchFunc_api_JudgeEdge_api_JudgeEdge_int__0 (X : Rn) : K := (fnK [.tmp p6, .tmp p7])
def KZ_slices_BinarySearchFunc_api_JudgeEdge_api_JudgeEdge_int__1 (X : Rn) (z_1 : Z) : K := (kSelf [p0, p1, p2, p8, p9, p10] z_1 (kBlk 0 (kSeq X c_slices_BinarySearchFunc_api_JudgeEdge_api_JudgeEdge_int__0 [p0, p1, p2, p8, p9] (KZ_slices_BinarySearchFunc_api_JudgeEdge_api_JudgeEdge_int__0 X))))

def KZ_slices_Index_int_int__0 (X : Rn) : K := (fnK [.tmp p4])
def KZ_slices_Index_int_int__1 (X : Rn) (z_1 : Z) : K := (kSelf [p0, p1, p7, p8] z_1 (kBlk 0 (kSeq X c_slices_Index_int_int__0 [] (KZ_slices_Index_int_int__0 X))))

def KZ_judge_rounds_told_0 (X : Rn) : K := (fnK [.cell none p10])
def KZ_judge_rounds_told_2 (X : Rn) (l : Nat) : K := (finK l)
def KZ_judge_leads_1_1 (X : Rn) (l : Nat) : K := (finK l)

end Go.Ideal.X
end
