/- JudgeWeak: for any two graphs the law answers true: the weak graph of a weak graph is the same one, and graphs that are alike have weak graphs that are, unless one of these has too many edges. No condition. -/
import Derived.Test.YtanaepeilcjhcaaRows
import Derived.Test.YtanaepeilcjhcaaE
set_option linter.unusedSimpArgs false
set_option linter.unusedVariables false
set_option linter.unusedSimpArgs false
set_option linter.unusedVariables false
set_option maxRecDepth 10000
namespace Go.Ideal.J
open Go Go.Ideal

/-- for each state, where silent steps lead. -/
def Aft (es : List Ed) (N : Nat) (h : H) (avs : List Value) (bot top : Nat) (i : Nat) : Prop :=
  ∀ k : Nat, k < i → ∃ (slv : Value) (vs : List Int), avs[k]? = some slv ∧ Row h 1 slv (vs.map inL) ∧ (∀ b o n c, slv = .slice (some ⟨b, o, none⟩) n c → bot < b ∧ b < top) ∧ (∀ v ∈ vs, 0 ≤ v ∧ v < (N : Int)) ∧ vs.Nodup ∧ (∀ c : Nat, (c : Int) ∈ vs ↔ Sil es k c)

theorem weak_round (es : List Ed) (N : Nat) (hN : N ≤ 1000) (lab : Nat) (x : Ed) (hx : x.2.2 = (lab : Int)) (to : Nat) (hto : x.2.1 = (to : Int)) (L pa A pt B b : Nat) (e0 : Nat) (avs : List Value) (hal : avs.length = N) (bl : List Nat) (hbl : bl[lab]? = some b) (lo hi : Nat) (slv : Value) (vs : List Int) (h1 : H)
    (hL : h1.get L = some (.loop .ready none (setL [p4, p7] [ptr pa, ptr pt]) r_judge_weak_10)) (hLl : L < h1.next) (hLh : hi ≤ L) (T : Nat → Nat → Prop) (ht : There h1 B bl lo hi N T) (hpa : h1.get pa = some (.cells [slF A N] 0)) (hpal : pa < lo) (hA : h1.get A = some (.cells avs e0)) (hAl : A < lo)
    (hpt : h1.get pt = some (.cells [slF B bl.length] 0)) (hptl : pt < lo) (hav : avs[to]? = some slv) (hrow : Row h1 1 slv (vs.map inL)) (hsl : ∀ b o n c, slv = .slice (some ⟨b, o, none⟩) n c → b < lo) (hvs : ∀ v ∈ vs, 0 ≤ v ∧ v < (N : Int)) (hnd : vs.Nodup) {P : Value → H → Prop}
    (hP : ∀ h', FrD (fun j => (lo ≤ j ∧ j < hi) ∨ j = L) h1 h' → h'.get L = some (.loop .ready none (setL [p4, p7] [ptr pa, ptr pt]) r_judge_weak_10) → There h' B bl lo hi N (fun l c => T l c ∨ (l = lab ∧ (c : Int) ∈ vs)) → P (.bool true) h') :
    Ret F (.func (.yield L) #[] #[]) [edV x] h1 P := by
  refine Ret.round hL ?_
  have hin := ht.hin
  have hBo := ht.out
  have hlen : vs.length ≤ N := nodup_short hnd hvs
  have hlo : lo ≤ hi := by have := ht.bnd _ (List.mem_of_getElem? hbl); omega
  rw [s_judge_weak_10]
  simp (disch := omega)
  rw [busyK_eq (by rw [get_new_ne (by omega)]; exact hL), s_judge_weak_11]
  obtain ⟨h2, eh2⟩ : ∃ h2, h2 = (h1.new (.cells (edL x) 0)).put L (.loop .busy none (setL [p4, p7] [ptr pa, ptr pt]) r_judge_weak_10) := ⟨_, rfl⟩
  have hf2 : FrD (fun j => j = L) h1 h2 := by rw [eh2]; exact ((FrD.refl (fun j => j = L) _).new _).put (.inr rfl) _
  have hn2 : h2.next = h1.next + 1 := by rw [eh2]; simp
  have gx : h2.get h1.next = some (.cells (edL x) 0) := by rw [eh2]; simp (disch := omega)
  have gpa : h2.get pa = some (.cells [slF A N] 0) := (hf2.get _ (by omega) (by omega)).trans hpa
  have gA : h2.get A = some (.cells avs e0) := (hf2.get _ (by omega) (by omega)).trans hA
  have gpt : h2.get pt = some (.cells [slF B bl.length] 0) := (hf2.get _ (by omega) (by omega)).trans hpt
  have gL : h2.get L = some (.loop .busy none (setL [p4, p7] [ptr pa, ptr pt]) r_judge_weak_10) := by rw [eh2]; exact get_put_eq rfl
  have hv := hrow.slvM
  have htk : takeC 1 (dropN to avs) = some [slv] := takeC_at hav hv.clean
  have htoN : to < N := by
    rcases Nat.lt_or_ge to avs.length with h | h
    · omega
    · rw [List.getElem?_eq_none h] at hav; cases hav
  have ht2 := ht.fr hf2 (by omega) (by omega)
  rw [← eh2]
  have := weak12 vs (by omega) N hvs lab x hx L pt h1.next B b bl hbl lo hi slv h2 (hrow.frD hf2 (fun b o n c e => by have := hsl b o n c e; omega)) (fun b o n c e => by have := hsl b o n c e; omega) gpt hptl gx (by omega) (by omega) (by omega) (P := P) T
    (fun h' hf' ht' => by
      have gL' : h'.get L = some (.loop .busy none (setL [p4, p7] [ptr pa, ptr pt]) r_judge_weak_10) := (hf'.get _ (by omega) (by omega)).trans gL
      rw [fin_none gL']
      refine OkV.val (hP _ ?_ (get_put_eq rfl) ?_)
      · refine FrD.put ⟨Nat.le_trans hf2.next hf'.next, fun i hi hd => (hf'.get _ (by omega) (fun h => hd (.inl h))).trans (hf2.get _ hi (fun h => hd (.inr h)))⟩ (.inr (.inr rfl)) _
      · exact ht'.fr ((FrD.refl _ _).put (D := fun j => j = L) (.inr rfl) _) (by omega) (by omega)) vs.length 0 h2 (by omega) (.refl _ _) (ht2.congr (by simp))
  refine OkV.eq (this.lp (l_judge_weak_12 L F _ _ _ _ _ _)) ?_
  obtain ⟨x1, x2, x3⟩ := x
  obtain rfl : x2 = (to : Int) := hto
  simp (disch := omega) [gpa, gx, gA, htoN, htk, hv.one, hv.len]

/-- what is marked behind the first states. -/
def TK (es : List Ed) (ks : List Int) (l c : Nat) : Prop := ∃ k ∈ ks, (l = 0 ∧ (c : Int) = k) ∨ ∃ x ∈ outs es k, x.2.2 = (l : Int) ∧ Sil es x.2.1.toNat c
theorem weak8 (es : List Ed) (hs : SortedF es) (hsz : es.length ≤ 1000) (N K : Nat) (hN : N ≤ 1000) (hK0 : 0 < K) (lb : Int) (hlb : lb = (K : Int)) (hin : inB (N : Int) es) (hlab : ∀ x ∈ es, 0 ≤ x.2.2 ∧ x.2.2 < lb) (sl : Value) (pg pr po pa A pt B : Nat) (e0 : Nat) (avs : List Value) (hal : avs.length = N) (bl : List Nat) (hbl : bl.length = K) (lo hi : Nat) (h0 : H)
    (hrow0 : Row h0 3 sl (es.map edL)) (hslo : ∀ b o n c, sl = .slice (some ⟨b, o, none⟩) n c → b < lo) (hpg : pg < lo) (hgg : h0.get pg = some (.cells (gL (N : Int) lb sl) 0)) (hpa : h0.get pa = some (.cells [slF A N] 0)) (hpal : pa < lo) (hA : h0.get A = some (.cells avs e0)) (hAl : A < lo) (hpt : h0.get pt = some (.cells [slF B K] 0)) (hptl : pt < lo) (bot : Nat) (haft : Aft es N h0 avs bot lo N)
    (n t39 t40 : Value) (ks : List Int) (hks : ∀ k ∈ ks, 0 ≤ k ∧ k < (N : Int)) (hksl : ks.length ≤ N) (slk : Value) (hrowk : Row h0 1 slk (ks.map inL)) (hslk : ∀ b o n c, slk = .slice (some ⟨b, o, none⟩) n c → b < lo) (hh0 : hi ≤ h0.next) {P : Value → H → Prop}
    (hP : ∀ h', FrD (fun j => lo ≤ j ∧ j < hi) h0 h' → There h' B bl lo hi N (TK es ks) → OkV (sh (rI F) c_judge_weak_7 (K_judge_weak_7 (rI F)) (setL [p1, p2, p3, p4, p6, p7, p39, p40] [ptr pg, ptr pr, ptr po, ptr pa, n, ptr pt, t39, t40]) h') P) :
    ∀ (m j : Nat) (h : H), j + m = ks.length → FrD (fun j => lo ≤ j ∧ j < hi) h0 h → There h B bl lo hi N (TK es (ks.take j)) →
    OkV (sh (rI F) c_judge_weak_8 (K_judge_weak_8 (rI F)) (setL [p1, p2, p3, p4, p6, p7, p39, p40, p61, p62, p63] [ptr pg, ptr pr, ptr po, ptr pa, n, ptr pt, t39, t40, slk, .int .i64 (ks.length : Int), .int .i64 (j : Int)]) h) P := by
  intro m
  induction m with
  | zero =>
    intro j h hj hf ht
    have e : j = ks.length := by omega
    subst e
    rw [List.take_length] at ht
    rw [s_judge_weak_8]
    simp (disch := omega)
    exact hP h hf ht
  | succ m ih =>
    intro j h hj hf ht
    have hjl : j < ks.length := by omega
    have hx : (ks.map inL)[j]? = some (inL ks[j]) := by simp [hjl]
    have hkb := hks ks[j] (List.getElem_mem hjl)
    have htk : ks.take (j + 1) = ks.take j ++ [ks[j]] := by rw [List.take_add_one, List.getElem?_eq_getElem hjl]; rfl
    obtain ⟨b1, o, cs, e, hv, hb, hg, htc⟩ := (hrowk.frD hf (fun b o n c e => by have := hslk b o n c e; omega)).index hx
    generalize ks[j] = k at *
    obtain ⟨k, rfl⟩ := Int.eq_ofNat_of_zero_le hkb.1
    have hkN : k < N := by omega
    have hlb0 : bl[0]? = some bl[0] := List.getElem?_eq_getElem (by omega)
    obtain ⟨bs, r1, r2, r3⟩ := ht.row 0 _ hlb0
    have hbb := ht.bnd _ (List.mem_of_getElem? hlb0)
    have hB := ht.get
    have hBt := ht.slice hlb0
    have hBlo := ht.out
    rw [dropN_z] at hBt
    generalize bl[0] = b0 at *
    have hfn := hf.next
    have gpg : h.get pg = some (.cells (gL (N : Int) lb sl) 0) := (hf.get _ (by omega) (by omega)).trans hgg
    have gpt : h.get pt = some (.cells [slF B K] 0) := (hf.get _ (by omega) (by omega)).trans hpt
    have hvg := hrow0.slvM
    have hw : writeAt (boolsL bs) k [.bool true] = some (boolsL (bs.set k true)) := by
      rw [writeAt_at (by simpa [r2] using hkN)]; simp [List.map_set]
    have hset := ht.set hlb0 hkN r1
    rw [show boolsL (bs.set k true) = (boolsL bs).set k (.bool true) by simp [List.map_set]] at hset
    rw [s_judge_weak_8]
    simp (disch := omega) [hjl, hv, hg, htc, gpt, hK0, hB, hBt, hkN, r1, hw, gpg, steps_ok, hvg.clean, hvg.take]
    obtain ⟨L, eL⟩ : ∃ L, L = h.next + 1 + 1 := ⟨_, rfl⟩
    obtain ⟨h1, eh1⟩ : ∃ h1, h1 = h.put b0 (.cells ((boolsL bs).set k (.bool true)) 0) := ⟨_, rfl⟩
    obtain ⟨h2, eh2⟩ : ∃ h2, h2 = ((h1.new (.cells [.int .i64 (N : Int), .int .i64 lb, sl] 0)).new (.cells [.int .i64 (k : Int)] 0)).new (.loop .ready none (setL [p4, p7] [ptr pa, ptr pt]) r_judge_weak_10) := ⟨_, rfl⟩
    rw [← eL, ← eh1, ← eh2]
    have hn1 : h1.next = h.next := by rw [eh1]; simp
    have hn2 : h2.next = h.next + 3 := by rw [eh2]; simp [hn1]
    have hf1 : FrD (fun j => lo ≤ j ∧ j < hi) h0 h1 := by rw [eh1]; exact hf.put (.inr hbb) _
    have hf2 : FrD (fun j => lo ≤ j ∧ j < hi) h0 h2 := by rw [eh2]; exact ((hf1.new _).new _).new _
    have hf12 : Fr h1 h2 := by rw [eh2]; exact ((Fr.new _ _).newR _).newR _
    have ht2 : There h2 B bl lo hi N (fun l c => TK es (ks.take j) l c ∨ (l = 0 ∧ c = k)) := (eh1 ▸ hset : There h1 _ _ _ _ _ _).fr (D := fun _ => False) hf12.D (by simp) (by simp)
    have gL2 : h2.get L = some (.loop .ready none (setL [p4, p7] [ptr pa, ptr pt]) r_judge_weak_10) := by rw [eh2, eL, ← hn1]; simp (disch := omega)
    have gg2 : h2.get h.next = some (.cells (gL (N : Int) lb sl) 0) := by rw [eh2, ← hn1]; simp (disch := omega)
    have gf2 : h2.get (h.next + 1) = some (.cells [.int .i64 (k : Int)] 0) := by rw [eh2, ← hn1]; simp (disch := omega)
    have gpa2 : h2.get pa = some (.cells [slF A N] 0) := (hf2.get _ (by omega) (by omega)).trans hpa
    have gA2 : h2.get A = some (.cells avs e0) := (hf2.get _ (by omega) (by omega)).trans hA
    have gpt2 : h2.get pt = some (.cells [slF B K] 0) := (hf2.get _ (by omega) (by omega)).trans hpt
    refine OkV.call (steps_run es hs hsz (k : Int) (N : Int) lb (.func (.yield L) #[] #[]) sl h.next (h.next + 1) h2 (M := fun j => (lo ≤ j ∧ j < hi) ∨ j = L) (hrow0.frD hf2 (fun b o n c e => by have := hslo b o n c e; omega)) (by omega) (by omega) (fun b o n c e => by have := hslo b o n c e; omega) (by omega) gg2 (by omega) gf2
      (fun i h' => FrD (fun j => (lo ≤ j ∧ j < hi) ∨ j = L) h2 h' ∧ h'.get L = some (.loop .ready none (setL [p4, p7] [ptr pa, ptr pt]) r_judge_weak_10) ∧ There h' B bl lo hi N (fun l c => (TK es (ks.take j) l c ∨ (l = 0 ∧ c = k)) ∨ ∃ x ∈ (outs es (k : Int)).take i, x.2.2 = (l : Int) ∧ Sil es x.2.1.toNat c))
      (fun _ => False) h2.next (Nat.le_refl _) ?_ ?_ ?_ (P := fun _ h' => FrD (fun j => (lo ≤ j ∧ j < hi) ∨ j = L) h2 h' ∧ h'.get L = some (.loop .ready none (setL [p4, p7] [ptr pa, ptr pt]) r_judge_weak_10) ∧ There h' B bl lo hi N (TK es (ks.take (j + 1)))) ?_) ?_
    · rintro i h3 h4 ⟨q1, q2, q3⟩ hf34
      have := q1.next
      exact ⟨q1.trans hf34.D, (hf34.get _ (by omega)).trans q2, q3.fr (D := fun _ => False) hf34.D (by simp) (by simp)⟩
    · rintro i v h3 hv ⟨q1, q2, q3⟩ hn3
      rw [List.getElem?_map] at hv
      obtain ⟨x, hx, rfl⟩ := Option.map_eq_some_iff.1 hv
      have hxo := List.mem_filter.1 (List.mem_of_getElem? hx)
      have hxi := hin x hxo.1
      have hxl := hlab x hxo.1
      obtain ⟨lab, hlab'⟩ := Int.eq_ofNat_of_zero_le hxl.1
      obtain ⟨to, hto⟩ := Int.eq_ofNat_of_zero_le hxi.2.2.1
      have hlabK : lab < bl.length := by omega
      obtain ⟨slv, vs, a1, a2, a3, a4, a5, a6⟩ := haft to (by omega)
      have hf03 : FrD (fun j => (lo ≤ j ∧ j < hi)) h0 h3 := ⟨Nat.le_trans hf2.next q1.next, fun i hi hd => (q1.get _ (by have := hf2.next; omega) (by omega)).trans (hf2.get _ hi hd)⟩
      refine weak_round es N hN lab x hlab' to hto L pa A pt B bl[lab] e0 avs hal bl (List.getElem?_eq_getElem hlabK) lo hi slv vs h3 q2 (by omega) (by omega) _ q3 ((hf03.get _ (by omega) (by omega)).trans hpa) hpal ((hf03.get _ (by omega) (by omega)).trans hA) hAl (by rw [hbl]; exact (hf03.get _ (by omega) (by omega)).trans hpt) hptl a1 (a2.frD hf03 (fun b o n c e => by have := a3 b o n c e; omega)) (fun b o n c e => (a3 b o n c e).2) a4 a5 ?_
      intro h' r1 r2 r3
      refine ⟨r1, .inl ⟨rfl, q1.trans r1, r2, r3.congr fun l c hc => ?_⟩⟩
      rw [List.take_add_one, hx]
      have e1 : (l = lab ∧ (c : Int) ∈ vs) ↔ (x.2.2 = (l : Int) ∧ Sil es x.2.1.toNat c) := by
        rw [a6, hto, hlab']
        constructor
        · rintro ⟨rfl, q⟩; exact ⟨rfl, q⟩
        · rintro ⟨q1, q2⟩; exact ⟨by omega, q2⟩
      rw [e1]
      constructor
      · rintro ((q | q) | q)
        · exact .inl q
        · obtain ⟨y, hy, q⟩ := q
          exact .inr ⟨y, List.mem_append.2 (.inl hy), q⟩
        · exact .inr ⟨x, List.mem_append.2 (.inr (by simp)), q⟩
      · rintro (q | ⟨y, hy, q⟩)
        · exact .inl (.inl q)
        · rcases List.mem_append.1 hy with hy | hy
          · exact .inl (.inr ⟨y, hy, q⟩)
          · simp at hy; subst hy; exact .inr q
    · exact ⟨.refl _ _, gL2, ht2.congr (by simp)⟩
    · intro h' hf' hv
      rcases hv with ⟨q1, q2, q3⟩ | hv
      · refine ⟨hf', q2, q3.congr fun l c hc => ?_⟩
        rw [List.take_length, htk]
        unfold TK
        constructor
        · rintro ((⟨k', hk', q⟩ | ⟨rfl, rfl⟩) | ⟨x, hx, q⟩)
          · exact ⟨k', List.mem_append.2 (.inl hk'), q⟩
          · exact ⟨(c : Int), List.mem_append.2 (.inr (by simp)), .inl ⟨rfl, rfl⟩⟩
          · exact ⟨(k : Int), List.mem_append.2 (.inr (by simp)), .inr ⟨x, hx, q⟩⟩
        · rintro ⟨k', hk', q⟩
          rcases List.mem_append.1 hk' with hk' | hk'
          · exact .inl (.inl ⟨k', hk', q⟩)
          · rw [List.mem_singleton] at hk'; subst hk'
            rcases q with ⟨rfl, q⟩ | ⟨x, hx, q⟩
            · exact .inl (.inr ⟨rfl, by omega⟩)
            · exact .inr ⟨x, hx, q⟩
      · exact hv.elim
    · rintro v h' ⟨q1, q2, q3⟩
      have hn' := q1.next
      rw [rgP_ready q2, s_judge_weak_9]
      have := ih (j + 1) (h'.put L (.loop .exhausted none (setL [p4, p7] [ptr pa, ptr pt]) r_judge_weak_10)) (by omega) ⟨by simp; omega, fun i hi hd => by
        rw [get_put_ne' (by omega), q1.get _ (by omega) (by omega)]; exact hf2.get _ hi hd⟩ (q3.fr ((FrD.refl (fun j => j = L) _).put (.inr rfl) _) (by omega) (by omega))
      refine OkV.eq (this.lp (l_judge_weak_8 F _ _ _ _ _ _ _ _ _ _ _ _)) ?_
      simp (disch := omega) [i64_add]
end Go.Ideal.J
set_option linter.unusedSimpArgs false
set_option linter.unusedVariables false
set_option maxRecDepth 10000
namespace Go.Ideal.J
open Go Go.Ideal
theorem repeat_nil : ∀ n, repeatL [Value.slice none 0 0] n = List.replicate n (.slice none 0 0)
  | 0 => rfl
  | n + 1 => by simp [repeatL, repeat_nil n, List.replicate_succ]
theorem make_nils {n : Nat} (hn : n ≤ 1000) (h : H) : makeSliceV 24 [.slice none 0 0] h (.int .i64 (n : Int)) (.int .i64 (n : Int)) = some (slF h.next n, h.new (.cells (List.replicate n (.slice none 0 0)) 0)) := by
  show (if (Nat.ble n n && Nat.ble (n * 24) 1073741824 && Nat.ble n 1073741824) = true then _ else none) = _
  rw [if_pos (by simp; omega), repeat_nil]

/-- the first rows are made. -/
def initB (lo N K l : Nat) : List Value := (List.range K).map fun i => if i < l then slF (lo + i) N else .slice none 0 0
theorem initB_zero (lo N K : Nat) : initB lo N K 0 = List.replicate K (.slice none 0 0) := by
  apply List.ext_getElem
  · simp [initB]
  · intro i h1 h2; simp [initB]
theorem initB_len (lo N K l : Nat) : (initB lo N K l).length = K := by simp [initB]
theorem initB_set (lo N K l : Nat) : (initB lo N K l).set l (slF (lo + l) N) = initB lo N K (l + 1) := by
  apply List.ext_getElem
  · simp [initB]
  · intro i h1 h2
    simp only [initB, List.getElem_set, List.getElem_map, List.getElem_range]
    by_cases e : l = i
    · subst e; rw [if_pos rfl, if_pos (by omega)]
    · rw [if_neg e]
      by_cases e2 : i < l
      · rw [if_pos e2, if_pos (by omega)]
      · rw [if_neg e2, if_neg (by omega)]
theorem initB_full (lo N K : Nat) : initB lo N K K = ((List.range K).map fun i => lo + i).map fun b => slF b N := by
  unfold initB
  rw [List.map_map]
  apply List.map_congr_left
  intro i hi
  rw [if_pos (List.mem_range.1 hi)]; rfl

theorem weak6 (N K : Nat) (hN : N ≤ 1000) (hK : K ≤ 1000) (lb : Int) (sl : Value) (t2 t3 t4 n t39 t40 : Value) (pg pt B lo : Nat) (h0 : H) (hgg : h0.get pg = some (.cells (gL (N : Int) lb sl) 0)) (hpg : pg < B) (hpt : h0.get pt = some (.cells [slF B K] 0)) (hB : B < pt) (hptl : pt < lo) (hlo : h0.next = lo) {P : Value → H → Prop}
    (hP : ∀ h', FrD (fun j => j = B) h0 h' → There h' B ((List.range K).map fun i => lo + i) lo (lo + K) N (fun _ _ => False) → OkV (sh (rI F) c_judge_weak_5 (K_judge_weak_5 (rI F)) (setL [p1, p2, p3, p4, p6, p7, p39, p40] [ptr pg, t2, t3, t4, n, ptr pt, t39, t40]) h') P) :
    ∀ (m l : Nat) (h : H), l + m = K → FrD (fun j => j = B) h0 h → h.next = lo + l → h.get B = some (.cells (initB lo N K l) 0) → (∀ i, i < l → h.get (lo + i) = some (.cells (boolsL (List.replicate N false)) 0)) →
    OkV (sh (rI F) c_judge_weak_6 (K_judge_weak_6 (rI F)) (setL [p1, p2, p3, p4, p6, p7, p39, p40, p47, p48] [ptr pg, t2, t3, t4, n, ptr pt, t39, t40, .int .i64 (K : Int), .int .i64 (l : Int)]) h) P := by
  intro m
  induction m with
  | zero =>
    intro l h hl hf hn hgB hr
    have e : l = K := by omega
    subst e
    rw [s_judge_weak_6]
    simp (disch := omega)
    refine hP h hf ⟨by rw [← initB_full]; exact hgB, ?_, ?_, ?_, by omega, by omega, by omega⟩
    · have : (List.range l).Nodup := List.nodup_range
      exact this.map (fun i => lo + i) (fun a b hab e => hab (by simpa using e))
    · intro b hb
      obtain ⟨i, hi, rfl⟩ := List.mem_map.1 hb
      have := List.mem_range.1 hi; omega
    · intro i b hb
      rw [List.getElem?_map] at hb
      obtain ⟨i', hi', rfl⟩ := Option.map_eq_some_iff.1 hb
      have hi2 : i < l := by
        rcases Nat.lt_or_ge i l with h | h
        · exact h
        · rw [List.getElem?_eq_none (by simpa using h)] at hi'; cases hi'
      rw [List.getElem?_range hi2] at hi'; cases hi'
      exact ⟨_, hr i hi2, by simp, fun c => by simp [List.getElem?_replicate]⟩
  | succ m ih =>
    intro l h hl hf hn hgB hr
    have hlK : l < K := by omega
    have gpg : h.get pg = some (.cells (gL (N : Int) lb sl) 0) := (hf.get _ (by omega) (by omega)).trans hgg
    have gpt : h.get pt = some (.cells [slF B K] 0) := (hf.get _ (by omega) (by omega)).trans hpt
    have hw : writeAt (initB lo N K l) l [slF (lo + l) N] = some (initB lo N K (l + 1)) := by
      rw [writeAt_at (by rw [initB_len]; omega), initB_set]
    rw [s_judge_weak_6]
    have := ih (l + 1) ((h.new (.cells (boolsL (List.replicate N false)) 0)).put B (.cells (initB lo N K (l + 1)) 0)) (by omega) ((hf.new _).put (.inr rfl) _) (by simp; omega) (get_put_eq rfl) (fun i hi => by
      rw [get_put_ne' (by omega)]
      by_cases e : i = l
      · subst e; rw [← hn]; simp
      · rw [get_new_ne (by omega)]; exact hr i (by omega))
    refine OkV.eq (this.lp (l_judge_weak_6 F _ _ _ _ _ _ _ _ _ _ _)) ?_
    simp (disch := omega) [hlK, gpt, gpg, make_bools hN, hn, hgB, hw, i64_add]
end Go.Ideal.J
set_option linter.unusedSimpArgs false
set_option linter.unusedVariables false
set_option maxRecDepth 10000
namespace Go.Ideal.J
open Go Go.Ideal
/-- the weak steps. -/
def W (es : List Ed) (n l c : Nat) : Prop := (l = 0 ∧ Sil es n c) ∨ ∃ x ∈ es, Sil es n x.1.toNat ∧ x.2.2 = (l : Int) ∧ Sil es x.2.1.toNat c
theorem TK_W {es : List Ed} {N : Nat} (hin : inB (N : Int) es) {ks : List Int} {n : Nat} (hk : ∀ c : Nat, (c : Int) ∈ ks ↔ Sil es n c) (hks : ∀ k ∈ ks, 0 ≤ k) (l c : Nat) : TK es ks l c ↔ W es n l c := by
  unfold TK W
  constructor
  · rintro ⟨k, hkm, ⟨rfl, q⟩ | ⟨x, hx, q1, q2⟩⟩
    · exact .inl ⟨rfl, (hk c).1 (q ▸ hkm)⟩
    · have hx' := List.mem_filter.1 hx
      have h0 := hks k hkm
      have e : x.1 = k := by simpa using hx'.2
      refine .inr ⟨x, hx'.1, (hk _).1 ?_, q1, q2⟩
      rw [show ((x.1.toNat : Nat) : Int) = k by omega]; exact hkm
  · rintro (⟨rfl, q⟩ | ⟨x, hx, q0, q1, q2⟩)
    · exact ⟨(c : Int), (hk c).2 q, .inl ⟨rfl, rfl⟩⟩
    · have hb := hin x hx
      refine ⟨x.1, ?_, .inr ⟨x, List.mem_filter.2 ⟨hx, by simp⟩, q1, q2⟩⟩
      have := (hk _).2 q0
      rwa [show ((x.1.toNat : Nat) : Int) = x.1 by omega] at this
theorem labRows_congr {N : Nat} {T T' : Nat → Nat → Prop} (h : ∀ l c, T l c ↔ T' l c) (n : Int) (l : Nat) : labRows N T n l = labRows N T' n l := by
  have : T = T' := by funext l c; exact propext (h l c)
  rw [this]
noncomputable def wRows (es : List Ed) (N K n : Nat) : List Ed := (List.range n).flatMap fun i => labRows N (W es i) (i : Int) K
theorem wRows_succ (es : List Ed) (N K n : Nat) : wRows es N K (n + 1) = wRows es N K n ++ labRows N (W es n) (n : Int) K := by
  unfold wRows
  rw [List.range_succ, List.flatMap_append]
  simp
theorem wRows_len (es : List Ed) {N K : Nat} (h : K * N ≤ 2500) : ∀ n, (wRows es N K n).length ≤ n * 2500
  | 0 => by simp [wRows]
  | n + 1 => by
    rw [wRows_succ, List.length_append]
    have := wRows_len es h n
    have := labRows_len N (W es n) (n : Int) K
    omega

theorem weak3 (es : List Ed) (hs : SortedF es) (hsz : es.length ≤ 1000) (N K : Nat) (hN : N ≤ 60) (hK0 : 0 < K) (hK : K ≤ 41) (lb : Int) (hlb : lb = (K : Int)) (hin : inB (N : Int) es) (hlab : ∀ x ∈ es, 0 ≤ x.2.2 ∧ x.2.2 < lb) (sl : Value) (pg pr po pa A : Nat) (e0 : Nat) (avs : List Value) (hal : avs.length = N) (h1 : H)
    (hrow1 : Row h1 3 sl (es.map edL)) (hslo : ∀ b o n c, sl = .slice (some ⟨b, o, none⟩) n c → b < pg) (hgg : h1.get pg = some (.cells (gL (N : Int) lb sl) 0)) (hpa : h1.get pa = some (.cells [slF A N] 0)) (hA : h1.get A = some (.cells avs e0)) (haft : Aft es N h1 avs pa h1.next N)
    (o1 : pg < pr) (o2 : pr < po) (o3 : po < A) (o4 : A < pa) (o5 : pa < h1.next) {P : Value → H → Prop}
    (hP : ∀ h' slv ob, FrD (fun j => j = po) h1 h' → h'.get po = some (.cells [.int .i64 (N : Int), .int .i64 lb, slv] 0) → Grow h' 3 slv ((wRows es N K N).map edL) ob → (∀ q, ob = some q → h1.next ≤ q) → OkV (sh (rI F) c_judge_weak_2 (K_judge_weak_2 (rI F)) (setL [p2, p3] [ptr pr, ptr po]) h') P) :
    ∀ (m n : Nat) (h : H) (slv : Value) (ob : Option Nat), n + m = N → FrD (fun j => j = po) h1 h → h.get po = some (.cells [.int .i64 (N : Int), .int .i64 lb, slv] 0) → Grow h 3 slv ((wRows es N K n).map edL) ob → (∀ q, ob = some q → h1.next ≤ q) →
    OkV (sh (rI F) c_judge_weak_3 (K_judge_weak_3 (rI F)) (setL [p1, p2, p3, p4, p39, p40] [ptr pg, ptr pr, ptr po, ptr pa, .int .i64 (N : Int), .int .i64 (n : Int)]) h) P := by
  have hKN : K * N ≤ 2500 := Nat.le_trans (Nat.mul_le_mul hK hN) (by omega)
  intro m
  induction m with
  | zero =>
    intro n h slv ob hn hf hgp hg hob
    have e : n = N := by omega
    subst e
    rw [s_judge_weak_3]
    simp (disch := omega)
    exact hP h slv ob hf hgp hg hob
  | succ m ih =>
    intro n h slv ob hn hf hgp hg hob
    have hnN : n < N := by omega
    have hfn := hf.next
    have gpg : h.get pg = some (.cells (gL (N : Int) lb sl) 0) := (hf.get _ (by omega) (by omega)).trans hgg
    have hvg := hrow1.slvM
    rw [s_judge_weak_3]
    simp (disch := omega) [hnN, gpg, hlb, make_nils (show K ≤ 1000 by omega)]
    obtain ⟨B, eB⟩ : ∃ B, B = h.next := ⟨_, rfl⟩
    obtain ⟨h2, eh2⟩ : ∃ h2, h2 = (h.new (.cells (List.replicate K (.slice none 0 0)) 0)).new (.cells [slF B K] 0) := ⟨_, rfl⟩
    rw [← eB, ← eh2]
    have hn2 : h2.next = B + 2 := by rw [eh2]; simp [eB]
    have hf2 : Fr h h2 := by rw [eh2]; exact (Fr.new _ _).newR _
    have gB2 : h2.get B = some (.cells (List.replicate K (.slice none 0 0)) 0) := by rw [eh2]; simp (disch := omega) [eB]
    have gt2 : h2.get (B + 1) = some (.cells [slF B K] 0) := by rw [eh2]; simp (disch := omega) [eB]
    obtain ⟨slk, ks, a1, a2, a3, a4, a5, a6⟩ := haft n hnN
    have hvk := a2.slvM
    have hkl : ks.length ≤ N := nodup_short a5 a4
    have hobl : ∀ q, ob = some q → q < B := fun q e => by subst e; have := hg.lt; omega
    have htka : takeC 1 (dropN n avs) = some [slk] := takeC_at a1 hvk.clean
    have := weak6 N K (by omega) (by omega) lb sl (ptr pr) (ptr po) (ptr pa) (.int .i64 (n : Int)) (.int .i64 (N : Int)) (.int .i64 (n : Int)) pg (B + 1) B (B + 2) h2 ((hf2.get _ (by omega)).trans gpg) (by omega) gt2 (by omega) (by omega) hn2 (P := P) (fun h3 hf3 ht3 => by
      have hfn3 := hf3.next
      have hin3 := ht3.hin
      have hf13 : FrD (fun j => j = po) h1 h3 := ⟨by omega, fun i hi hd => (hf3.get _ (by omega) (by omega)).trans ((hf2.get _ (by omega)).trans (hf.get _ hi hd))⟩
      have gpa3 : h3.get pa = some (.cells [slF A N] 0) := (hf13.get _ (by omega) (by omega)).trans hpa
      have gA3 : h3.get A = some (.cells avs e0) := (hf13.get _ (by omega) (by omega)).trans hA
      have gpg3 : h3.get pg = some (.cells (gL (N : Int) lb sl) 0) := (hf13.get _ (by omega) (by omega)).trans hgg
      have gpt3 : h3.get (B + 1) = some (.cells [slF B K] 0) := (hf3.get _ (by omega) (by omega)).trans gt2
      have hsl3 : ∀ b o n c, sl = .slice (some ⟨b, o, none⟩) n c → b ≠ po := fun b o n c e => by have := hslo b o n c e; omega
      have haft3 : Aft es N h3 avs pa (B + 2) N := fun k hk => by
        obtain ⟨slv', vs', b1, b2, b3, b4, b5, b6⟩ := haft k hk
        exact ⟨slv', vs', b1, b2.frD hf13 (fun b o n c e => by have := b3 b o n c e; omega), fun b o n c e => by have := b3 b o n c e; omega, b4, b5, b6⟩
      rw [s_judge_weak_5]
      have h8 := weak8 es hs hsz N K (by omega) hK0 lb hlb hin hlab sl pg pr po pa A (B + 1) B e0 avs hal ((List.range K).map fun i => B + 2 + i) (by simp) (B + 2) (B + 2 + K) h3 (hrow1.frD hf13 (fun b o n c e => hsl3 b o n c e)) (fun b o n c e => by have := hslo b o n c e; omega) (by omega) gpg3 gpa3 (by omega) gA3 (by omega) gpt3 (by omega) pa haft3
        (.int .i64 (n : Int)) (.int .i64 (N : Int)) (.int .i64 (n : Int)) ks a4 hkl slk (a2.frD hf13 (fun b o n c e => by have := a3 b o n c e; omega)) (fun b o n c e => by have := a3 b o n c e; omega) hin3 (P := P) (fun h4 hf4 ht4 => by
          have hfn4 := hf4.next
          have gpt4 : h4.get (B + 1) = some (.cells [slF B K] 0) := (hf4.get _ (by omega) (by omega)).trans gpt3
          have hpo3 : h3.get po = some (.cells [.int .i64 (N : Int), .int .i64 lb, slv] 0) := (hf3.get _ (by omega) (by omega)).trans ((hf2.get _ (by omega)).trans hgp)
          have hpo4 : h4.get po = some (.cells [.int .i64 (N : Int), .int .i64 lb, slv] 0) := (hf4.get _ (by omega) (by omega)).trans hpo3
          have hg4 : Grow h4 3 slv ((wRows es N K n).map edL) ob := ((hg.fr hf2).frD hf3 (fun q e => by have := hobl q e; omega)).frD hf4 (fun q e => by have := hobl q e; omega)
          rw [s_judge_weak_7]
          have hwl := wRows_len es hKN n
          have h13 := weak13 N K (by omega) (by omega) (TK es ks) (n : Int) (N : Int) lb (wRows es N K n) (by omega) (ptr pg) (ptr pr) (ptr pa) (.int .i64 (N : Int)) (.int .i64 (n : Int)) po B ((List.range K).map fun i => B + 2 + i) (by simp) (B + 2) (B + 2 + K) ob h4 ht4 (by omega) (fun q e => ⟨hobl q e, by have := hob q e; omega⟩) (P := P) (fun h5 slv5 ob5 hf5 gp5 hg5 hob5 => by
            have hfn5 := hf5.next
            rw [s_judge_weak_4]
            have := ih (n + 1) h5 slv5 ob5 (by omega) ⟨by omega, fun i hi hd => by
                rw [hf5.get _ (by omega) (by rintro (e | e); omega; have := hob _ e; omega), hf4.get _ (by omega) (by omega)]
                exact hf13.get _ hi hd⟩ gp5 (by
                rw [wRows_succ, ← labRows_congr (TK_W hin a6 (fun k hk => (a4 k hk).1))]; exact hg5) (fun q e => by
                rcases hob5 q e with h | h
                · exact hob q h
                · omega)
            refine OkV.eq (this.lp (l_judge_weak_3 F _ _ _ _ _ _ _)) ?_
            simp (disch := omega) [i64_add]) K 0 h4 slv ob (by omega) (.refl _ _) hpo4 (by simpa [labRows] using hg4) (fun q e => .inl e)
          refine OkV.eq (h13.lp (l_judge_weak_13 F _ _ _ _ _ _ _ _ _ _ _)) ?_
          simp (disch := omega) [gpt4]) ks.length 0 h3 (by omega) (.refl _ _) (ht3.congr (by simp [TK]))
      refine OkV.eq (h8.lp (l_judge_weak_8 F _ _ _ _ _ _ _ _ _ _ _ _)) ?_
      simp (disch := omega) [gpa3, gA3, hnN, htka, hvk.one, hvk.len]) K 0 h2 (by omega) (.refl _ _) (by omega) (by rw [initB_zero]; exact gB2) (by simp)
    refine OkV.eq (this.lp (l_judge_weak_6 F _ _ _ _ _ _ _ _ _ _ _)) ?_
    simp (disch := omega) [gt2]
end Go.Ideal.J
set_option linter.unusedSimpArgs false
set_option linter.unusedVariables false
set_option maxRecDepth 10000
namespace Go.Ideal.J
open Go Go.Ideal
theorem fr_of_D {h0 h h' : H} {D : Nat → Prop} (hf : Fr h0 h) (hf' : FrD D h h') (hd : ∀ i, i < h0.next → ¬ D i) : Fr h0 h' := hf.transD hf' hd
theorem weak1 (es : List Ed) (hs : SortedF es) (hsz : es.length ≤ 1000) (N K : Nat) (hN : N ≤ 60) (lb : Int) (hin : inB (N : Int) es) (sl : Value) (pg pa A : Nat) (t2 t3 : Value) (h1 : H)
    (hrow1 : Row h1 3 sl (es.map edL)) (hslo : ∀ b o n c, sl = .slice (some ⟨b, o, none⟩) n c → b < pg) (hgg : h1.get pg = some (.cells (gL (N : Int) lb sl) 0)) (hpa : h1.get pa = some (.cells [slF A N] 0))
    (o3 : pg < A) (o4 : A < pa) (o5 : pa < h1.next) {P : Value → H → Prop}
    (hP : ∀ h' avs, FrD (fun j => j = A) h1 h' → h'.get A = some (.cells avs 0) → avs.length = N → Aft es N h' avs pa h'.next N → OkV (sh (rI F) c_judge_weak_0 (K_judge_weak_0 (rI F)) (setL [p1, p2, p3, p4] [ptr pg, t2, t3, ptr pa]) h') P) :
    ∀ (m n : Nat) (h : H) (avs : List Value), n + m = N → FrD (fun j => j = A) h1 h → h.get A = some (.cells avs 0) → avs.length = N → Aft es N h avs pa h.next n →
    OkV (sh (rI F) c_judge_weak_1 (K_judge_weak_1 (rI F)) (setL [p1, p2, p3, p4, p27, p28] [ptr pg, t2, t3, ptr pa, .int .i64 (N : Int), .int .i64 (n : Int)]) h) P := by
  intro m
  induction m with
  | zero =>
    intro n h avs hn hf hgA hal haft
    have e : n = N := by omega
    subst e
    rw [s_judge_weak_1]
    simp (disch := omega)
    exact hP h avs hf hgA hal haft
  | succ m ih =>
    intro n h avs hn hf hgA hal haft
    have hnN : n < N := by omega
    have hfn := hf.next
    have gpg : h.get pg = some (.cells (gL (N : Int) lb sl) 0) := (hf.get _ (by omega) (by omega)).trans hgg
    have gpa : h.get pa = some (.cells [slF A N] 0) := (hf.get _ (by omega) (by omega)).trans hpa
    have hvg := hrow1.slvM
    rw [s_judge_weak_1]
    simp (disch := omega) [hnN, gpg, hvg.clean, hvg.take, hvg.eqc]
    refine OkV.call (jsilent_ok es hs hsz (N : Int) lb hin (by omega) n (by omega) sl h (hrow1.frD hf (fun b o n c e => by have := hslo b o n c e; omega)) (P := fun v h' => Fr h h' ∧ ∃ vs, Row h' 1 v (vs.map inL) ∧ (∀ b o n c, v = .slice (some ⟨b, o, none⟩) n c → h.next ≤ b) ∧ (∀ u ∈ vs, 0 ≤ u ∧ u < (N : Int)) ∧ vs.Nodup ∧ (∀ c : Nat, (c : Int) ∈ vs ↔ Sil es n c)) (fun h' slv vs q1 q2 q3 q4 q5 q6 => ⟨q1, vs, q2, q3, q5, q4, q6⟩)) ?_
    rintro v h' ⟨hf', vs, q2, q3, q4, q5, q6⟩
    have hfn' := hf'.next
    have gpa' : h'.get pa = some (.cells [slF A N] 0) := (hf'.get _ (by omega)).trans gpa
    have gA' : h'.get A = some (.cells avs 0) := (hf'.get _ (by omega)).trans hgA
    have hv := q2.slvM
    have hw : writeAt avs n [v] = some (avs.set n v) := writeAt_at (by omega)
    have := ih (n + 1) (h'.put A (.cells (avs.set n v) 0)) (avs.set n v) (by omega) ((hf.trans (hf'.D)).put (.inr rfl) _) (get_put_eq rfl) (by simpa using hal) (fun k hk => by
      by_cases e : k = n
      · subst e
        refine ⟨v, vs, by rw [List.getElem?_set_self (by omega)], q2.frD ((FrD.refl (fun j => j = A) _).put (.inr rfl) _) (fun b o n c e => by have := q3 b o n c e; omega), fun b o n c e => ⟨by have := q3 b o n c e; omega, q2.lt e⟩, q4, q5, q6⟩
      · obtain ⟨slv', vs', b1, b2, b3, b4, b5, b6⟩ := haft k (by omega)
        refine ⟨slv', vs', by rw [List.getElem?_set_ne (by omega)]; exact b1, (b2.fr hf').frD ((FrD.refl (fun j => j = A) _).put (.inr rfl) _) (fun b o n c e => by have := b3 b o n c e; omega), fun b o n c e => by have := b3 b o n c e; simp; omega, b4, b5, b6⟩)
    refine OkV.eq (this.lp (l_judge_weak_1 F _ _ _ _ _ _ _)) ?_
    simp (disch := omega) [gpa, gpa', gA', hv.cells, hv.cell, hnN, hw, i64_add]

noncomputable def wE (es : List Ed) (N K : Nat) : List Ed := wRows es N K N
theorem jweak_ok (es : List Ed) (hs : SortedF es) (hsz : es.length ≤ 1000) (N K : Nat) (hN : N ≤ 60) (hK0 : 0 < K) (hK : K ≤ 41) (hin : inB (N : Int) es) (hlab : ∀ x ∈ es, 0 ≤ x.2.2 ∧ x.2.2 < (K : Int)) (sl : Value) (h : H) (hrow : Row h 3 sl (es.map edL)) {P : Value → H → Prop}
    (hP : ∀ h' slv ob, Fr h h' → Grow h' 3 slv ((wE es N K).map edL) ob → (∀ q, ob = some q → h.next ≤ q) → P (gV (N : Int) (K : Int) slv) h') : Ret F (fnV n_judge_weak) [gV (N : Int) (K : Int) sl] h P := by
  refine Ret.fn F_judge_weak 1 (by decide) ?_
  rw [s_judge_weak]
  obtain ⟨h1, eh1⟩ : ∃ h1, h1 = ((((h.new (.cells (gL (N : Int) (K : Int) sl) 0)).new (.cells [.int .i64 0, .int .i64 0, .slice none 0 0] 0)).new (.cells [.int .i64 (N : Int), .int .i64 (K : Int), .slice none 0 0] 0)).new (.cells (List.replicate N (.slice none 0 0)) 0)).new (.cells [slF (h.next + 3) N] 0) := ⟨_, rfl⟩
  have hf1 : Fr h h1 := by rw [eh1]; exact ((((Fr.new _ _).newR _).newR _).newR _).newR _
  have hn1 : h1.next = h.next + 5 := by rw [eh1]; simp
  have g0 : h1.get h.next = some (.cells (gL (N : Int) (K : Int) sl) 0) := by rw [eh1]; simp (disch := omega)
  have g1 : h1.get (h.next + 1) = some (.cells [.int .i64 0, .int .i64 0, .slice none 0 0] 0) := by rw [eh1]; simp (disch := omega)
  have g2 : h1.get (h.next + 2) = some (.cells [.int .i64 (N : Int), .int .i64 (K : Int), .slice none 0 0] 0) := by rw [eh1]; simp (disch := omega)
  have g3 : h1.get (h.next + 3) = some (.cells (List.replicate N (.slice none 0 0)) 0) := by rw [eh1]; simp (disch := omega)
  have g4 : h1.get (h.next + 4) = some (.cells [slF (h.next + 3) N] 0) := by rw [eh1]; simp (disch := omega)
  have hv := hrow.slvM
  have hslo : ∀ b o n c, sl = .slice (some ⟨b, o, none⟩) n c → b < h.next := fun b o n c e => hrow.lt e
  have := weak1 es hs hsz N K hN (K : Int) hin sl h.next (h.next + 4) (h.next + 3) (ptr (h.next + 1)) (ptr (h.next + 2)) h1 (hrow.fr hf1) hslo g0 g4 (by omega) (by omega) (by omega) (P := P) (fun h2 avs hf2 hA hal haft => by
    have hfn2 := hf2.next
    rw [s_judge_weak_0]
    have h3 := weak3 es hs hsz N K hN hK0 hK (K : Int) rfl hin hlab sl h.next (h.next + 1) (h.next + 2) (h.next + 4) (h.next + 3) 0 avs hal h2 ((hrow.fr hf1).frD hf2 (fun b o n c e => by have := hslo b o n c e; omega)) hslo ((hf2.get _ (by omega) (by omega)).trans g0) ((hf2.get _ (by omega) (by omega)).trans g4) hA haft (by omega) (by omega) (by omega) (by omega) (by omega) (P := P)
      (fun h3 slv ob hf3 gp3 hg3 hob => by
        have hfn3 := hf3.next
        rw [s_judge_weak_2]
        have hv3 := hg3.slv
        have gr3 : h3.get (h.next + 1) = some (.cells [.int .i64 0, .int .i64 0, .slice none 0 0] 0) := (hf3.get _ (by omega) (by omega)).trans ((hf2.get _ (by omega) (by omega)).trans g1)
        have hfr : Fr h (h3.put (h.next + 1) (.cells (gL (N : Int) (K : Int) slv) 0)) := ⟨by simp; omega, fun i hi => by
          rw [get_put_ne' (by omega), hf3.get _ (by omega) (by omega), hf2.get _ (by omega) (by omega), hf1.get _ hi]⟩
        refine OkV.eq (OkV.val (hP _ slv ob hfr (hg3.frD ((FrD.refl (fun j => j = h.next + 1) _).put (.inr rfl) _) (fun q e => by have := hob q e; omega)) (fun q e => by have := hob q e; omega))) ?_
        simp (disch := omega) [gp3, gr3, hv3.take, hv3.clean, hv3.cell]) N 0 h2 (.slice none 0 0) none (by omega) (.refl _ _) ((hf2.get _ (by omega) (by omega)).trans g2) (by simpa [wRows] using Grow.nil) (by simp)
    refine OkV.eq (h3.lp (l_judge_weak_3 F _ _ _ _ _ _ _)) ?_
    have := (hf2.get (h.next) (by omega) (by omega)).trans g0
    simp (disch := omega) [this]) N 0 h1 _ (by omega) (.refl _ _) g3 (by simp) (fun k hk => by omega)
  refine OkV.eq (this.lp (l_judge_weak_1 F _ _ _ _ _ _ _)) ?_
  rw [eh1]
  simp (disch := first | omega | (simp only [new_next, put_next]; done) | (simp only [new_next, put_next]; omega)) [fillL, hv.clean, hv.take, make_nils (show N ≤ 1000 by omega)]
end Go.Ideal.J
set_option linter.unusedSimpArgs false
set_option linter.unusedVariables false
set_option maxRecDepth 10000
namespace Go.Ideal.J
open Go Go.Ideal
/-- a graph that is formed. -/
structure Formed (st lb : Int) (es : List Ed) : Prop where
  st1 : 1 ≤ st
  st2 : st ≤ 60
  lb1 : 1 ≤ lb
  lb2 : lb ≤ 41
  len : es.length ≤ 400
  ok : ∀ x ∈ es, 0 ≤ x.1 ∧ x.1 < st ∧ 0 ≤ x.2.1 ∧ x.2.1 < st ∧ 0 ≤ x.2.2 ∧ x.2.2 < lb
  next : ∀ i x y, es[i]? = some x → es[i + 1]? = some y → lessE x y = true
theorem Formed.inB {st lb : Int} {es : List Ed} (f : Formed st lb es) : inB st es := fun x hx => by have := f.ok x hx; exact ⟨this.1, this.2.1, this.2.2.1, this.2.2.2.1⟩
theorem lessE_iff (a b : Ed) : lessE a b = true ↔ a.1 < b.1 ∨ (a.1 = b.1 ∧ (a.2.2 < b.2.2 ∨ (a.2.2 = b.2.2 ∧ a.2.1 < b.2.1))) := by
  unfold lessE
  by_cases h1 : a.1 = b.1
  · by_cases h2 : a.2.2 = b.2.2
    · simp [h1, h2]
    · simp [h1, h2]
  · simp [h1]
theorem lessE_trans {a b c : Ed} (h1 : lessE a b = true) (h2 : lessE b c = true) : lessE a c = true := by
  rw [lessE_iff] at *; omega
theorem Formed.sorted {st lb : Int} {es : List Ed} (f : Formed st lb es) : es.Pairwise fun x y => lessE x y = true := by
  have key : ∀ (l : List Ed), (∀ i x y, l[i]? = some x → l[i + 1]? = some y → lessE x y = true) → l.Pairwise fun x y => lessE x y = true := by
    intro l
    induction l with
    | nil => intro _; exact .nil
    | cons a l ih =>
      intro h
      have ihl := ih fun i x y hx hy => h (i + 1) x y (by simpa using hx) (by simpa using hy)
      refine List.pairwise_cons.2 ⟨?_, ihl⟩
      cases l with
      | nil => intro b hb; cases hb
      | cons b l =>
        have hab := h 0 a b rfl rfl
        intro c hc
        rcases List.mem_cons.1 hc with rfl | hc
        · exact hab
        · exact lessE_trans hab ((List.pairwise_cons.1 ihl).1 c hc)
  exact key es f.next
theorem Formed.sortedF {st lb : Int} {es : List Ed} (f : Formed st lb es) : SortedF es := f.sorted.imp fun h => by rw [lessE_iff] at h; omega
theorem chk_iff (st lb : Int) (es : List Ed) : chk st lb es = true ↔ Formed st lb es := by
  have key : ∀ n, n ≤ es.length → (ckN st lb es n = true ↔ ∀ i, es.length - n ≤ i → okAt st lb es i = true) := by
    intro n
    induction n with
    | zero =>
      intro _
      constructor
      · intro _ i hi
        unfold okAt
        rw [List.getElem?_eq_none (by omega)]
      · intro _; rfl
    | succ n ih =>
      intro hn
      show (okAt st lb es (es.length - (n + 1)) && ckN st lb es n) = true ↔ _
      rw [Bool.and_eq_true, ih (by omega)]
      constructor
      · rintro ⟨h1, h2⟩ i hi
        by_cases e : i = es.length - (n + 1)
        · rw [e]; exact h1
        · exact h2 i (by omega)
      · intro h
        exact ⟨h _ (by omega), fun i hi => h i (by omega)⟩
  have key2 : (ckN st lb es es.length = true) ↔ ((∀ x ∈ es, 0 ≤ x.1 ∧ x.1 < st ∧ 0 ≤ x.2.1 ∧ x.2.1 < st ∧ 0 ≤ x.2.2 ∧ x.2.2 < lb) ∧ ∀ i x y, es[i]? = some x → es[i + 1]? = some y → lessE x y = true) := by
    rw [key es.length (Nat.le_refl _)]
    constructor
    · intro h
      refine ⟨fun x hx => ?_, fun i x y hx hy => ?_⟩
      · obtain ⟨i, hi⟩ := List.mem_iff_getElem?.1 hx
        have := h i (by omega)
        unfold okAt at this
        rw [hi] at this
        simp only [Bool.and_eq_true, Bool.not_eq_true', badE, Bool.or_eq_false_iff, decide_eq_false_iff_not] at this
        omega
      · have := h (i + 1) (by omega)
        unfold okAt at this
        rw [hy] at this
        simp only [Bool.and_eq_true, Nat.add_sub_cancel, hx] at this
        simpa using this.2
    · rintro ⟨h1, h2⟩ i _
      unfold okAt
      cases hx : es[i]? with
      | none => rfl
      | some x =>
        have hb := h1 x (List.mem_of_getElem? hx)
        have hbad : badE st lb x = false := by
          simp only [badE, Bool.or_eq_false_iff, decide_eq_false_iff_not]; omega
        simp only [hbad, Bool.not_false, Bool.true_and, Bool.or_eq_true, decide_eq_true_eq]
        by_cases e : i = 0
        · exact .inl e
        · right
          cases hy : es[i - 1]? with
          | none => rfl
          | some y => exact h2 (i - 1) y x hy (by rw [show i - 1 + 1 = i by omega]; exact hx)
  unfold chk
  simp only [Bool.and_eq_true, Bool.not_eq_true', Bool.or_eq_false_iff, decide_eq_false_iff_not, key2]
  constructor
  · rintro ⟨⟨⟨⟨⟨h1, h2⟩, h3⟩, h4⟩, h5⟩, h6, h7⟩
    exact ⟨by omega, by omega, by omega, by omega, by omega, h6, h7⟩
  · rintro ⟨h1, h2, h3, h4, h5, h6, h7⟩
    exact ⟨⟨⟨⟨⟨by omega, by omega⟩, by omega⟩, by omega⟩, by omega⟩, h6, h7⟩

/-- what Weak answers. -/
abbrev pairV (a b : Value) : Value := .tuple ⟨[a, b]⟩
abbrev nilG : Value := .agg ⟨[.int .i64 0, .int .i64 0, .slice none 0 0]⟩
/-- a graph in memory. -/
structure GrV (h : H) (v : Value) (st lb : Int) (es : List Ed) : Prop where
  ex : ∃ sl, v = gV st lb sl ∧ Row h 3 sl (es.map edL)
/-- the answer to Weak. -/
def WeakA (st lb : Int) (es : List Ed) (v : Value) (h' : H) : Prop :=
  (chk st lb es = false ∧ v = pairV nilG (.int .i64 2)) ∨ (chk st lb es = true ∧ 400 < (wE es st.toNat lb.toNat).length ∧ v = pairV nilG (.int .i64 3)) ∨
  (chk st lb es = true ∧ (wE es st.toNat lb.toNat).length ≤ 400 ∧ ∃ sl, v = pairV (gV st lb sl) (.int .i64 0) ∧ Row h' 3 sl ((wE es st.toNat lb.toNat).map edL))
theorem jWeak_ok (st lb : Int) (es : List Ed) (sl : Value) (h : H) (hrow : Row h 3 sl (es.map edL)) : Ret F (fnV n_judge_Weak) [gV st lb sl] h fun v h' => Fr h h' ∧ WeakA st lb es v h' := by
  refine Ret.fn F_judge_Weak 1 (by decide) ?_
  rw [s_judge_Weak]
  have hv := hrow.slvM
  obtain ⟨h2, eh2⟩ : ∃ h2, h2 = (h.new (.cells (gL st lb sl) 0)).new (.cells [.int .i64 0, .int .i64 0, .slice none 0 0] 0) := ⟨_, rfl⟩
  have hf2 : Fr h h2 := by rw [eh2]; exact (Fr.new _ _).newR _
  have hn2 : h2.next = h.next + 2 := by rw [eh2]; simp
  have g0 : h2.get h.next = some (.cells (gL st lb sl) 0) := by rw [eh2]; simp (disch := omega)
  have g1 : h2.get (h.next + 1) = some (.cells [.int .i64 0, .int .i64 0, .slice none 0 0] 0) := by rw [eh2]; simp (disch := omega)
  obtain ⟨h3, ec, hf3⟩ := judgeCheck_ok st lb sl es h2 (hrow.fr hf2)
  obtain ⟨P, hPd⟩ : ∃ P : Value → H → Prop, P = fun v h' => Fr h h' ∧ WeakA st lb es v h' := ⟨_, rfl⟩
  rw [← hPd]
  have g0' := (hf3.get _ (by omega)).trans g0
  have g1' := (hf3.get _ (by omega)).trans g1
  have hfn3 := hf3.next
  have hfr3 : ∀ o, Fr h (h3.put (h.next + 1) o) := fun o => (hf2.trans hf3).put (by omega) _
  simp (disch := omega) [hv.clean, hv.take]
  rw [← eh2, ec]
  cases hc : chk st lb es with
  | false =>
    refine OkV.eq (OkV.val (v := pairV nilG (.int .i64 2)) (h := h3.put (h.next + 1) (.cells [.int .i64 0, .int .i64 0, .slice none 0 0] 0)) ?_) ?_
    · rw [hPd]; exact ⟨hfr3 _, .inl ⟨hc, rfl⟩⟩
    · simp (disch := first | omega | (simp only [new_next, put_next]; done) | (simp only [new_next, put_next]; omega)) [erk, fillL, g1']
  | true =>
    have f := (chk_iff st lb es).1 hc
    obtain ⟨N, rfl⟩ := Int.eq_ofNat_of_zero_le (show 0 ≤ st by have := f.st1; omega)
    obtain ⟨K, rfl⟩ := Int.eq_ofNat_of_zero_le (show 0 ≤ lb by have := f.lb1; omega)
    have := f.st2; have := f.lb2; have := f.lb1
    simp (disch := omega) [erk, g0', hv.clean, hv.take]
    refine OkV.call (jweak_ok es f.sortedF (by have := f.len; omega) N K (by omega) (by omega) (by omega) f.inB (fun x hx => by have := f.ok x hx; exact ⟨this.2.2.2.2.1, this.2.2.2.2.2⟩) sl h3 ((hrow.fr hf2).fr hf3) (P := fun v h' => ∃ slv ob, v = gV (N : Int) (K : Int) slv ∧ Fr h3 h' ∧ Grow h' 3 slv ((wE es N K).map edL) ob ∧ ∀ q, ob = some q → h3.next ≤ q) (fun h' slv ob q1 q2 q3 => ⟨slv, ob, rfl, q1, q2, q3⟩)) ?_
    rintro v h4 ⟨slv, ob, rfl, hf4, hg4, hob4⟩
    have hv4 := hg4.slvM
    have hfn4 := hf4.next
    have g1'' := (hf4.get _ (by omega)).trans g1'
    have hfr4 : ∀ o o', Fr h ((h4.new o).put (h.next + 1) o') := fun o o' => (((hf2.trans hf3).trans hf4).newR _).put (by omega) _
    by_cases hlen : 400 < (wE es N K).length
    · refine OkV.eq (OkV.val (v := pairV nilG (.int .i64 3)) (h := (h4.new (.cells (gL (N : Int) (K : Int) slv) 0)).put (h.next + 1) (.cells [.int .i64 0, .int .i64 0, .slice none 0 0] 0)) ?_) ?_
      · rw [hPd]; exact ⟨hfr4 _ _, .inr (.inl ⟨hc, hlen, rfl⟩)⟩
      · simp (disch := first | omega | (simp only [new_next, put_next]; done) | (simp only [new_next, put_next]; omega)) [fillL, g1'', hv4.take, hv4.one, hv4.clean, hv4.cell, hv4.len, hlen]
    · refine OkV.eq (OkV.val (v := pairV (gV (N : Int) (K : Int) slv) (.int .i64 0)) (h := (h4.new (.cells (gL (N : Int) (K : Int) slv) 0)).put (h.next + 1) (.cells (gL (N : Int) (K : Int) slv) 0)) ?_) ?_
      · rw [hPd]; exact ⟨hfr4 _ _, .inr (.inr ⟨hc, by simpa using hlen, slv, rfl, (hg4.row (by omega)).frD (((FrD.refl (fun j => j = h.next + 1) _).new _).put (.inr rfl) _) (fun b o n c e => by have := hob4 b (hg4.block e); omega)⟩)⟩
      · simp (disch := first | omega | (simp only [new_next, put_next]; done) | (simp only [new_next, put_next]; omega)) [fillL, g1'', hv4.take, hv4.one, hv4.clean, hv4.cell, hv4.len, hlen]
end Go.Ideal.J
set_option linter.unusedSimpArgs false
set_option linter.unusedVariables false
set_option maxRecDepth 10000
set_option maxHeartbeats 2000000
namespace Go.Ideal.J
open Go Go.Ideal
/-- the rounds, as the map holds them. -/
abbrev rV (r : Int → Int → Option Int) : Int → Int → Option Value := fun a b => (r a b).map fun k => Value.int .i64 k
def tellsR (r : Int → Int → Option Int) (round u t : Int) : Bool := decide (u ≠ t) && match r u t with | some k => decide (k ≤ round) | none => false
def toldR (r : Int → Int → Option Int) (es : List Ed) (x : Ed) (other round : Int) : Bool := (tos es other x.2.2).all fun t => tellsR r round x.2.1 t

theorem told_round (r : Int → Int → Option Int) (m : Nat) (x : Ed) (round t : Int) (L pm px pr pq : Nat) (h1 : H) (hm : MapM h1 m (rV r)) (hml : m < h1.next) (hL : h1.get L = some (.loop .ready none (setL [p5, p7, p9, p10] [ptr pm, ptr px, ptr pr, ptr pq]) r_judge_rounds_told_1))
    (hpm : h1.get pm = some (.cells [.map (some m)] 0)) (hpx : h1.get px = some (.cells (edL x) 0)) (hpr : h1.get pr = some (.cells [.int .i64 round] 0)) (hpq : h1.get pq = some (.cells [.bool false] 0)) (l0 : L < h1.next) (l1 : pm < h1.next) (l2 : px < h1.next) (l3 : pr < h1.next) (l4 : pq < h1.next)
    (n1 : pm ≠ L) (n2 : px ≠ L) (n3 : pr ≠ L) (n4 : pq ≠ L) (n5 : m ≠ L) {P : Value → H → Prop}
    (hP1 : tellsR r round x.2.1 t = true → ∀ h', FrD (fun j => j = L ∨ j = pq) h1 h' → h'.get L = some (.loop .ready none (setL [p5, p7, p9, p10] [ptr pm, ptr px, ptr pr, ptr pq]) r_judge_rounds_told_1) → h'.get pq = some (.cells [.bool false] 0) → P (.bool true) h')
    (hP2 : tellsR r round x.2.1 t = false → ∀ h', FrD (fun j => j = L ∨ j = pq) h1 h' → h'.get L = some (.loop .done (some .ret) (setL [p5, p7, p9, p10] [ptr pm, ptr px, ptr pr, ptr pq]) r_judge_rounds_told_1) → h'.get pq = some (.cells [.bool false] 0) → P (.bool false) h') :
    Ret F (.func (.yield L) #[] #[]) [.int .i64 t] h1 P := by
  refine Ret.round hL ?_
  rw [s_judge_rounds_told_1]
  simp (disch := first | omega | (simp only [new_next, put_next]; done) | (simp only [new_next, put_next]; omega)) []
  rw [busyK_eq hL, s_judge_rounds_told_2]
  obtain ⟨h2, eh2⟩ : ∃ h2, h2 = (h1.put L (.loop .busy none (setL [p5, p7, p9, p10] [ptr pm, ptr px, ptr pr, ptr pq]) r_judge_rounds_told_1)).new (.cells [.int .i64 x.2.1, .int .i64 t] 0) := ⟨_, rfl⟩
  have hf2 : FrD (fun j => j = L) h1 h2 := by rw [eh2]; exact ((FrD.refl (fun j => j = L) _).put (.inr rfl) _).new _
  have hn2 : h2.next = h1.next + 1 := by rw [eh2]; simp
  have gL : h2.get L = some (.loop .busy none (setL [p5, p7, p9, p10] [ptr pm, ptr px, ptr pr, ptr pq]) r_judge_rounds_told_1) := by rw [eh2, get_new_ne (by simp; omega), get_put_eq rfl]
  have hm2 : MapM h2 m (rV r) := hm.fr hf2 hml n5
  have gm := (hf2.get _ l1 n1).trans hpm
  have gx := (hf2.get _ l2 n2).trans hpx
  have gr := (hf2.get _ l3 n3).trans hpr
  have gq := (hf2.get _ l4 n4).trans hpq
  have gp : h2.get h1.next = some (.cells [.int .i64 x.2.1, .int .i64 t] 0) := by rw [eh2, get_new_eq (by simp)]
  have hlk := look_ok hm2 (.int .i64 0) x.2.1 t
  have hf3 : ∀ o, FrD (fun j => j = L ∨ j = pq) h1 (h2.put L o) := fun o => (hf2.mono fun _ _ h => .inl h).put (.inr (.inl rfl)) _
  have hf4 : ∀ o o', FrD (fun j => j = L ∨ j = pq) h1 ((h2.put pq o').put L o) := fun o o' => ((hf2.mono fun _ _ h => .inl h).put (.inr (.inr rfl)) _).put (.inr (.inl rfl)) _
  have gL4 : ∀ o', (h2.put pq o').get L = some (.loop .busy none (setL [p5, p7, p9, p10] [ptr pm, ptr px, ptr pr, ptr pq]) r_judge_rounds_told_1) := fun o' => by rw [get_put_ne' (Ne.symm n4)]; exact gL
  have okk : tellsR r round x.2.1 t = true → OkV (fin L none h2) P := fun e => by
    rw [fin_none gL]
    exact OkV.val (hP1 e _ (hf3 _) (get_put_eq rfl) (by rw [get_put_ne' n4]; exact gq))
  have okn : tellsR r round x.2.1 t = false → OkV (fin L (some .ret) (h2.put pq (.cells [.bool false] 0))) P := fun e => by
    rw [fin_some (gL4 _)]
    exact OkV.val (hP2 e _ (hf4 _ _) (get_put_eq rfl) (by rw [get_put_ne' n4]; exact get_put_eq rfl))
  by_cases c1 : x.2.1 = t
  · refine OkV.eq (okn (by simp [tellsR, c1])) ?_
    rw [c1] at hlk gp eh2
    simp (disch := first | omega | (simp only [new_next, put_next]; done) | (simp only [new_next, put_next]; omega)) [hpx, n2, c1, fillL, ← eh2, gm, gp, hlk, vBin_pair, gq]
  · cases hr : r x.2.1 t with
    | none =>
      simp only [rV, hr, Option.map_none, Option.map_some, Option.getD_none, Option.getD_some, Option.isSome_none, Option.isSome_some] at hlk
      refine OkV.eq (okn (by simp [tellsR, hr])) ?_
      simp (disch := first | omega | (simp only [new_next, put_next]; done) | (simp only [new_next, put_next]; omega)) [hpx, n2, c1, fillL, ← eh2, gm, gp, hlk, vBin_pair, gq]
    | some k =>
      simp only [rV, hr, Option.map_none, Option.map_some, Option.getD_none, Option.getD_some, Option.isSome_none, Option.isSome_some] at hlk
      by_cases c2 : k ≤ round
      · refine OkV.eq (okk (by simp [tellsR, hr, c1, c2])) ?_
        simp (disch := first | omega | (simp only [new_next, put_next]; done) | (simp only [new_next, put_next]; omega)) [hpx, n2, c1, fillL, ← eh2, gm, gp, hlk, vBin_pair, gq, gr, c2]
      · refine OkV.eq (okn (by simp [tellsR, hr, c2])) ?_
        simp (disch := first | omega | (simp only [new_next, put_next]; done) | (simp only [new_next, put_next]; omega)) [hpx, n2, c1, fillL, ← eh2, gm, gp, hlk, vBin_pair, gq, gr, c2]
end Go.Ideal.J
set_option linter.unusedSimpArgs false
set_option linter.unusedVariables false
set_option maxRecDepth 10000
set_option maxHeartbeats 2000000
namespace Go.Ideal.J
open Go Go.Ideal

theorem told_ok (es : List Ed) (hs : SortedF es) (hsz : es.length ≤ 1000) (st lb : Int) (r : Int → Int → Option Int) (m : Nat) (x : Ed) (other round : Int) (sl : Value) (h : H) (hrow : Row h 3 sl (es.map edL)) (hm : MapM h m (rV r)) (hml : m < h.next) :
    ∃ h', callI F (fnV n_judge_rounds_told) [.map (some m), gV st lb sl, edV x, .int .i64 other, .int .i64 round] h = some (.bool (toldR r es x other round), h') ∧ Fr h h' := by
  suffices hr : Ret F (fnV n_judge_rounds_told) [.map (some m), gV st lb sl, edV x, .int .i64 other, .int .i64 round] h fun v h' => v = .bool (toldR r es x other round) ∧ Fr h h' by
    obtain ⟨v, h', e, rfl, hf⟩ := hr; exact ⟨h', e, hf⟩
  obtain ⟨P, hPd⟩ : ∃ P : Value → H → Prop, P = fun v h' => v = .bool (toldR r es x other round) ∧ Fr h h' := ⟨_, rfl⟩
  rw [← hPd]
  refine Ret.fn F_judge_rounds_told 5 (by decide) ?_
  rw [s_judge_rounds_told]
  have hv := hrow.slvM
  obtain ⟨q, eq⟩ : ∃ q, q = h.next := ⟨_, rfl⟩
  obtain ⟨h2, eh2⟩ : ∃ h2, h2 = ((((((((h.new (.cells [.map (some m)] 0)).new (.cells (gL st lb sl) 0)).new (.cells (edL x) 0)).new (.cells [.int .i64 round] 0)).new (.cells [.bool false] 0)).new (.cells (gL st lb sl) 0)).new (.cells [.int .i64 other] 0)).new (.cells [.int .i64 x.2.2] 0)).new (.loop .ready none (setL [p5, p7, p9, p10] [ptr h.next, ptr (h.next + 1 + 1), ptr (h.next + 1 + 1 + 1), ptr (h.next + 1 + 1 + 1 + 1)]) r_judge_rounds_told_1) := ⟨_, rfl⟩
  simp (disch := first | omega | (simp only [new_next, put_next]; done) | (simp only [new_next, put_next]; omega)) [hv.clean, hv.take, leads_ok]
  rw [← eh2, ← eq]
  have hf2 : Fr h h2 := by rw [eh2]; exact ((((((((Fr.new _ _).newR _).newR _).newR _).newR _).newR _).newR _).newR _).newR _
  have hn2 : h2.next = q + 9 := by rw [eh2, eq]; simp
  have gm2 : h2.get q = some (.cells [.map (some m)] 0) := by rw [eh2, eq]; simp (disch := first | omega | (simp only [new_next, put_next]; done) | (simp only [new_next, put_next]; omega)) []
  have gx2 : h2.get (q + 1 + 1) = some (.cells (edL x) 0) := by rw [eh2, eq]; simp (disch := first | omega | (simp only [new_next, put_next]; done) | (simp only [new_next, put_next]; omega)) []
  have gr2 : h2.get (q + 1 + 1 + 1) = some (.cells [.int .i64 round] 0) := by rw [eh2, eq]; simp (disch := first | omega | (simp only [new_next, put_next]; done) | (simp only [new_next, put_next]; omega)) []
  have gq2 : h2.get (q + 1 + 1 + 1 + 1) = some (.cells [.bool false] 0) := by rw [eh2, eq]; simp (disch := first | omega | (simp only [new_next, put_next]; done) | (simp only [new_next, put_next]; omega)) []
  have gg2 : h2.get (q + 1 + 1 + 1 + 1 + 1) = some (.cells (gL st lb sl) 0) := by rw [eh2, eq]; simp (disch := first | omega | (simp only [new_next, put_next]; done) | (simp only [new_next, put_next]; omega)) []
  have go2 : h2.get (q + 1 + 1 + 1 + 1 + 1 + 1) = some (.cells [.int .i64 other] 0) := by rw [eh2, eq]; simp (disch := first | omega | (simp only [new_next, put_next]; done) | (simp only [new_next, put_next]; omega)) []
  have gl2 : h2.get (q + 1 + 1 + 1 + 1 + 1 + 1 + 1) = some (.cells [.int .i64 x.2.2] 0) := by rw [eh2, eq]; simp (disch := first | omega | (simp only [new_next, put_next]; done) | (simp only [new_next, put_next]; omega)) []
  have gL2 : h2.get (q + 1 + 1 + 1 + 1 + 1 + 1 + 1 + 1) = some (.loop .ready none (setL [p5, p7, p9, p10] [ptr q, ptr (q + 1 + 1), ptr (q + 1 + 1 + 1), ptr (q + 1 + 1 + 1 + 1)]) r_judge_rounds_told_1) := by rw [eh2, eq]; simp (disch := first | omega | (simp only [new_next, put_next]; done) | (simp only [new_next, put_next]; omega)) []
  obtain ⟨L, eL⟩ : ∃ L, L = q + 1 + 1 + 1 + 1 + 1 + 1 + 1 + 1 := ⟨_, rfl⟩
  rw [← eL] at gL2 ⊢
  have hm2 := hm.fr (D := fun _ => False) hf2.D hml (by simp)
  refine OkV.call (leads_run es hs hsz other x.2.2 st lb (.func (.yield L) #[] #[]) rfl rfl rfl sl (q + 1 + 1 + 1 + 1 + 1) (q + 1 + 1 + 1 + 1 + 1 + 1) (q + 1 + 1 + 1 + 1 + 1 + 1 + 1) h2 (M := fun j => j = L ∨ j = q + 1 + 1 + 1 + 1) (fun i hi => by omega) (hrow.fr hf2) (by omega) (by omega) (by omega) (fun b o n c e => by have := hrow.lt e; omega) (by omega) gg2 (by omega) go2 (by omega) gl2
    (fun i h1 => h1.get L = some (.loop .ready none (setL [p5, p7, p9, p10] [ptr q, ptr (q + 1 + 1), ptr (q + 1 + 1 + 1), ptr (q + 1 + 1 + 1 + 1)]) r_judge_rounds_told_1) ∧ h1.get (q + 1 + 1 + 1 + 1) = some (.cells [.bool false] 0) ∧ FrD (fun j => j = L ∨ j = q + 1 + 1 + 1 + 1) h2 h1 ∧ ∀ t ∈ (tos es other x.2.2).take i, tellsR r round x.2.1 t = true)
    (fun h1 => h1.get L = some (.loop .done (some .ret) (setL [p5, p7, p9, p10] [ptr q, ptr (q + 1 + 1), ptr (q + 1 + 1 + 1), ptr (q + 1 + 1 + 1 + 1)]) r_judge_rounds_told_1) ∧ h1.get (q + 1 + 1 + 1 + 1) = some (.cells [.bool false] 0) ∧ h2.next ≤ h1.next ∧ ∃ t ∈ tos es other x.2.2, tellsR r round x.2.1 t = false) ?_ ?_ ?_ ?_
    (P := fun _ h' => FrD (fun j => j = L ∨ j = q + 1 + 1 + 1 + 1) h2 h' ∧ ((h'.get L = some (.loop .ready none (setL [p5, p7, p9, p10] [ptr q, ptr (q + 1 + 1), ptr (q + 1 + 1 + 1), ptr (q + 1 + 1 + 1 + 1)]) r_judge_rounds_told_1) ∧ h'.get (q + 1 + 1 + 1 + 1) = some (.cells [.bool false] 0) ∧ toldR r es x other round = true) ∨ (h'.get L = some (.loop .done (some .ret) (setL [p5, p7, p9, p10] [ptr q, ptr (q + 1 + 1), ptr (q + 1 + 1 + 1), ptr (q + 1 + 1 + 1 + 1)]) r_judge_rounds_told_1) ∧ h'.get (q + 1 + 1 + 1 + 1) = some (.cells [.bool false] 0) ∧ toldR r es x other round = false))) ?_) ?_
  · rintro i h1 h3 ⟨q1, q2, q3, q4⟩ hf
    have := q3.next
    refine ⟨(hf.get _ (by omega) (by omega)).trans q1, (hf.get _ (by omega) (by omega)).trans q2, ⟨Nat.le_trans q3.next hf.next, fun j hj hd => (hf.get _ (by omega) (by omega)).trans (q3.get _ hj hd)⟩, q4⟩
  · rintro h1 h3 ⟨q1, q2, q3, q4⟩ hf
    exact ⟨(hf.get _ (by omega) (by omega)).trans q1, (hf.get _ (by omega) (by omega)).trans q2, Nat.le_trans q3 hf.next, q4⟩
  · rintro i v h1 hv ⟨q1, q2, q3, q4⟩ hn
    rw [List.getElem?_map] at hv
    obtain ⟨t, ht, rfl⟩ := Option.map_eq_some_iff.1 hv
    refine told_round r m x round t L q (q + 1 + 1) (q + 1 + 1 + 1) (q + 1 + 1 + 1 + 1) h1 (hm2.fr q3 (by have := hf2.next; omega) (by omega)) (by omega) q1 ((q3.get _ (by omega) (by omega)).trans gm2) ((q3.get _ (by omega) (by omega)).trans gx2) ((q3.get _ (by omega) (by omega)).trans gr2) q2 (by omega) (by omega) (by omega) (by omega) (by omega) (by omega) (by omega) (by omega) (by omega) (by omega) ?_ ?_
    · intro e h' r1 r2 r3
      refine ⟨r1, .inl ⟨rfl, r2, r3, q3.trans r1, fun u hu => ?_⟩⟩
      rw [List.take_add_one, ht] at hu
      rcases List.mem_append.1 hu with hu | hu
      · exact q4 u hu
      · simp at hu; subst hu; exact e
    · intro e h' r1 r2 r3
      exact ⟨r1, .inr ⟨rfl, r2, r3, by have := r1.next; omega, t, List.mem_of_getElem? ht, e⟩⟩
  · exact ⟨gL2, gq2, .refl _ _, by simp⟩
  · intro h' hf hv
    refine ⟨hf, ?_⟩
    rcases hv with ⟨q1, q2, q3, q4⟩ | ⟨q1, q2, q3, t, ht, e⟩
    · refine .inl ⟨q1, q2, ?_⟩
      rw [List.take_length] at q4
      exact List.all_eq_true.2 q4
    · refine .inr ⟨q1, q2, ?_⟩
      rw [Bool.eq_false_iff]
      intro hh
      rw [List.all_eq_true.1 hh t ht] at e; cases e
  · rintro v h' ⟨hf, hv⟩
    have hfn := hf.next
    have hfin : ∀ o o', Fr h ((h'.put L o).put (q + 1 + 1 + 1 + 1) o') := fun o o' => ⟨by simp; have := hf2.next; omega, fun i hi => by
      rw [get_put_ne' (by omega), get_put_ne' (by omega), hf.get _ (by have := hf2.next; omega) (by omega)]; exact hf2.get _ hi⟩
    have hfin' : ∀ o, Fr h (h'.put L o) := fun o => ⟨by simp; have := hf2.next; omega, fun i hi => by
      rw [get_put_ne' (by omega), hf.get _ (by have := hf2.next; omega) (by omega)]; exact hf2.get _ hi⟩
    rcases hv with ⟨q1, q2, q3⟩ | ⟨q1, q2, q3⟩
    · rw [rgP_ready q1, s_judge_rounds_told_0]
      refine OkV.eq (OkV.val (v := .bool true) (h := (h'.put L (.loop .exhausted none (setL [p5, p7, p9, p10] [ptr q, ptr (q + 1 + 1), ptr (q + 1 + 1 + 1), ptr (q + 1 + 1 + 1 + 1)]) r_judge_rounds_told_1)).put (q + 1 + 1 + 1 + 1) (.cells [.bool true] 0)) (by rw [hPd]; exact ⟨by rw [q3], hfin _ _⟩)) ?_
      simp (disch := first | omega | (simp only [new_next, put_next]; done) | (simp only [new_next, put_next]; omega)) [q2]
    · rw [rgP_ret q1]
      refine OkV.eq (OkV.val (v := .bool false) (h := h'.put L (.loop .exhausted (some .ret) (setL [p5, p7, p9, p10] [ptr q, ptr (q + 1 + 1), ptr (q + 1 + 1 + 1), ptr (q + 1 + 1 + 1 + 1)]) r_judge_rounds_told_1)) (by rw [hPd]; exact ⟨by rw [q3], hfin' _⟩)) ?_
      simp (disch := first | omega | (simp only [new_next, put_next]; done) | (simp only [new_next, put_next]; omega)) [q2]
end Go.Ideal.J
set_option linter.unusedSimpArgs false
set_option linter.unusedVariables false
set_option maxRecDepth 10000
set_option maxHeartbeats 2000000
namespace Go.Ideal.J
open Go Go.Ideal
def firstR (r : Int → Int → Option Int) (es : List Ed) (a b round : Int) : Option Ed := (outs es a).find? fun x => toldR r es x b round
theorem find_at {α : Type} {p : α → Bool} : ∀ {l : List α} {i : Nat} {x : α}, l[i]? = some x → (∀ y ∈ l.take i, p y = false) → p x = true → l.find? p = some x
  | [], i, x, h, _, _ => by simp at h
  | a :: l, 0, x, h, _, hx => by
    simp at h; subst h
    rw [List.find?_cons, hx]
  | a :: l, i + 1, x, h, hn, hx => by
    have ha := hn a (by simp)
    rw [List.find?_cons, ha]
    exact find_at (by simpa using h) (fun y hy => hn y (by simp [hy])) hx
theorem find_none {α : Type} {p : α → Bool} {l : List α} (h : ∀ y ∈ l, p y = false) : l.find? p = none := by
  rw [List.find?_eq_none]; intro x hx; rw [h x hx]; simp
def firstV : Option Ed → Value
  | some x => pairV' (edV x) (.bool true)
  | none => pairV' (edV (0, 0, 0)) (.bool false)
where pairV' (a b : Value) : Value := .tuple ⟨[a, b]⟩
noncomputable abbrev slF1 (q : Nat) : Slots := setL [p5, p6, p8, p9, p10, p11] [ptr q, ptr (q + 1), ptr (q + 1 + 1), ptr (q + 1 + 1 + 1), ptr (q + 1 + 1 + 1 + 1), ptr (q + 1 + 1 + 1 + 1 + 1)]

theorem first_round (es : List Ed) (hs : SortedF es) (hsz : es.length ≤ 1000) (st lb : Int) (r : Int → Int → Option Int) (m : Nat) (x : Ed) (other round : Int) (sl : Value) (L q : Nat) (h1 : H) (hrow : Row h1 3 sl (es.map edL)) (hsl : ∀ b o n c, sl = .slice (some ⟨b, o, none⟩) n c → b ≠ L) (hm : MapM h1 m (rV r)) (hml : m < q) (hL : h1.get L = some (.loop .ready none (slF1 q) r_judge_rounds_first_1)) (hLq : q + 6 ≤ L)
    (g0 : h1.get q = some (.cells [.map (some m)] 0)) (g1 : h1.get (q + 1) = some (.cells (gL st lb sl) 0)) (g2 : h1.get (q + 1 + 1) = some (.cells [.int .i64 other] 0)) (g3 : h1.get (q + 1 + 1 + 1) = some (.cells [.int .i64 round] 0)) (g4 : h1.get (q + 1 + 1 + 1 + 1) = some (.cells (edL (0, 0, 0)) 0)) (g5 : h1.get (q + 1 + 1 + 1 + 1 + 1) = some (.cells [.bool false] 0)) (hl : L < h1.next) {P : Value → H → Prop}
    (hP1 : toldR r es x other round = false → ∀ h', FrD (fun j => j = L ∨ j = q + 4 ∨ j = q + 5) h1 h' → h'.get L = some (.loop .ready none (slF1 q) r_judge_rounds_first_1) → h'.get (q + 4) = some (.cells (edL (0, 0, 0)) 0) → h'.get (q + 5) = some (.cells [.bool false] 0) → P (.bool true) h')
    (hP2 : toldR r es x other round = true → ∀ h', FrD (fun j => j = L ∨ j = q + 4 ∨ j = q + 5) h1 h' → h'.get L = some (.loop .done (some .ret) (slF1 q) r_judge_rounds_first_1) → h'.get (q + 4) = some (.cells (edL x) 0) → h'.get (q + 5) = some (.cells [.bool true] 0) → P (.bool false) h') :
    Ret F (.func (.yield L) #[] #[]) [edV x] h1 P := by
  refine Ret.round hL ?_
  rw [s_judge_rounds_first_1]
  simp (disch := first | omega | (simp only [new_next, put_next]; done) | (simp only [new_next, put_next]; omega)) []
  obtain ⟨h2, eh2⟩ : ∃ h2, h2 = (h1.new (.cells (edL x) 0)).put L (.loop .busy none (slF1 q) r_judge_rounds_first_1) := ⟨_, rfl⟩
  rw [busyK_eq (by rw [get_new_ne (by omega)]; exact hL), s_judge_rounds_first_2]
  have hf2 : FrD (fun j => j = L) h1 h2 := by rw [eh2]; exact ((FrD.refl (fun j => j = L) _).new _).put (.inr rfl) _
  have hn2 : h2.next = h1.next + 1 := by rw [eh2]; simp
  have gL2 : h2.get L = some (.loop .busy none (slF1 q) r_judge_rounds_first_1) := by rw [eh2, get_put_eq rfl]
  have gx2 : h2.get h1.next = some (.cells (edL x) 0) := by rw [eh2, get_put_ne' (by omega), get_new_eq rfl]
  have k0 := (hf2.get _ (by omega) (by omega)).trans g0
  have k1 := (hf2.get _ (by omega) (by omega)).trans g1
  have k2' := (hf2.get _ (by omega) (by omega)).trans g2
  have k3 := (hf2.get _ (by omega) (by omega)).trans g3
  have k4 := (hf2.get _ (by omega) (by omega)).trans g4
  have k5 := (hf2.get _ (by omega) (by omega)).trans g5
  have hv := hrow.slvM
  obtain ⟨h3, e3, hf3⟩ := told_ok es hs hsz st lb r m x other round sl h2 (hrow.frD hf2 hsl) (hm.fr hf2 (by omega) (by omega)) (by omega)
  have hfn3 := hf3.next
  have gL3 := (hf3.get _ (by omega)).trans gL2
  have gx3 := (hf3.get _ (by omega)).trans gx2
  have j4 := (hf3.get _ (by omega)).trans k4
  have j5 := (hf3.get _ (by omega)).trans k5
  have hf13 : FrD (fun j => j = L ∨ j = q + 4 ∨ j = q + 5) h1 h3 := ⟨by omega, fun i hi hd => (hf3.get _ (by omega)).trans (hf2.get _ hi (by omega))⟩
  rw [← eh2]
  cases ht : toldR r es x other round with
  | false =>
    rw [ht] at e3
    have : OkV (fin L none h3) P := by
      rw [fin_none gL3]
      exact OkV.val (hP1 ht _ (hf13.put (.inr (.inl rfl)) _) (get_put_eq rfl) (by rw [get_put_ne' (by omega)]; exact j4) (by rw [get_put_ne' (by omega)]; exact j5))
    refine OkV.eq this ?_
    simp (disch := first | omega | (simp only [new_next, put_next]; done) | (simp only [new_next, put_next]; omega)) [k0, k1, k2', k3, gx2, hv.clean, hv.take, e3]
  | true =>
    rw [ht] at e3
    have : OkV (fin L (some .ret) ((h3.put (q + 1 + 1 + 1 + 1) (.cells (edL x) 0)).put (q + 1 + 1 + 1 + 1 + 1) (.cells [.bool true] 0))) P := by
      rw [fin_some (by rw [get_put_ne' (by omega), get_put_ne' (by omega)]; exact gL3)]
      exact OkV.val (hP2 ht _ (((hf13.put (.inr (.inr (.inl rfl))) _).put (.inr (.inr (.inr rfl))) _).put (.inr (.inl rfl)) _) (get_put_eq rfl) (by rw [get_put_ne' (by omega), get_put_ne' (by omega), get_put_eq rfl]) (by rw [get_put_ne' (by omega), get_put_eq rfl]))
    refine OkV.eq this ?_
    simp (disch := first | omega | (simp only [new_next, put_next]; done) | (simp only [new_next, put_next]; omega)) [k0, k1, k2', k3, gx2, hv.clean, hv.take, e3, gx3, j4, j5]

theorem first_ok (es : List Ed) (hs : SortedF es) (hsz : es.length ≤ 1000) (st lb : Int) (r : Int → Int → Option Int) (m : Nat) (a b round : Int) (sl : Value) (h : H) (hrow : Row h 3 sl (es.map edL)) (hm : MapM h m (rV r)) (hml : m < h.next) :
    ∃ h', callI F (fnV n_judge_rounds_first) [.map (some m), gV st lb sl, .int .i64 a, .int .i64 b, .int .i64 round] h = some (firstV (firstR r es a b round), h') ∧ Fr h h' := by
  suffices hr : Ret F (fnV n_judge_rounds_first) [.map (some m), gV st lb sl, .int .i64 a, .int .i64 b, .int .i64 round] h fun v h' => v = firstV (firstR r es a b round) ∧ Fr h h' by
    obtain ⟨v, h', e, rfl, hf⟩ := hr; exact ⟨h', e, hf⟩
  obtain ⟨P, hPd⟩ : ∃ P : Value → H → Prop, P = fun v h' => v = firstV (firstR r es a b round) ∧ Fr h h' := ⟨_, rfl⟩
  rw [← hPd]
  refine Ret.fn F_judge_rounds_first 5 (by decide) ?_
  rw [s_judge_rounds_first]
  have hv := hrow.slvM
  obtain ⟨q, eq⟩ : ∃ q, q = h.next := ⟨_, rfl⟩
  obtain ⟨h2, eh2⟩ : ∃ h2, h2 = ((((((((h.new (.cells [.map (some m)] 0)).new (.cells (gL st lb sl) 0)).new (.cells [.int .i64 b] 0)).new (.cells [.int .i64 round] 0)).new (.cells (edL (0, 0, 0)) 0)).new (.cells [.bool false] 0)).new (.cells (gL st lb sl) 0)).new (.cells [.int .i64 a] 0)).new (.loop .ready none (slF1 h.next) r_judge_rounds_first_1) := ⟨_, rfl⟩
  simp (disch := first | omega | (simp only [new_next, put_next]; done) | (simp only [new_next, put_next]; omega)) [hv.clean, hv.take, steps_ok]
  rw [← eh2, ← eq]
  have hf2 : Fr h h2 := by rw [eh2]; exact ((((((((Fr.new _ _).newR _).newR _).newR _).newR _).newR _).newR _).newR _).newR _
  have hn2 : h2.next = q + 9 := by rw [eh2, eq]; simp
  have k0 : h2.get q = some (.cells [.map (some m)] 0) := by rw [eh2, eq]; simp (disch := first | omega | (simp only [new_next, put_next]; done) | (simp only [new_next, put_next]; omega)) []
  have k1 : h2.get (q + 1) = some (.cells (gL st lb sl) 0) := by rw [eh2, eq]; simp (disch := first | omega | (simp only [new_next, put_next]; done) | (simp only [new_next, put_next]; omega)) []
  have k2' : h2.get (q + 1 + 1) = some (.cells [.int .i64 b] 0) := by rw [eh2, eq]; simp (disch := first | omega | (simp only [new_next, put_next]; done) | (simp only [new_next, put_next]; omega)) []
  have k3 : h2.get (q + 1 + 1 + 1) = some (.cells [.int .i64 round] 0) := by rw [eh2, eq]; simp (disch := first | omega | (simp only [new_next, put_next]; done) | (simp only [new_next, put_next]; omega)) []
  have k4 : h2.get (q + 1 + 1 + 1 + 1) = some (.cells (edL (0, 0, 0)) 0) := by rw [eh2, eq]; simp (disch := first | omega | (simp only [new_next, put_next]; done) | (simp only [new_next, put_next]; omega)) []
  have k5 : h2.get (q + 1 + 1 + 1 + 1 + 1) = some (.cells [.bool false] 0) := by rw [eh2, eq]; simp (disch := first | omega | (simp only [new_next, put_next]; done) | (simp only [new_next, put_next]; omega)) []
  have gg2 : h2.get (q + 1 + 1 + 1 + 1 + 1 + 1) = some (.cells (gL st lb sl) 0) := by rw [eh2, eq]; simp (disch := first | omega | (simp only [new_next, put_next]; done) | (simp only [new_next, put_next]; omega)) []
  have gf2 : h2.get (q + 1 + 1 + 1 + 1 + 1 + 1 + 1) = some (.cells [.int .i64 a] 0) := by rw [eh2, eq]; simp (disch := first | omega | (simp only [new_next, put_next]; done) | (simp only [new_next, put_next]; omega)) []
  have gL2 : h2.get (q + 1 + 1 + 1 + 1 + 1 + 1 + 1 + 1) = some (.loop .ready none (slF1 q) r_judge_rounds_first_1) := by rw [eh2, eq]; simp (disch := first | omega | (simp only [new_next, put_next]; done) | (simp only [new_next, put_next]; omega)) []
  obtain ⟨L, eL⟩ : ∃ L, L = q + 1 + 1 + 1 + 1 + 1 + 1 + 1 + 1 := ⟨_, rfl⟩
  rw [← eL] at gL2 ⊢
  have hm2 := hm.fr (D := fun _ => False) hf2.D hml (by simp)
  refine OkV.call (steps_run es hs hsz a st lb (.func (.yield L) #[] #[]) sl (q + 1 + 1 + 1 + 1 + 1 + 1) (q + 1 + 1 + 1 + 1 + 1 + 1 + 1) h2 (M := fun j => j = L ∨ j = q + 4 ∨ j = q + 5) (hrow.fr hf2) (by omega) (by omega) (fun b o n c e => by have := hrow.lt e; omega) (by omega) gg2 (by omega) gf2
    (fun i h1 => h1.get L = some (.loop .ready none (slF1 q) r_judge_rounds_first_1) ∧ h1.get (q + 4) = some (.cells (edL (0, 0, 0)) 0) ∧ h1.get (q + 5) = some (.cells [.bool false] 0) ∧ FrD (fun j => j = L ∨ j = q + 4 ∨ j = q + 5) h2 h1 ∧ ∀ x ∈ (outs es a).take i, toldR r es x b round = false)
    (fun h1 => ∃ x, h1.get L = some (.loop .done (some .ret) (slF1 q) r_judge_rounds_first_1) ∧ h1.get (q + 4) = some (.cells (edL x) 0) ∧ h1.get (q + 5) = some (.cells [.bool true] 0) ∧ firstR r es a b round = some x) h2.next (Nat.le_refl _) ?_ ?_ ?_
    (P := fun _ h' => FrD (fun j => j = L ∨ j = q + 4 ∨ j = q + 5) h2 h' ∧ ((h'.get L = some (.loop .ready none (slF1 q) r_judge_rounds_first_1) ∧ h'.get (q + 4) = some (.cells (edL (0, 0, 0)) 0) ∧ h'.get (q + 5) = some (.cells [.bool false] 0) ∧ firstR r es a b round = none) ∨ ∃ x, h'.get L = some (.loop .done (some .ret) (slF1 q) r_judge_rounds_first_1) ∧ h'.get (q + 4) = some (.cells (edL x) 0) ∧ h'.get (q + 5) = some (.cells [.bool true] 0) ∧ firstR r es a b round = some x)) ?_) ?_
  · rintro i h1 h3 ⟨q1, q2, q3, q4, q5⟩ hf
    have := q4.next
    exact ⟨(hf.get _ (by omega)).trans q1, (hf.get _ (by omega)).trans q2, (hf.get _ (by omega)).trans q3, q4.trans hf.D, q5⟩
  · rintro i v h1 hv ⟨q1, q2, q3, q4, q5⟩ hn
    rw [List.getElem?_map] at hv
    obtain ⟨x, hx, rfl⟩ := Option.map_eq_some_iff.1 hv
    refine first_round es hs hsz st lb r m x b round sl L q h1 ((hrow.fr hf2).frD q4 (fun b o n c e => by have := hrow.lt e; omega)) (fun b o n c e => by have := hrow.lt e; omega) (hm2.fr q4 (by omega) (by omega)) (by omega) q1 (by omega) ((q4.get _ (by omega) (by omega)).trans k0) ((q4.get _ (by omega) (by omega)).trans k1) ((q4.get _ (by omega) (by omega)).trans k2') ((q4.get _ (by omega) (by omega)).trans k3) q2 q3 (by omega) ?_ ?_
    · intro e h' r1 r2 r3 r4
      refine ⟨r1, .inl ⟨rfl, r2, r3, r4, q4.trans r1, fun y hy => ?_⟩⟩
      rw [List.take_add_one, hx] at hy
      rcases List.mem_append.1 hy with hy | hy
      · exact q5 y hy
      · simp at hy; subst hy; exact e
    · intro e h' r1 r2 r3 r4
      exact ⟨r1, .inr ⟨rfl, x, r2, r3, r4, find_at hx q5 e⟩⟩
  · exact ⟨gL2, k4, k5, .refl _ _, by simp⟩
  · intro h' hf hv
    refine ⟨hf, ?_⟩
    rcases hv with ⟨q1, q2, q3, q4, q5⟩ | ⟨x, q1, q2, q3, q4⟩
    · rw [List.take_length] at q5
      exact .inl ⟨q1, q2, q3, find_none q5⟩
    · exact .inr ⟨x, q1, q2, q3, q4⟩
  · rintro v h' ⟨hf, hv⟩
    have hfn := hf.next
    have hfin : ∀ o, Fr h (h'.put L o) := fun o => ⟨by simp; have := hf2.next; omega, fun i hi => by
      rw [get_put_ne' (by omega), hf.get _ (by have := hf2.next; omega) (by omega)]; exact hf2.get _ hi⟩
    have hfin' : ∀ o o1 o2, Fr h (((h'.put L o).put (q + 1 + 1 + 1 + 1) o1).put (q + 1 + 1 + 1 + 1 + 1) o2) := fun o o1 o2 => ((hfin o).put (by omega) _).put (by omega) _
    rcases hv with ⟨q1, q2, q3, q4⟩ | ⟨x, q1, q2, q3, q4⟩
    · rw [rgP_ready q1, s_judge_rounds_first_0]
      refine OkV.eq (OkV.val (v := firstV none) (h := ((h'.put L (.loop .exhausted none (slF1 q) r_judge_rounds_first_1)).put (q + 1 + 1 + 1 + 1) (.cells (edL (0, 0, 0)) 0)).put (q + 1 + 1 + 1 + 1 + 1) (.cells [.bool false] 0)) (by rw [hPd]; exact ⟨by rw [q4], hfin' _ _ _⟩)) ?_
      have q2' : h'.get (q + 1 + 1 + 1 + 1) = some (.cells (edL (0, 0, 0)) 0) := q2
      have q3' : h'.get (q + 1 + 1 + 1 + 1 + 1) = some (.cells [.bool false] 0) := q3
      simp (disch := first | omega | (simp only [new_next, put_next]; done) | (simp only [new_next, put_next]; omega)) [q2', q3', fillL, firstV, firstV.pairV']
    · rw [rgP_ret q1]
      refine OkV.eq (OkV.val (v := firstV (some x)) (h := h'.put L (.loop .exhausted (some .ret) (slF1 q) r_judge_rounds_first_1)) (by rw [hPd]; exact ⟨by rw [q4], hfin _⟩)) ?_
      have q2' : h'.get (q + 1 + 1 + 1 + 1) = some (.cells (edL x) 0) := q2
      have q3' : h'.get (q + 1 + 1 + 1 + 1 + 1) = some (.cells [.bool true] 0) := q3
      simp (disch := first | omega | (simp only [new_next, put_next]; done) | (simp only [new_next, put_next]; omega)) [q2', q3', fillL, firstV, firstV.pairV']
end Go.Ideal.J
set_option linter.unusedSimpArgs false
set_option linter.unusedVariables false
set_option maxRecDepth 10000
set_option maxHeartbeats 2000000
namespace Go.Ideal.J
open Go Go.Ideal
/-- what is told apart in a round. -/
def condR (r : Int → Int → Option Int) (es : List Ed) (n : Int) (a b : Int) : Bool := (r a b).isNone && ((firstR r es a b (n - 1)).isSome || (firstR r es b a (n - 1)).isSome)
def fndA (r : Int → Int → Option Int) (es : List Ed) (n : Int) (a b : Nat) : List (Int × Int) := ((List.range b).filter fun (b : Nat) => condR r es n (a : Int) (b : Int)).map fun (b : Nat) => ((a : Int), (b : Int))
def fnd (r : Int → Int → Option Int) (es : List Ed) (n : Int) (a : Nat) : List (Int × Int) := (List.range a).flatMap fun a => fndA r es n a a
theorem fndA_succ (r : Int → Int → Option Int) (es : List Ed) (n : Int) (a b : Nat) : fndA r es n a (b + 1) = fndA r es n a b ++ if condR r es n a b then [((a : Int), (b : Int))] else [] := by
  unfold fndA
  rw [List.range_succ, List.filter_append, List.map_append]
  congr 1
  by_cases e : condR r es n (a : Int) (b : Int) = true
  · rw [if_pos e]; simp [e]
  · rw [if_neg e]; simp [e]
theorem fnd_succ (r : Int → Int → Option Int) (es : List Ed) (n : Int) (a : Nat) : fnd r es n (a + 1) = fnd r es n a ++ fndA r es n a a := by
  unfold fnd
  rw [List.range_succ, List.flatMap_append]
  simp
theorem fndA_len (r : Int → Int → Option Int) (es : List Ed) (n : Int) (a b : Nat) : (fndA r es n a b).length ≤ b := by
  unfold fndA
  rw [List.length_map]
  exact Nat.le_trans (List.length_filter_le _ _) (by simp)
theorem fnd_len (r : Int → Int → Option Int) (es : List Ed) (n : Int) {N : Nat} : ∀ a, a ≤ N → (fnd r es n a).length ≤ a * N
  | 0, _ => by simp [fnd]
  | a + 1, h => by
    rw [fnd_succ, List.length_append, Nat.succ_mul]
    have := fnd_len r es n (N := N) a (by omega)
    have := fndA_len r es n a a
    omega
abbrev prL (p : Int × Int) : List Value := [.int .i64 p.1, .int .i64 p.2]

theorem apart5 (es : List Ed) (hs : SortedF es) (hsz : es.length ≤ 1000) (N : Nat) (hN : N ≤ 200) (lb : Int) (r : Int → Int → Option Int) (n : Int) (hn : 1 ≤ n ∧ n ≤ 1000000) (m pg : Nat) (sl : Value) (a : Nat) (haN : a < N) (rows : List (Int × Int)) (hrows : rows.length ≤ 100000) (h0 : H) (hrow : Row h0 3 sl (es.map edL)) (hm : MapM h0 m (rV r)) (hml : m < h0.next) (hgg : h0.get pg = some (.cells (gL (N : Int) lb sl) 0)) (hpg : pg < h0.next) (lo : Nat) (hlo : lo ≤ h0.next) (hmlo : m < lo) (hpglo : pg < lo) (hsllo : ∀ b o n c, sl = .slice (some ⟨b, o, none⟩) n c → b < lo) {P : Value → H → Prop}
    (hP : ∀ h' fv ob, FrD (fun j => lo ≤ j) h0 h' → Grow h' 2 fv ((rows ++ fndA r es n a a).map prL) ob → (∀ q, ob = some q → lo ≤ q) → OkV (sh (rI F) c_judge_apart_4 (K_judge_apart_4 (rI F)) (setL [p1, p3, p4, p5, p18, p19] [ptr pg, .map (some m), .int .i64 n, fv, .int .i64 (N : Int), .int .i64 (a : Int)]) h') P) :
    ∀ (k b : Nat) (h : H) (fv : Value) (ob : Option Nat), b + k = a → FrD (fun j => lo ≤ j) h0 h → Grow h 2 fv ((rows ++ fndA r es n a b).map prL) ob → (∀ q, ob = some q → lo ≤ q) →
    OkV (sh (rI F) c_judge_apart_5 (K_judge_apart_5 (rI F)) (setL [p1, p3, p4, p5, p6, p18, p19, p22, p23] [ptr pg, .map (some m), .int .i64 n, fv, .int .i64 (a : Int), .int .i64 (N : Int), .int .i64 (a : Int), .int .i64 (a : Int), .int .i64 (b : Int)]) h) P := by
  intro k
  induction k with
  | zero =>
    intro b h fv ob hb hf hg hob
    have e : b = a := by omega
    subst e
    rw [s_judge_apart_5]
    simp (disch := first | omega | (simp only [new_next, put_next]; done) | (simp only [new_next, put_next]; omega)) []
    exact hP h fv ob hf hg hob
  | succ k ih =>
    intro b h fv ob hb hf hg hob
    have hba : b < a := by omega
    have hfn := hf.next
    have hsucc := fndA_succ r es n a b
    have hv := hrow.slvM
    have hm1 := hm.fr hf hml (by omega)
    have hrow1 := hrow.frD hf (fun b o n c e => by have := hsllo b o n c e; omega)
    have gpg := (hf.get _ hpg (by omega)).trans hgg
    have hlk := look_ok hm1 (.int .i64 0) (a : Int) (b : Int)
    rw [s_judge_apart_5]
    -- what comes next, with nothing found
    have skip : condR r es n a b = false → ∀ h', Fr h h' → OkV (sh (rI F) c_judge_apart_6 (K_judge_apart_6 (rI F)) (setL [p1, p3, p4, p5, p6, p18, p19, p22, p23] [ptr pg, .map (some m), .int .i64 n, fv, .int .i64 (a : Int), .int .i64 (N : Int), .int .i64 (a : Int), .int .i64 (a : Int), .int .i64 (b : Int)]) h') P := by
      intro hc h' hf'
      rw [s_judge_apart_6]
      have := ih (b + 1) h' fv ob (by omega) (hf.trans hf'.D) (by rw [hsucc, hc]; simpa using hg.fr hf') hob
      refine OkV.eq (this.lp (l_judge_apart_5 F _ _ _ _ _ _ _ _ _ _)) ?_
      simp (disch := first | omega | (simp only [new_next, put_next]; done) | (simp only [new_next, put_next]; omega)) [i64_add]
    cases hr : r a b with
    | some v =>
      simp only [rV, hr, Option.map_none, Option.map_some, Option.getD_none, Option.getD_some, Option.isSome_none, Option.isSome_some] at hlk
      refine OkV.eq (skip (by simp [condR, hr]) h (.refl _)) ?_
      simp (disch := first | omega | (simp only [new_next, put_next]; done) | (simp only [new_next, put_next]; omega)) [hba, hlk, fillL]
    | none =>
      simp only [rV, hr, Option.map_none, Option.map_some, Option.getD_none, Option.getD_some, Option.isSome_none, Option.isSome_some] at hlk
      obtain ⟨h1, e1, hf1⟩ := first_ok es hs hsz (N : Int) lb r m (a : Int) (b : Int) (n - 1) sl h hrow1 hm1 (by omega)
      have hfn1 := hf1.next
      have take : condR r es n a b = true → ∀ h', Fr h h' → OkV (sh (rI F) c_judge_apart_7 (K_judge_apart_7 (rI F)) (setL [p1, p3, p4, p5, p6, p7, p11, p18, p19, p22, p23] [ptr pg, .map (some m), .int .i64 n, fv, .int .i64 (a : Int), .int .i64 (b : Int), .bool true, .int .i64 (N : Int), .int .i64 (a : Int), .int .i64 (a : Int), .int .i64 (b : Int)]) h') P := by
        intro hc h' hf'
        rw [s_judge_apart_7]
        simp (disch := first | omega | (simp only [new_next, put_next]; done) | (simp only [new_next, put_next]; omega)) [fillL, repeatL]
        obtain ⟨h2, eh2⟩ : ∃ h2, h2 = h'.new (.cells [.int .i64 (a : Int), .int .i64 (b : Int)] 0) := ⟨_, rfl⟩
        have hf2 : Fr h h2 := by rw [eh2]; exact hf'.newR _
        have hn2 : h2.next = h'.next + 1 := by rw [eh2]; simp
        have hfn' := hf'.next
        have hfl := fndA_len r es n a b
        obtain ⟨h3, fv', ea, hg3, hn3, hf3⟩ := append_one (h := h2) (sz := 2) (bytes := 16) (r := prL ((a : Int), (b : Int))) (b := h'.next) (e := 0) (by omega) (by decide) (hg.fr hf2) (by rw [eh2]; simp) rfl rfl rfl (by rw [List.length_map, List.length_append]; omega)
        rw [← eh2, ea]
        simp (disch := first | omega | (simp only [new_next, put_next]; done) | (simp only [new_next, put_next]; omega)) []
        rw [s_judge_apart_6]
        have := ih (b + 1) h3 fv' (some h2.next) (by omega) ⟨by omega, fun i hi hd => (hf3.get _ (by omega) (fun e => hd (hob _ e))).trans ((hf2.get _ (by omega)).trans (hf.get _ hi hd))⟩ (by rw [hsucc, if_pos hc, ← List.append_assoc, List.map_append]; exact hg3) (fun q e => by cases e; omega)
        refine OkV.eq (this.lp (l_judge_apart_5 F _ _ _ _ _ _ _ _ _ _)) ?_
        simp (disch := first | omega | (simp only [new_next, put_next]; done) | (simp only [new_next, put_next]; omega)) [i64_add]
      have leave : condR r es n a b = false → ∀ h', Fr h h' → OkV (sh (rI F) c_judge_apart_7 (K_judge_apart_7 (rI F)) (setL [p1, p3, p4, p5, p6, p7, p11, p18, p19, p22, p23] [ptr pg, .map (some m), .int .i64 n, fv, .int .i64 (a : Int), .int .i64 (b : Int), .bool false, .int .i64 (N : Int), .int .i64 (a : Int), .int .i64 (a : Int), .int .i64 (b : Int)]) h') P := by
        intro hc h' hf'
        rw [s_judge_apart_7]
        simp (disch := first | omega | (simp only [new_next, put_next]; done) | (simp only [new_next, put_next]; omega)) []
        exact skip hc h' hf'
      cases h1c : firstR r es a b (n - 1) with
      | some x =>
        rw [h1c] at e1
        have hf1' : Fr h (h1.new (.cells (edL x) 0)) := hf1.newR _
        refine OkV.eq (take (by simp [condR, hr, h1c]) _ hf1') ?_
        simp only [firstV, firstV.pairV'] at e1
        simp (disch := first | omega | (simp only [new_next, put_next]; done) | (simp only [new_next, put_next]; omega)) [hba, hlk, fillL, gpg, hv.clean, hv.take, i64_sub, e1]
      | none =>
        rw [h1c] at e1
        simp only [firstV, firstV.pairV'] at e1
        have hf1' : Fr h (h1.new (.cells (edL (0, 0, 0)) 0)) := hf1.newR _
        obtain ⟨h2, e2, hf2⟩ := first_ok es hs hsz (N : Int) lb r m (b : Int) (a : Int) (n - 1) sl (h1.new (.cells (edL (0, 0, 0)) 0)) (hrow1.fr hf1') (hm1.fr (D := fun _ => False) hf1'.D (by omega) (by simp)) (by simp; omega)
        have gpg1 := (hf1.get _ (by omega)).trans gpg
        cases h2c : firstR r es b a (n - 1) with
        | some x =>
          rw [h2c] at e2
          simp only [firstV, firstV.pairV'] at e2
          refine OkV.eq (take (by simp [condR, hr, h1c, h2c]) _ (hf1'.trans hf2)) ?_
          simp (disch := first | omega | (simp only [new_next, put_next]; done) | (simp only [new_next, put_next]; omega)) [hba, hlk, fillL, gpg, gpg1, hv.clean, hv.take, i64_sub, e1, e2]
        | none =>
          rw [h2c] at e2
          simp only [firstV, firstV.pairV'] at e2
          refine OkV.eq (leave (by simp [condR, hr, h1c, h2c]) _ (hf1'.trans hf2)) ?_
          simp (disch := first | omega | (simp only [new_next, put_next]; done) | (simp only [new_next, put_next]; omega)) [hba, hlk, fillL, gpg, gpg1, hv.clean, hv.take, i64_sub, e1, e2]
end Go.Ideal.J
set_option linter.unusedSimpArgs false
set_option linter.unusedVariables false
set_option maxRecDepth 10000
set_option maxHeartbeats 2000000
namespace Go.Ideal.J
open Go Go.Ideal
def setR (r : Int → Int → Option Int) (n : Int) (p : Int × Int) : Int → Int → Option Int := fun c d => if (c = p.1 ∧ d = p.2) ∨ (c = p.2 ∧ d = p.1) then some n else r c d
def updAll (r : Int → Int → Option Int) (n : Int) (l : List (Int × Int)) : Int → Int → Option Int := l.foldl (fun r p => setR r n p) r
theorem rV_set (r : Int → Int → Option Int) (n : Int) (p : Int × Int) : upd2 (upd2 (rV r) p.1 p.2 (.int .i64 n)) p.2 p.1 (.int .i64 n) = rV (setR r n p) := by
  funext c d
  unfold upd2 setR rV; dsimp only
  by_cases h1 : c = p.2 ∧ d = p.1
  · rw [if_pos h1, if_pos (.inr h1)]; rfl
  · rw [if_neg h1]
    by_cases h2 : c = p.1 ∧ d = p.2
    · rw [if_pos h2, if_pos (.inl h2)]; rfl
    · rw [if_neg h2, if_neg (fun h => h.elim h2 h1)]
theorem updAll_get (n : Int) : ∀ (l : List (Int × Int)) (r : Int → Int → Option Int) (c d : Int), updAll r n l c d = if (c, d) ∈ l ∨ (d, c) ∈ l then some n else r c d
  | [], r, c, d => by simp [updAll]
  | p :: l, r, c, d => by
    show updAll (setR r n p) n l c d = _
    rw [updAll_get n l]
    by_cases h : (c, d) ∈ l ∨ (d, c) ∈ l
    · rw [if_pos h, if_pos (h.imp (fun h => List.mem_cons_of_mem _ h) (fun h => List.mem_cons_of_mem _ h))]
    · rw [if_neg h]
      unfold setR
      by_cases h2 : (c = p.1 ∧ d = p.2) ∨ (c = p.2 ∧ d = p.1)
      · rw [if_pos h2, if_pos]
        rcases h2 with ⟨rfl, rfl⟩ | ⟨rfl, rfl⟩
        · exact .inl (by simp)
        · exact .inr (by simp)
      · rw [if_neg h2, if_neg]
        rintro (h3 | h3)
        · rcases List.mem_cons.1 h3 with h3 | h3
          · exact h2 (.inl ⟨by rw [← h3], by rw [← h3]⟩)
          · exact h (.inl h3)
        · rcases List.mem_cons.1 h3 with h3 | h3
          · exact h2 (.inr ⟨by rw [← h3], by rw [← h3]⟩)
          · exact h (.inr h3)
/-- the rounds, one by one. -/
def rN (es : List Ed) (N : Nat) : Nat → Int → Int → Option Int
  | 0 => fun _ _ => none
  | k + 1 => updAll (rN es N k) ((k : Int) + 1) (fnd (rN es N k) es ((k : Int) + 1) N)
def allP (N : Nat) : List (Nat × Nat) := (List.range N).flatMap fun a => (List.range a).map fun b => (a, b)
def meas (N : Nat) (r : Int → Int → Option Int) : Nat := (allP N).countP fun p => (r p.1 p.2).isNone
theorem countP_le {α : Type} {p q : α → Bool} : ∀ {l : List α}, (∀ x ∈ l, q x = true → p x = true) → l.countP q ≤ l.countP p
  | [], _ => by simp
  | a :: l, h => by
    have ih := countP_le (l := l) fun x hx => h x (by simp [hx])
    have ha := h a (by simp)
    rw [List.countP_cons, List.countP_cons]
    cases hq : q a
    · simp; omega
    · rw [ha hq]; simp; omega
theorem countP_lt {α : Type} {p q : α → Bool} : ∀ {l : List α}, (∀ x ∈ l, q x = true → p x = true) → (∃ x ∈ l, p x = true ∧ q x = false) → l.countP q < l.countP p
  | [], _, ⟨x, hx, _⟩ => by cases hx
  | a :: l, h, ⟨x, hx, h1, h2⟩ => by
    have hle := countP_le (l := l) fun x hx => h x (by simp [hx])
    have ha := h a (by simp)
    rw [List.countP_cons, List.countP_cons]
    rcases List.mem_cons.1 hx with rfl | hx
    · rw [h1, h2]; simp; omega
    · have := countP_lt (l := l) (fun x hx => h x (by simp [hx])) ⟨x, hx, h1, h2⟩
      cases hq : q a
      · simp; omega
      · rw [ha hq]; simp; omega
theorem mem_allP {N a b : Nat} : (a, b) ∈ allP N ↔ a < N ∧ b < a := by
  unfold allP
  rw [List.mem_flatMap]
  constructor
  · rintro ⟨a', h1, h2⟩
    obtain ⟨b', h3, h4⟩ := List.mem_map.1 h2
    cases h4
    exact ⟨List.mem_range.1 h1, List.mem_range.1 h3⟩
  · rintro ⟨h1, h2⟩
    exact ⟨a, List.mem_range.2 h1, List.mem_map.2 ⟨b, List.mem_range.2 h2, rfl⟩⟩
theorem mem_fnd {r : Int → Int → Option Int} {es : List Ed} {n : Int} {N : Nat} {p : Int × Int} : p ∈ fnd r es n N ↔ ∃ a b : Nat, p = ((a : Int), (b : Int)) ∧ a < N ∧ b < a ∧ condR r es n a b = true := by
  unfold fnd fndA
  rw [List.mem_flatMap]
  constructor
  · rintro ⟨a, h1, h2⟩
    obtain ⟨b, h3, rfl⟩ := List.mem_map.1 h2
    obtain ⟨h4, h5⟩ := List.mem_filter.1 h3
    exact ⟨a, b, rfl, List.mem_range.1 h1, List.mem_range.1 h4, h5⟩
  · rintro ⟨a, b, rfl, h1, h2, h3⟩
    exact ⟨a, List.mem_range.2 h1, List.mem_map.2 ⟨b, List.mem_filter.2 ⟨List.mem_range.2 h2, h3⟩, rfl⟩⟩
theorem meas_lt {r : Int → Int → Option Int} {es : List Ed} {n : Int} {N : Nat} (h : fnd r es n N ≠ []) : meas N (updAll r n (fnd r es n N)) < meas N r := by
  unfold meas
  refine countP_lt (fun x hx hq => ?_) ?_
  · rw [updAll_get] at hq
    split at hq
    · cases hq
    · exact hq
  · obtain ⟨p, l, e⟩ := List.exists_cons_of_ne_nil h
    have hp : p ∈ fnd r es n N := by rw [e]; simp
    obtain ⟨a, b, rfl, h1, h2, h3⟩ := mem_fnd.1 hp
    refine ⟨(a, b), mem_allP.2 ⟨h1, h2⟩, ?_, ?_⟩
    · unfold condR at h3
      rw [Bool.and_eq_true] at h3
      exact h3.1
    · rw [updAll_get, if_pos (.inl hp)]; rfl

theorem apart8 (n : Int) (m pg : Nat) (l : List (Int × Int)) (hl : l.length ≤ 100000) (fv : Value) (h0 : H) (hrow : Row h0 2 fv (l.map prL)) (hfm : ∀ b o n c, fv = .slice (some ⟨b, o, none⟩) n c → b ≠ m) (hml : m < h0.next) {P : Value → H → Prop} (r : Int → Int → Option Int)
    (hP : ∀ h', FrD (fun j => j = m) h0 h' → MapM h' m (rV (updAll r n l)) → OkV (sh (rI F) c_judge_apart_1 (K_judge_apart_1 (rI F)) (setL [p1, p3, p4] [ptr pg, .map (some m), .int .i64 n]) h') P) :
    ∀ (k i : Nat) (h : H), i + k = l.length → FrD (fun j => j = m) h0 h → MapM h m (rV (updAll r n (l.take i))) →
    OkV (sh (rI F) c_judge_apart_8 (K_judge_apart_8 (rI F)) (setL [p1, p3, p4, p70, p71, p72] [ptr pg, .map (some m), .int .i64 n, fv, .int .i64 (l.length : Int), .int .i64 (i : Int)]) h) P := by
  intro k
  induction k with
  | zero =>
    intro i h hi hf hm
    have e : i = l.length := by omega
    subst e
    rw [List.take_length] at hm
    rw [s_judge_apart_8]
    simp (disch := first | omega | (simp only [new_next, put_next]; done) | (simp only [new_next, put_next]; omega)) []
    exact hP h hf hm
  | succ k ih =>
    intro i h hi hf hm
    have hil : i < l.length := by omega
    have hx : (l.map prL)[i]? = some (prL l[i]) := by simp [hil]
    have htk : l.take (i + 1) = l.take i ++ [l[i]] := by rw [List.take_add_one, List.getElem?_eq_getElem hil]; rfl
    obtain ⟨b, o, cs, e, hv, hb, hg, htc⟩ := (hrow.frD hf hfm).index hx
    generalize l[i] = p at *
    obtain ⟨p1', p2'⟩ := p
    have hfn := hf.next
    obtain ⟨h1, eh1⟩ : ∃ h1, h1 = h.new (.cells [.int .i64 p1', .int .i64 p2'] 0) := ⟨_, rfl⟩
    have hf1 : Fr h h1 := by rw [eh1]; exact .new _ _
    have hn1 : h1.next = h.next + 1 := by rw [eh1]; simp
    have gp1 : h1.get h.next = some (.cells [.int .i64 p1', .int .i64 p2'] 0) := by rw [eh1]; simp
    obtain ⟨o1, e1, hm1⟩ := upd_ok (hm.fr (D := fun _ => False) hf1.D (by omega) (by simp)) p1' p2' (.int .i64 n)
    have gp2 : (h1.put m o1).get h.next = some (.cells [.int .i64 p1', .int .i64 p2'] 0) := by rw [get_put_ne' (by omega)]; exact gp1
    obtain ⟨o2, e2, hm2⟩ := upd_ok hm1 p2' p1' (.int .i64 n)
    rw [put_put] at e2 hm2
    rw [rV_set _ n (p1', p2')] at hm2
    have := ih (i + 1) (h1.put m o2) (by omega) ((hf.trans hf1.D).put (.inr rfl) _) (by
      rw [htk]
      show MapM _ _ (rV ((l.take i ++ [(p1', p2')]).foldl (fun r p => setR r n p) r))
      rw [List.foldl_append]; exact hm2)
    rw [s_judge_apart_8]
    refine OkV.eq (this.lp (l_judge_apart_8 F _ _ _ _ _ _ _)) ?_
    have a1 : ∀ h' : H, vIndexA 2 1 (ptr h.next) (.int .i64 1) h' = some (.pointer (some ⟨h.next, 0 + 1 * 1, none⟩), h') := fun h' => rfl
    have a0 : ∀ h' : H, vIndexA 2 1 (ptr h.next) (.int .i64 0) h' = some (.pointer (some ⟨h.next, 0 + 0 * 1, none⟩), h') := fun h' => rfl
    simp (disch := first | omega | (simp only [new_next, put_next]; done) | (simp only [new_next, put_next]; omega)) [hil, hv, hg, htc, ← eh1, gp1, e1, gp2, fillL, e2, i64_add, a1, a0]

theorem apart3 (es : List Ed) (hs : SortedF es) (hsz : es.length ≤ 1000) (N : Nat) (hN : N ≤ 200) (lb : Int) (r : Int → Int → Option Int) (n : Int) (hn : 1 ≤ n ∧ n ≤ 1000000) (m pg : Nat) (sl : Value) (h0 : H) (hrow : Row h0 3 sl (es.map edL)) (hm : MapM h0 m (rV r)) (hml : m < h0.next) (hgg : h0.get pg = some (.cells (gL (N : Int) lb sl) 0)) (hpg : pg < h0.next) (lo : Nat) (hlo : lo ≤ h0.next) (hmlo : m < lo) (hpglo : pg < lo) (hsllo : ∀ b o n c, sl = .slice (some ⟨b, o, none⟩) n c → b < lo) {P : Value → H → Prop}
    (hP : ∀ h' fv ob, FrD (fun j => lo ≤ j) h0 h' → Grow h' 2 fv ((fnd r es n N).map prL) ob → (∀ q, ob = some q → lo ≤ q) → OkV (sh (rI F) c_judge_apart_2 (K_judge_apart_2 (rI F)) (setL [p1, p3, p4, p5] [ptr pg, .map (some m), .int .i64 n, fv]) h') P) :
    ∀ (k a : Nat) (h : H) (fv : Value) (ob : Option Nat), a + k = N → FrD (fun j => lo ≤ j) h0 h → Grow h 2 fv ((fnd r es n a).map prL) ob → (∀ q, ob = some q → lo ≤ q) →
    OkV (sh (rI F) c_judge_apart_3 (K_judge_apart_3 (rI F)) (setL [p1, p3, p4, p5, p18, p19] [ptr pg, .map (some m), .int .i64 n, fv, .int .i64 (N : Int), .int .i64 (a : Int)]) h) P := by
  intro k
  induction k with
  | zero =>
    intro a h fv ob ha hf hg hob
    have e : a = N := by omega
    subst e
    rw [s_judge_apart_3]
    simp (disch := first | omega | (simp only [new_next, put_next]; done) | (simp only [new_next, put_next]; omega)) []
    exact hP h fv ob hf hg hob
  | succ k ih =>
    intro a h fv ob ha hf hg hob
    have haN : a < N := by omega
    have hfn := hf.next
    have hfl := fnd_len r es n (N := N) a (by omega)
    have hNN : a * N ≤ 200 * 200 := Nat.mul_le_mul (by omega) hN
    rw [s_judge_apart_3]
    have := apart5 es hs hsz N hN lb r n hn m pg sl a haN (fnd r es n a) (by omega) h (hrow.frD hf (fun b o n c e => by have := hsllo b o n c e; omega)) (hm.fr hf hml (by omega)) (by omega) ((hf.get _ hpg (by omega)).trans hgg) (by omega) lo (by omega) hmlo hpglo hsllo (P := P)
      (fun h' fv' ob' hf' hg' hob' => by
        rw [s_judge_apart_4]
        have := ih (a + 1) h' fv' ob' (by omega) (hf.trans hf') (by rw [fnd_succ]; exact hg') hob'
        refine OkV.eq (this.lp (l_judge_apart_3 F _ _ _ _ _ _ _)) ?_
        simp (disch := first | omega | (simp only [new_next, put_next]; done) | (simp only [new_next, put_next]; omega)) [i64_add]) a 0 h fv ob (by omega) (.refl _ _) (by simpa [fndA] using hg) hob
    refine OkV.eq (this.lp (l_judge_apart_5 F _ _ _ _ _ _ _ _ _ _)) ?_
    simp (disch := first | omega | (simp only [new_next, put_next]; done) | (simp only [new_next, put_next]; omega)) [haN]

theorem apart0 (es : List Ed) (hs : SortedF es) (hsz : es.length ≤ 1000) (N : Nat) (hN : N ≤ 200) (lb : Int) (m pg : Nat) (sl : Value) (h0 : H) (hrow : Row h0 3 sl (es.map edL)) (hml : m < h0.next) (hgg : h0.get pg = some (.cells (gL (N : Int) lb sl) 0)) (hpg : pg < h0.next) (hsl : ∀ b o n c, sl = .slice (some ⟨b, o, none⟩) n c → b ≠ m) (hpm : pg ≠ m) {P : Value → H → Prop}
    (hP : ∀ h' k, FrD (fun j => j = m) h0 h' → MapM h' m (rV (rN es N k)) → fnd (rN es N k) es ((k : Int) + 1) N = [] → P (.map (some m)) h') :
    ∀ (μ k : Nat) (h : H), meas N (rN es N k) = μ → k + μ ≤ 100000 → FrD (fun j => j = m) h0 h → MapM h m (rV (rN es N k)) →
    OkV (sh (rI F) c_judge_apart_0 (K_judge_apart_0 (rI F)) (setL [p1, p3, p4] [ptr pg, .map (some m), .int .i64 ((k : Int) + 1)]) h) P := by
  intro μ
  induction μ using Nat.strongRecOn with
  | _ μ ih =>
    intro k h hμ hk hf hm
    have hfn := hf.next
    have gpg := (hf.get _ hpg hpm).trans hgg
    have hrow1 := hrow.frD hf hsl
    rw [s_judge_apart_0]
    have := apart3 es hs hsz N hN lb (rN es N k) ((k : Int) + 1) (by omega) m pg sl h hrow1 hm (by omega) gpg (by omega) h.next (Nat.le_refl _) (by omega) (by omega) (fun b o n c e => hrow1.lt e) (P := P)
      (fun h' fv ob hf' hg' hob' => by
        have hfn' := hf'.next
        have hff : Fr h h' := hf'.fr (by omega)
        have hv := hg'.slvM
        rw [s_judge_apart_2]
        by_cases hnil : fnd (rN es N k) es ((k : Int) + 1) N = []
        · have hl0 : (fnd (rN es N k) es ((k : Int) + 1) N).length = 0 := by rw [hnil]; rfl
          refine OkV.eq (OkV.val (hP h' k (hf.trans hff.D) (hm.fr (D := fun _ => False) hff.D (by omega) (by simp)) hnil)) ?_
          simp (disch := first | omega | (simp only [new_next, put_next]; done) | (simp only [new_next, put_next]; omega)) [hv.len, hl0]
        · have hl0 : ¬ ((fnd (rN es N k) es ((k : Int) + 1) N).length : Int) = 0 := by
            have := List.length_pos_iff.2 hnil; omega
          have hfl := fnd_len (rN es N k) es ((k : Int) + 1) (N := N) N (Nat.le_refl _)
          have hNN : N * N ≤ 200 * 200 := Nat.mul_le_mul hN hN
          have hlt := meas_lt hnil
          have h8 := apart8 ((k : Int) + 1) m pg (fnd (rN es N k) es ((k : Int) + 1) N) (by omega) fv h' (hg'.row (by omega)) (fun b o n c e => by have := hob' _ (hg'.block e); omega) (by omega) (P := P) (rN es N k)
            (fun h'' hf'' hm'' => by
              rw [s_judge_apart_1]
              have := ih (meas N (rN es N (k + 1))) (by rw [← hμ]; exact hlt) (k + 1) h'' rfl (by
                have : meas N (rN es N (k + 1)) < μ := by rw [← hμ]; exact hlt
                omega) ((hf.trans hff.D).trans hf'') hm''
              refine OkV.eq (this.lp (l_judge_apart_0 F _ _ _ _)) ?_
              simp (disch := first | omega | (simp only [new_next, put_next]; done) | (simp only [new_next, put_next]; omega)) [i64_add]) (fnd (rN es N k) es ((k : Int) + 1) N).length 0 h' (by omega) (.refl _ _) (by simpa [updAll] using hm.fr (D := fun _ => False) hff.D (by omega) (by simp))
          refine OkV.eq (h8.lp (l_judge_apart_8 F _ _ _ _ _ _ _)) ?_
          have hl0' : ¬ (fnd (rN es N k) es ((k : Int) + 1) N) = [] := hnil
          simp (disch := first | omega | (simp only [new_next, put_next]; done) | (simp only [new_next, put_next]; omega)) [hv.len, hl0, hl0']) N 0 h (.slice none 0 0) none (by omega) (.refl _ _) (by simpa [fnd] using Grow.nil) (by simp)
    refine OkV.eq (this.lp (l_judge_apart_3 F _ _ _ _ _ _ _)) ?_
    simp (disch := first | omega | (simp only [new_next, put_next]; done) | (simp only [new_next, put_next]; omega)) [gpg]
theorem meas_le (N : Nat) (r : Int → Int → Option Int) : meas N r ≤ N * N := by
  have : (allP N).length ≤ N * N := by
    unfold allP
    have key : ∀ n, n ≤ N → ((List.range n).flatMap fun a => (List.range a).map fun b => (a, b)).length ≤ n * N := by
      intro n
      induction n with
      | zero => intro _; simp
      | succ n ih =>
        intro h
        rw [List.range_succ, List.flatMap_append, List.length_append, Nat.succ_mul]
        have := ih (by omega)
        simp only [List.flatMap_cons, List.flatMap_nil, List.append_nil, List.length_map, List.length_range]
        omega
    exact key N (Nat.le_refl _)
  exact Nat.le_trans List.countP_le_length this
theorem apart_ok (es : List Ed) (hs : SortedF es) (hsz : es.length ≤ 1000) (N : Nat) (hN : N ≤ 200) (lb : Int) (sl : Value) (h : H) (hrow : Row h 3 sl (es.map edL)) {P : Value → H → Prop}
    (hP : ∀ h' m k, Fr h h' → h.next ≤ m → m < h'.next → MapM h' m (rV (rN es N k)) → fnd (rN es N k) es ((k : Int) + 1) N = [] → P (.map (some m)) h') : Ret F (fnV n_judge_apart) [gV (N : Int) lb sl] h P := by
  refine Ret.fn F_judge_apart 1 (by decide) ?_
  rw [s_judge_apart]
  obtain ⟨h2, eh2⟩ : ∃ h2, h2 = (h.new (.cells (gL (N : Int) lb sl) 0)).new (.map [] 0) := ⟨_, rfl⟩
  have hf2 : Fr h h2 := by rw [eh2]; exact (Fr.new _ _).newR _
  have hn2 : h2.next = h.next + 2 := by rw [eh2]; simp
  have hNN : N * N ≤ 200 * 200 := Nat.mul_le_mul hN hN
  have := apart0 es hs hsz N hN lb (h.next + 1) h.next sl h2 (hrow.fr hf2) (by omega) (by rw [eh2]; simp (disch := omega)) (by omega) (fun b o n c e => by have := hrow.lt e; omega) (by omega) (P := P) (fun h' k hf' hm' hk => hP h' (h.next + 1) k ⟨by have := hf'.next; omega, fun i hi => (hf'.get _ (by omega) (by omega)).trans (hf2.get _ hi)⟩ (by omega) (by have := hf'.next; omega) hm' hk) (meas N (rN es N 0)) 0 h2 rfl (by have := meas_le N (rN es N 0); omega) (.refl _ _) ⟨[], 0, by rw [eh2]; simp (disch := omega), .nil⟩
  refine OkV.eq (this.lp (l_judge_apart_0 F _ _ _ _)) ?_
  rw [eh2]
  simp (disch := first | omega | (simp only [new_next, put_next]; done) | (simp only [new_next, put_next]; omega)) []
end Go.Ideal.J
set_option linter.unusedSimpArgs false
set_option linter.unusedVariables false
set_option maxRecDepth 10000
set_option maxHeartbeats 2000000
namespace Go.Ideal.J
open Go Go.Ideal
theorem both_ok (st lb st' lb' : Int) (es fs : List Ed) (sl sl' : Value) (h : H) (hrow : Row h 3 sl (es.map edL)) (hrow' : Row h 3 sl' (fs.map edL)) :
    ∃ h', callI F (fnV n_judge_both) [gV st lb sl, gV st' lb' sl'] h = some (.bool (chk st lb es && chk st' lb' fs && decide (lb = lb')), h') ∧ Fr h h' := by
  obtain ⟨h2, eh2⟩ : ∃ h2, h2 = (h.new (.cells (gL st lb sl) 0)).new (.cells (gL st' lb' sl') 0) := ⟨_, rfl⟩
  have hf2 : Fr h h2 := by rw [eh2]; exact (Fr.new _ _).newR _
  have hn2 : h2.next = h.next + 2 := by rw [eh2]; simp
  have g0 : h2.get h.next = some (.cells (gL st lb sl) 0) := by rw [eh2]; simp (disch := omega)
  have g1 : h2.get (h.next + 1) = some (.cells (gL st' lb' sl') 0) := by rw [eh2]; simp (disch := omega)
  have hv := hrow.slvM
  have hv' := hrow'.slvM
  obtain ⟨h3, e3, hf3⟩ := judgeCheck_ok st lb sl es h2 (hrow.fr hf2)
  have hfn3 := hf3.next
  have g03 := (hf3.get _ (by omega)).trans g0
  have g13 := (hf3.get _ (by omega)).trans g1
  cases hc : chk st lb es with
  | false =>
    rw [hc] at e3
    refine ⟨h3, call_fn F_judge_both 2 (by decide) ?_, hf2.trans hf3⟩
    rw [s_judge_both]
    simp (disch := first | omega | (simp only [new_next, put_next]; done) | (simp only [new_next, put_next]; omega)) [hv.clean, hv.take, hv'.clean, hv'.take, ← eh2, g0, g1, e3, erk]
  | true =>
    rw [hc] at e3
    obtain ⟨h4, e4, hf4⟩ := judgeCheck_ok st' lb' sl' fs h3 ((hrow'.fr hf2).fr hf3)
    have hfn4 := hf4.next
    have g04 := (hf4.get _ (by omega)).trans g03
    have g14 := (hf4.get _ (by omega)).trans g13
    refine ⟨h4, call_fn F_judge_both 2 (by decide) ?_, (hf2.trans hf3).trans hf4⟩
    rw [s_judge_both]
    cases hc' : chk st' lb' fs with
    | false =>
      rw [hc'] at e4
      simp (disch := first | omega | (simp only [new_next, put_next]; done) | (simp only [new_next, put_next]; omega)) [hv.clean, hv.take, hv'.clean, hv'.take, ← eh2, g0, g1, e3, erk, g13, e4]
    | true =>
      rw [hc'] at e4
      simp (disch := first | omega | (simp only [new_next, put_next]; done) | (simp only [new_next, put_next]; omega)) [hv.clean, hv.take, hv'.clean, hv'.take, ← eh2, g0, g1, e3, erk, g13, e4, g04, g14]

theorem appended_row {h : H} {sz : Nat} {v : Value} {rows : List (List Value)} (hr : Row h sz v rows) (hl : ∀ r ∈ rows, r.length = sz ∧ r.all clean1 = true) : appended h sz v = some (rows.length, rows.flatten) := by
  cases hr with
  | nil => rfl
  | @cells b off cap e cs rows hlt hg hrd hcap =>
    show (h.readN b off (rows.length * sz)).map _ = _
    rw [readN_of hg]
    have key : ∀ (rows : List (List Value)) (off : Nat), (∀ r ∈ rows, r.length = sz ∧ r.all clean1 = true) → (∀ i r, rows[i]? = some r → takeC sz (dropN (off + i * sz) cs) = some r) → takeC (rows.length * sz) (dropN off cs) = some rows.flatten := by
      intro rows
      induction rows with
      | nil => intro off _ _; simp [takeC_z]
      | cons r rows ih =>
        intro off hl hrd
        have h0 := hrd 0 r rfl
        rw [Nat.zero_mul, Nat.add_zero] at h0
        have h1 := ih (off + sz) (fun x hx => hl x (by simp [hx])) (fun i x hx => by
          have := hrd (i + 1) x (by simpa using hx)
          rwa [Nat.succ_mul, Nat.add_comm (i * sz) sz, ← Nat.add_assoc] at this)
        have hr := hl r (by simp)
        have t0 := (takeC_some h0).1
        have t1 := (takeC_some h1).1
        rw [takeN_eq, dropN_eq] at t0 t1
        split at t0
        · split at t1
          · rename_i l0 l1
            rw [List.flatten_cons, List.length_cons, Nat.succ_mul]
            have e0 := Option.some.inj t0
            have e1 := Option.some.inj t1
            refine takeC_of ?_ ?_
            · rw [takeN_eq, dropN_eq, if_pos (by rw [List.length_drop] at *; omega)]
              congr 1
              rw [Nat.add_comm, List.take_add, e0, List.drop_drop, e1]
            · rw [List.all_append, hr.2, flat_clean (fun x hx => (hl x (by simp [hx])).2)]; rfl
          · cases t1
        · cases t0
    rw [key rows off hl hrd]; rfl

theorem clone_ok (es : List Ed) (hsz : es.length ≤ 100000) (sl : Value) (h : H) (hrow : Row h 3 sl (es.map edL)) {P : Value → H → Prop} (hP : ∀ h' v ob, Fr h h' → Grow h' 3 v (es.map edL) ob → (∀ q, ob = some q → h.next ≤ q) → P v h') :
    Ret F (fnV n_slices_Clone_api_JudgeEdge_api_JudgeEdge_) [sl] h P := by
  refine Ret.fn F_slices_Clone_api_JudgeEdge_api_JudgeEdge_ 1 (by decide) ?_
  rw [s_slices_Clone_api_JudgeEdge_api_JudgeEdge_]
  have hnil : ∀ a b h, vBin .eql .slice (.slice none a b) (.slice none 0 0) h = some (.bool true, h) := fun a b h => rfl
  have hsome : ∀ a n c h, vBin .eql .slice (.slice (some a) n c) (.slice none 0 0) h = some (.bool false, h) := fun a n c h => rfl
  have hapx := appended_row (h := h.new (.cells [] 0)) (hrow.fr (Fr.new h (.cells [] 0))) (fun r hr => by obtain ⟨x, _, rfl⟩ := List.mem_map.1 hr; exact ⟨rfl, rfl⟩)
  obtain ⟨base, c, hsl⟩ := hrow.lenM
  cases hb : base with
  | none =>
    rw [hb] at hsl; subst hsl
    have hes : es = [] := by
      generalize hg : es.map edL = rows at hrow
      generalize hvv : (Value.slice none es.length c) = vv at hrow
      cases hrow with
      | nil => simpa using hg
      | cells => cases hvv
    subst hes
    refine OkV.eq (OkV.val (hP h (.slice none 0 0) none (.refl _) .nil (by simp))) ?_
    simp (disch := first | omega | (simp only [new_next, put_next]; done) | (simp only [new_next, put_next]; omega)) [hnil]
  | some a =>
    rw [hb] at hsl; subst hsl
    have hfull : Grow (h.new (.cells [] 0)) 3 (.slice (some ⟨h.next, 0, none⟩) 0 0) [] (some h.next) := Grow.full (b := h.next) (e := 0) (rows := []) (by simp) (by simp) (by simp) (by decide)
    by_cases hnil' : es = []
    · subst hnil'
      refine OkV.eq (OkV.val (hP (h.new (.cells [] 0)) (.slice (some ⟨h.next, 0, none⟩) 0 0) (some h.next) (.new _ _) hfull (fun q e => by cases e; exact Nat.le_refl _))) ?_
      have hz : ∀ (x : Value) (h' : H) (nw : List Value), appended h' 3 x = some (0, nw) → bltV h' (.append 3 24) [.slice (some ⟨h.next, 0, none⟩) 0 0, x] = some (.slice (some ⟨h.next, 0, none⟩) 0 0, h') := by
        intro x h' nw e
        show (appended h' 3 x).bind _ = _
        rw [e]; rfl
      simp (disch := first | omega | (simp only [new_next, put_next]; done) | (simp only [new_next, put_next]; omega)) [hsome, fillL, repeatL]
      have hz' := hz _ _ _ hapx
      rw [List.length_nil] at hz'
      rw [hz']
      simp (disch := first | omega | (simp only [new_next, put_next]; done) | (simp only [new_next, put_next]; omega)) []
    · obtain ⟨h2, v', ea, hg2, hn2, hf2⟩ := append_grow (bytes := 24) (news := es.map edL) (by omega) (by decide) hfull (by simpa using hnil') (by rw [hapx]) (by
        rw [List.all_flatten]
        refine List.all_eq_true.2 fun r hr => ?_
        obtain ⟨x, _, rfl⟩ := List.mem_map.1 hr
        rfl) (fun r hr => by obtain ⟨x, _, rfl⟩ := List.mem_map.1 hr; exact ⟨rfl, rfl⟩) (by simp; omega)
      simp only [new_next] at hn2 hg2
      rw [List.nil_append] at hg2
      refine OkV.eq (OkV.val (hP h2 v' (some (h.next + 1)) ⟨by omega, fun i hi => (hf2.get _ (by simp; omega) (by simp; omega)).trans (get_new_ne (by omega))⟩ hg2 (fun q e => by cases e; omega))) ?_
      simp (disch := first | omega | (simp only [new_next, put_next]; done) | (simp only [new_next, put_next]; omega)) [hsome, fillL, repeatL]
      rw [ea]
      simp (disch := first | omega | (simp only [new_next, put_next]; done) | (simp only [new_next, put_next]; omega)) []

/-- an edge with later states. -/
def shE (N : Nat) (x : Ed) : Ed := (x.1 + N, x.2.1 + N, x.2.2)
def bothE (N : Nat) (es fs : List Ed) : List Ed := es ++ fs.map (shE N)
theorem alike1 (N M : Nat) (hN : N ≤ 1000) (hM : M ≤ 1000) (lb lb' : Int) (es fs : List Ed) (hel : es.length ≤ 1000) (hfl : fs.length ≤ 1000) (hfin : inB (M : Int) fs) (sl sl' : Value) (q po : Nat) (h0 : H) (hrow : Row h0 3 sl' (fs.map edL)) (hsl : ∀ b o n c, sl' = .slice (some ⟨b, o, none⟩) n c → b < q) (hgg : h0.get q = some (.cells (gL (N : Int) lb sl) 0)) (hq : q < po) (hpo : po < h0.next) (lo : Nat) (hlo : q < lo) (hlo' : lo ≤ po) {P : Value → H → Prop}
    (hP : ∀ h' v ob, FrD (fun j => lo ≤ j) h0 h' → h'.get po = some (.cells [.int .i64 ((N : Int) + M), .int .i64 lb, v] 0) → Grow h' 3 v ((bothE N es fs).map edL) ob → OkV (sh (rI F) c_judge_alike_0 (K_judge_alike_0 (rI F)) (setL [p2, p5] [ptr q, ptr po]) h') P) :
    ∀ (k i : Nat) (h : H) (v : Value) (ob : Option Nat), i + k = fs.length → FrD (fun j => lo ≤ j) h0 h → h.get po = some (.cells [.int .i64 ((N : Int) + M), .int .i64 lb, v] 0) → Grow h 3 v ((bothE N es (fs.take i)).map edL) ob → (∀ b, ob = some b → lo ≤ b ∧ b ≠ po) →
    OkV (sh (rI F) c_judge_alike_1 (K_judge_alike_1 (rI F)) (setL [p2, p5, p22, p23, p24] [ptr q, ptr po, sl', .int .i64 (fs.length : Int), .int .i64 (i : Int)]) h) P := by
  intro k
  induction k with
  | zero =>
    intro i h v ob hi hf hgp hg hob
    have e : i = fs.length := by omega
    subst e
    rw [List.take_length] at hg
    rw [s_judge_alike_1]
    simp (disch := first | omega | (simp only [new_next, put_next]; done) | (simp only [new_next, put_next]; omega)) []
    exact hP h v ob hf hgp hg
  | succ k ih =>
    intro i h v ob hi hf hgp hg hob
    have hil : i < fs.length := by omega
    have hfn := hf.next
    have hx : (fs.map edL)[i]? = some (edL fs[i]) := by simp [hil]
    have htk : fs.take (i + 1) = fs.take i ++ [fs[i]] := by rw [List.take_add_one, List.getElem?_eq_getElem hil]; rfl
    have hxin := hfin _ (List.getElem_mem hil)
    obtain ⟨b, o, cs, e, hvi, hb, hgi, htc⟩ := (hrow.frD hf (fun b o n c e => by have := hsl b o n c e; omega)).index hx
    generalize fs[i] = x at *
    have hv := hg.slv
    have gq := (hf.get _ (by omega) (by omega)).trans hgg
    obtain ⟨h2, eh2⟩ : ∃ h2, h2 = (h.new (.cells (edL x) 0)).new (.cells (edL (shE N x)) 0) := ⟨_, rfl⟩
    have hf2 : Fr h h2 := by rw [eh2]; exact (Fr.new _ _).newR _
    have hn2 : h2.next = h.next + 2 := by rw [eh2]; simp
    obtain ⟨h3, v', ea, hg3, hn3, hf3⟩ := append_one (h := h2) (sz := 3) (bytes := 24) (r := edL (shE N x)) (b := h.next + 1) (e := 0) (by omega) (by decide) (hg.fr hf2) (by rw [eh2]; simp) rfl rfl rfl (by
      rw [List.length_map]; unfold bothE; rw [List.length_append, List.length_map, List.length_take]; omega)
    have hv3 := hg3.slv
    have gpo3 : h3.get po = some (.cells [.int .i64 ((N : Int) + M), .int .i64 lb, v] 0) := by
      rw [hf3.get _ (by omega) (fun e => (hob _ e).2 rfl), hf2.get _ (by omega)]; exact hgp
    have := ih (i + 1) (h3.put po (.cells [.int .i64 ((N : Int) + M), .int .i64 lb, v'] 0)) v' (some h2.next) (by omega) ⟨by simp; omega, fun j hj hd => by
        rw [get_put_ne' (by omega), hf3.get _ (by omega) (fun e => hd (hob _ e).1), hf2.get _ (by omega)]; exact hf.get _ hj hd⟩ (get_put_eq rfl) (by
        have : bothE N es (fs.take (i + 1)) = bothE N es (fs.take i) ++ [shE N x] := by
          unfold bothE; rw [htk, List.map_append, List.append_assoc]; rfl
        rw [this, List.map_append]
        exact hg3.frD ((FrD.refl (fun j => j = po) _).put (.inr rfl) _) (fun b e => by cases e; omega)) (fun b e => by cases e; omega)
    rw [s_judge_alike_1]
    refine OkV.eq (this.lp (l_judge_alike_1 F _ _ _ _ _ _)) ?_
    obtain ⟨x1, x2, x3⟩ := x
    simp only at hxin
    simp only [shE] at eh2 ea gpo3
    simp (disch := first | omega | (simp only [new_next, put_next]; done) | (simp only [new_next, put_next]; omega)) [hil, hvi, hgi, htc, hgp, hv.take, hv.one, gq, fillL, repeatL, i64_add]
    rw [← eh2, ea]
    simp (disch := first | omega | (simp only [new_next, put_next]; done) | (simp only [new_next, put_next]; omega)) [gpo3, hv3.cells, hv3.cell, i64_add]
end Go.Ideal.J
set_option linter.unusedSimpArgs false
set_option linter.unusedVariables false
set_option maxRecDepth 10000
set_option maxHeartbeats 2000000
namespace Go.Ideal.J
open Go Go.Ideal
theorem alike_ok (N M : Nat) (hN : N ≤ 60) (hM : M ≤ 60) (lb lb' : Int) (es fs : List Ed) (hel : es.length ≤ 400) (hfl : fs.length ≤ 400) (hein : inB (N : Int) es) (hfin : inB (M : Int) fs) (hes : SortedF es) (hfs : SortedF fs) (sl sl' : Value) (h : H) (hrow : Row h 3 sl (es.map edL)) (hrow' : Row h 3 sl' (fs.map edL)) {P : Value → H → Prop}
    (hP : ∀ h' k, Fr h h' → fnd (rN (bothE N es fs) (N + M) k) (bothE N es fs) ((k : Int) + 1) (N + M) = [] → P (.bool (rN (bothE N es fs) (N + M) k 0 (N : Int)).isNone) h') :
    Ret F (fnV n_judge_alike) [gV (N : Int) lb sl, gV (M : Int) lb' sl'] h P := by
  refine Ret.fn F_judge_alike 2 (by decide) ?_
  rw [s_judge_alike]
  have hv := hrow.slvM
  have hv' := hrow'.slvM
  obtain ⟨h2, eh2⟩ : ∃ h2, h2 = (h.new (.cells (gL (N : Int) lb sl) 0)).new (.cells (gL (M : Int) lb' sl') 0) := ⟨_, rfl⟩
  have hf2 : Fr h h2 := by rw [eh2]; exact (Fr.new _ _).newR _
  have hn2 : h2.next = h.next + 2 := by rw [eh2]; simp
  have g0 : h2.get h.next = some (.cells (gL (N : Int) lb sl) 0) := by rw [eh2]; simp (disch := omega)
  have g1 : h2.get (h.next + 1) = some (.cells (gL (M : Int) lb' sl') 0) := by rw [eh2]; simp (disch := omega)
  simp (disch := first | omega | (simp only [new_next, put_next]; done) | (simp only [new_next, put_next]; omega)) [hv.clean, hv.take, hv'.clean, hv'.take]
  rw [← eh2]
  refine OkV.call (clone_ok es (by omega) sl h2 (hrow.fr hf2) (P := fun v h' => ∃ ob, Fr h2 h' ∧ Grow h' 3 v (es.map edL) ob ∧ ∀ q, ob = some q → h2.next ≤ q) (fun h' v ob q1 q2 q3 => ⟨ob, q1, q2, q3⟩)) ?_
  rintro v h3 ⟨ob, hf3, hg3, hob3⟩
  have hfn3 := hf3.next
  have hv3 := hg3.slvM
  have g03 := (hf3.get _ (by omega)).trans g0
  have g13 := (hf3.get _ (by omega)).trans g1
  obtain ⟨h4, eh4⟩ : ∃ h4, h4 = h3.new (.cells [.int .i64 ((N : Int) + M), .int .i64 lb, v] 0) := ⟨_, rfl⟩
  have hf4 : Fr h3 h4 := by rw [eh4]; exact Fr.new _ _
  have hn4 : h4.next = h3.next + 1 := by rw [eh4]; simp
  have g04 := (hf4.get _ (by omega)).trans g03
  have g14 := (hf4.get _ (by omega)).trans g13
  have gp4 : h4.get h3.next = some (.cells [.int .i64 ((N : Int) + M), .int .i64 lb, v] 0) := by rw [eh4]; simp
  have hobl : ∀ q, ob = some q → q < h3.next := fun q e => by subst e; exact hg3.lt
  have eNM : ((N : Int) + M) = ((N + M : Nat) : Int) := by omega
  have := alike1 N M (by omega) (by omega) lb lb' es fs (by omega) (by omega) hfin sl sl' h.next h3.next h4 (((hrow'.fr hf2).fr hf3).fr hf4) (fun b o n c e => hrow'.lt e) g04 (by omega) (by omega) h2.next (by omega) (by omega) (P := P)
    (fun h5 v5 ob5 hf5 gp5 hg5 => by
      have hfn5 := hf5.next
      have hv5 := hg5.slvM
      have g05 := (hf5.get _ (by omega) (by omega)).trans g04
      have hsrt : SortedF (bothE N es fs) := by
        unfold bothE SortedF
        rw [List.pairwise_append]
        refine ⟨hes, ?_, ?_⟩
        · rw [List.pairwise_map]
          exact hfs.imp fun h => by simp only [shE]; omega
        · intro x hx y hy
          obtain ⟨z, hz, rfl⟩ := List.mem_map.1 hy
          have := hein x hx; have := hfin z hz
          simp only [shE]; omega
      rw [s_judge_alike_0]
      simp (disch := first | omega | (simp only [new_next, put_next]; done) | (simp only [new_next, put_next]; omega)) [gp5, hv5.clean, hv5.take, hv5.eqc]
      have hap := apart_ok (bothE N es fs) hsrt (by unfold bothE; rw [List.length_append, List.length_map]; omega) (N + M) (by omega) lb v5 h5 (hg5.row (by omega)) (P := fun u h' => ∃ m k, u = .map (some m) ∧ Fr h5 h' ∧ MapM h' m (rV (rN (bothE N es fs) (N + M) k)) ∧ fnd (rN (bothE N es fs) (N + M) k) (bothE N es fs) ((k : Int) + 1) (N + M) = []) (fun h' m k q1 q2 q3 q4 q5 => ⟨m, k, rfl, q1, q4, q5⟩)
      rw [← eNM] at hap
      refine OkV.call hap ?_
      rintro u h6 ⟨m, k, rfl, hf6, hm6, hk6⟩
      have hfn6 := hf6.next
      have g06 := (hf6.get _ (by omega)).trans g05
      have hfr : Fr h h6 := ⟨by omega, fun i hi => by
        rw [hf6.get _ (by omega), hf5.get _ (by omega) (by omega), hf4.get _ (by omega), hf3.get _ (by omega), hf2.get _ hi]⟩
      have hlk := look_ok hm6 (.int .i64 0) 0 (N : Int)
      have hb : (rV (rN (bothE N es fs) (N + M) k) 0 (N : Int)).isSome = !(rN (bothE N es fs) (N + M) k 0 (N : Int)).isNone := by
        simp only [rV]
        cases rN (bothE N es fs) (N + M) k 0 (N : Int) <;> rfl
      rw [hb] at hlk
      refine OkV.eq (OkV.val (hP h6 k hfr hk6)) ?_
      simp (disch := first | omega | (simp only [new_next, put_next]; done) | (simp only [new_next, put_next]; omega)) [g05, g06, fillL, hlk]) fs.length 0 h4 v ob (by omega) (.refl _ _) gp4 (by simpa [bothE] using hg3.fr hf4) (fun b e => ⟨by have := hob3 b e; omega, by have := hobl b e; omega⟩)
  refine OkV.eq (this.lp (l_judge_alike_1 F _ _ _ _ _ _)) ?_
  have hw : -9223372036854775808 ≤ (N : Int) + M := by omega
  have hw2 : (N : Int) + M ≤ 9223372036854775807 := by omega
  simp (disch := first | omega | (simp only [new_next, put_next]; done) | (simp only [new_next, put_next]; omega)) [g03, g13, hv.eq, hv.one, hv.take, i64_add hw hw2, fillL, hv3.cells, hv3.cell, hv3.clean, hv3.take, ← eh4, g14, hv'.take, hv'.one, hv'.len]
end Go.Ideal.J
set_option linter.unusedSimpArgs false
set_option linter.unusedVariables false
set_option maxRecDepth 10000
set_option maxHeartbeats 2000000
namespace Go.Ideal.J
open Go Go.Ideal
/-! ### Bisimulations -/
def IsBis (es : List Ed) (R : Int → Int → Prop) : Prop :=
  ∀ a b, R a b → (∀ x ∈ outs es a, ∃ t ∈ tos es b x.2.2, R x.2.1 t) ∧ (∀ y ∈ outs es b, ∃ t ∈ tos es a y.2.2, R t y.2.1)
def Bis (es : List Ed) (a b : Int) : Prop := ∃ R, IsBis es R ∧ R a b
theorem Bis.symm {es : List Ed} {a b : Int} (h : Bis es a b) : Bis es b a := by
  obtain ⟨R, hR, h⟩ := h
  exact ⟨fun x y => R y x, fun x y hxy => ⟨(hR y x hxy).2, (hR y x hxy).1⟩, h⟩
theorem isBis_bis (es : List Ed) : IsBis es (Bis es) := by
  rintro a b ⟨R, hR, h⟩
  obtain ⟨h1, h2⟩ := hR a b h
  refine ⟨fun x hx => ?_, fun y hy => ?_⟩
  · obtain ⟨t, ht, hr⟩ := h1 x hx; exact ⟨t, ht, R, hR, hr⟩
  · obtain ⟨t, ht, hr⟩ := h2 y hy; exact ⟨t, ht, R, hR, hr⟩
theorem mem_outs {es : List Ed} {a : Int} {x : Ed} : x ∈ outs es a ↔ x ∈ es ∧ x.1 = a := by
  unfold outs; rw [List.mem_filter]; simp
theorem rN_some {es : List Ed} {N : Nat} : ∀ {k : Nat} {a b : Int} {v : Int}, rN es N k a b = some v → v ≤ k ∧ a ≠ b ∧ ¬ Bis es a b
  | 0, a, b, v, h => by cases h
  | k + 1, a, b, v, h => by
    have h : updAll (rN es N k) ((k : Int) + 1) (fnd (rN es N k) es ((k : Int) + 1) N) a b = some v := h
    rw [updAll_get] at h
    have step : ∀ a b : Int, (a, b) ∈ fnd (rN es N k) es ((k : Int) + 1) N → a ≠ b ∧ ¬ Bis es a b := by
      intro a b hm
      obtain ⟨c, d, e, h1, h2, h3⟩ := mem_fnd.1 hm
      cases e
      refine ⟨by omega, fun hb => ?_⟩
      unfold condR at h3
      simp only [Bool.and_eq_true, Bool.or_eq_true] at h3
      have key : ∀ p q : Int, (firstR (rN es N k) es p q ((k : Int) + 1 - 1)).isSome = true → ¬ Bis es p q := by
        intro p q hf hb
        obtain ⟨x, hx⟩ := Option.isSome_iff_exists.1 hf
        have h4 := List.find?_some hx
        have h5 := List.mem_of_find?_eq_some hx
        obtain ⟨t, ht, hbt⟩ := (isBis_bis es p q hb).1 x h5
        have h6 := List.all_eq_true.1 h4 t ht
        unfold tellsR at h6
        cases hr : rN es N k x.2.1 t with
        | none => rw [hr] at h6; simp at h6
        | some u => exact (rN_some hr).2.2 hbt
      rcases h3.2 with h | h
      · exact key _ _ h hb
      · exact key _ _ h hb.symm
    split at h
    · rename_i hm
      cases h
      refine ⟨by omega, ?_⟩
      rcases hm with hm | hm
      · exact step a b hm
      · obtain ⟨h1, h2⟩ := step b a hm
        exact ⟨fun e => h1 e.symm, fun hb => h2 hb.symm⟩
    · obtain ⟨h1, h2⟩ := rN_some h
      exact ⟨by omega, h2⟩
theorem rN_symm {es : List Ed} {N : Nat} : ∀ (k : Nat) (a b : Int), rN es N k a b = rN es N k b a
  | 0, _, _ => rfl
  | k + 1, a, b => by
    show updAll _ _ _ a b = updAll _ _ _ b a
    rw [updAll_get, updAll_get, rN_symm k a b]
    congr 1
    exact propext Or.comm
/-- where the rounds end, what is not told apart is alike. -/
theorem rN_none {es : List Ed} {N k : Nat} (hin : inB (N : Int) es) (hk : fnd (rN es N k) es ((k : Int) + 1) N = []) {a b : Int} (ha : 0 ≤ a ∧ a < N) (hb : 0 ≤ b ∧ b < N) : (rN es N k a b).isNone = true ↔ Bis es a b := by
  constructor
  · intro h0
    refine ⟨fun a b => 0 ≤ a ∧ a < N ∧ 0 ≤ b ∧ b < N ∧ rN es N k a b = none, ?_, ha.1, ha.2, hb.1, hb.2, by simpa using h0⟩
    have half : ∀ a b : Int, 0 ≤ a ∧ a < N ∧ 0 ≤ b ∧ b < N ∧ rN es N k a b = none → firstR (rN es N k) es a b k = none → ∀ x ∈ outs es a, ∃ t ∈ tos es b x.2.2, 0 ≤ x.2.1 ∧ x.2.1 < N ∧ 0 ≤ t ∧ t < N ∧ rN es N k x.2.1 t = none := by
      intro a b hab hf x hx
      have h1 := List.find?_eq_none.1 hf x hx
      have h2 : ∃ t ∈ tos es b x.2.2, tellsR (rN es N k) k x.2.1 t = false := by
        rw [Bool.not_eq_true] at h1
        unfold toldR at h1
        rw [List.all_eq_false] at h1
        obtain ⟨t, ht, hh⟩ := h1
        exact ⟨t, ht, by simpa using hh⟩
      obtain ⟨t, ht, htt⟩ := h2
      have hxi := hin x (mem_outs.1 hx).1
      obtain ⟨y, hy, _, _, rfl⟩ := mem_tos.1 ht
      have hyi := hin y hy
      refine ⟨_, ht, hxi.2.2.1, hxi.2.2.2, hyi.2.2.1, hyi.2.2.2, ?_⟩
      cases hr : rN es N k x.2.1 y.2.1 with
      | none => rfl
      | some u =>
        obtain ⟨h3, h4, _⟩ := rN_some hr
        unfold tellsR at htt
        rw [hr] at htt
        simp [h3, h4] at htt
    have first_nil : ∀ a b : Int, 0 ≤ a ∧ a < N ∧ 0 ≤ b ∧ b < N ∧ rN es N k a b = none → a ≠ b → firstR (rN es N k) es a b k = none ∧ firstR (rN es N k) es b a k = none := by
      intro a b ⟨h1, h2, h3, h4, h5⟩ hne
      obtain ⟨a, rfl⟩ := Int.eq_ofNat_of_zero_le h1
      obtain ⟨b, rfl⟩ := Int.eq_ofNat_of_zero_le h3
      have ek : ((k : Int) + 1 - 1) = k := by omega
      have main : ∀ a b : Nat, a < N → b < a → rN es N k a b = none → firstR (rN es N k) es a b k = none ∧ firstR (rN es N k) es b a k = none := by
        intro a b h2 hlt h5
        have hc : condR (rN es N k) es ((k : Int) + 1) a b = false := by
          rw [Bool.eq_false_iff]
          intro hc
          have : ((a : Int), (b : Int)) ∈ fnd (rN es N k) es ((k : Int) + 1) N := mem_fnd.2 ⟨a, b, rfl, h2, hlt, hc⟩
          rw [hk] at this; cases this
        unfold condR at hc
        rw [h5, ek] at hc
        simp at hc
        exact hc
      rcases Nat.lt_or_gt_of_ne (fun e : a = b => hne (by rw [e])) with h | h
      · have := main b a (by omega) h (by rw [rN_symm]; exact h5)
        exact ⟨this.2, this.1⟩
      · exact main a b (by omega) h h5
    rintro a b hab
    by_cases hne : a = b
    · subst hne
      refine ⟨fun x hx => ?_, fun x hx => ?_⟩
      · have hx' := mem_outs.1 hx
        have hxi := hin x hx'.1
        refine ⟨x.2.1, mem_tos.2 ⟨x, hx'.1, hx'.2, rfl, rfl⟩, hxi.2.2.1, hxi.2.2.2, hxi.2.2.1, hxi.2.2.2, ?_⟩
        cases hr : rN es N k x.2.1 x.2.1 with
        | none => rfl
        | some u => exact absurd rfl (rN_some hr).2.1
      · have hx' := mem_outs.1 hx
        have hxi := hin x hx'.1
        refine ⟨x.2.1, mem_tos.2 ⟨x, hx'.1, hx'.2, rfl, rfl⟩, hxi.2.2.1, hxi.2.2.2, hxi.2.2.1, hxi.2.2.2, ?_⟩
        cases hr : rN es N k x.2.1 x.2.1 with
        | none => rfl
        | some u => exact absurd rfl (rN_some hr).2.1
    · obtain ⟨f1, f2⟩ := first_nil a b hab hne
      refine ⟨half a b hab f1, fun y hy => ?_⟩
      obtain ⟨t, ht, h1, h2, h3, h4, h5⟩ := half b a ⟨hab.2.2.1, hab.2.2.2.1, hab.1, hab.2.1, by rw [rN_symm]; exact hab.2.2.2.2⟩ f2 y hy
      exact ⟨t, ht, h3, h4, h1, h2, by rw [rN_symm]; exact h5⟩
  · intro hb'
    cases hr : rN es N k a b with
    | none => rfl
    | some v => exact absurd hb' (rN_some hr).2.2

open Classical in
/-- the answer to Alike. -/
theorem jAlike_ok (st lb st' lb' : Int) (es fs : List Ed) (sl sl' : Value) (h : H) (hrow : Row h 3 sl (es.map edL)) (hrow' : Row h 3 sl' (fs.map edL)) {P : Value → H → Prop}
    (hP1 : (chk st lb es && chk st' lb' fs && decide (lb = lb')) = false → ∀ h', Fr h h' → P (pairV (.bool false) (.int .i64 2)) h')
    (hP2 : (chk st lb es && chk st' lb' fs && decide (lb = lb')) = true → ∀ h', Fr h h' → P (pairV (.bool (decide (Bis (bothE st.toNat es fs) 0 st))) (.int .i64 0)) h') :
    Ret F (fnV n_judge_Alike) [gV st lb sl, gV st' lb' sl'] h P := by
  refine Ret.fn F_judge_Alike 2 (by decide) ?_
  rw [s_judge_Alike]
  have hv := hrow.slvM
  have hv' := hrow'.slvM
  obtain ⟨h2, eh2⟩ : ∃ h2, h2 = (h.new (.cells (gL st lb sl) 0)).new (.cells (gL st' lb' sl') 0) := ⟨_, rfl⟩
  have hf2 : Fr h h2 := by rw [eh2]; exact (Fr.new _ _).newR _
  have hn2 : h2.next = h.next + 2 := by rw [eh2]; simp
  have g0 : h2.get h.next = some (.cells (gL st lb sl) 0) := by rw [eh2]; simp (disch := omega)
  have g1 : h2.get (h.next + 1) = some (.cells (gL st' lb' sl') 0) := by rw [eh2]; simp (disch := omega)
  obtain ⟨h3, e3, hf3⟩ := both_ok st lb st' lb' es fs sl sl' h2 (hrow.fr hf2) (hrow'.fr hf2)
  have hfn3 := hf3.next
  have g03 := (hf3.get _ (by omega)).trans g0
  have g13 := (hf3.get _ (by omega)).trans g1
  cases hc : (chk st lb es && chk st' lb' fs && decide (lb = lb')) with
  | false =>
    rw [hc] at e3
    refine OkV.eq (OkV.val (hP1 hc h3 (hf2.trans hf3))) ?_
    simp (disch := first | omega | (simp only [new_next, put_next]; done) | (simp only [new_next, put_next]; omega)) [hv.clean, hv.take, hv'.clean, hv'.take, ← eh2, g0, g1, e3]
  | true =>
    rw [hc] at e3
    have hc' := hc
    simp only [Bool.and_eq_true, decide_eq_true_eq] at hc'
    have f := (chk_iff st lb es).1 hc'.1.1
    have f' := (chk_iff st' lb' fs).1 hc'.1.2
    obtain ⟨N, rfl⟩ := Int.eq_ofNat_of_zero_le (show 0 ≤ st by have := f.st1; omega)
    obtain ⟨M, rfl⟩ := Int.eq_ofNat_of_zero_le (show 0 ≤ st' by have := f'.st1; omega)
    have a1 := f.st1; have a2 := f.st2; have a3 := f'.st1; have a4 := f'.st2
    simp (disch := first | omega | (simp only [new_next, put_next]; done) | (simp only [new_next, put_next]; omega)) [hv.clean, hv.take, hv'.clean, hv'.take, ← eh2, g0, g1, e3, g03, g13]
    refine OkV.call (alike_ok N M (by omega) (by omega) lb lb' es fs f.len f'.len f.inB f'.inB f.sortedF f'.sortedF sl sl' h3 ((hrow.fr hf2).fr hf3) ((hrow'.fr hf2).fr hf3) (P := fun v h' => v = .bool (decide (Bis (bothE N es fs) 0 (N : Int))) ∧ Fr h3 h') (fun h' k q1 q2 => ⟨?_, q1⟩)) ?_
    · congr 1
      have hin : inB ((N + M : Nat) : Int) (bothE N es fs) := by
        intro x hx
        rcases List.mem_append.1 hx with hx | hx
        · have := f.inB x hx; omega
        · obtain ⟨y, hy, rfl⟩ := List.mem_map.1 hx
          have := f'.inB y hy
          simp only [shE]; omega
      rw [Bool.eq_iff_iff, decide_eq_true_eq]
      exact rN_none hin q2 ⟨by omega, by omega⟩ ⟨by omega, by omega⟩
    · rintro v h' ⟨rfl, hf'⟩
      refine OkV.eq (OkV.val (hP2 hc h' ((hf2.trans hf3).trans hf'))) ?_
      simp (disch := first | omega | (simp only [new_next, put_next]; done) | (simp only [new_next, put_next]; omega)) []
end Go.Ideal.J
set_option linter.unusedSimpArgs false
set_option linter.unusedVariables false
set_option maxRecDepth 10000
set_option maxHeartbeats 2000000
namespace Go.Ideal.J
open Go Go.Ideal
theorem sil_trans' {es : List Ed} {a b c : Nat} (h1 : Sil es a b) (h2 : Sil es b c) : Sil es a c := by
  induction h2 with
  | refl => exact h1
  | step h hx h0 ih => exact .step ih hx h0
theorem sil_lt' {es : List Ed} {N a c : Nat} (hin : inB (N : Int) es) (ha : a < N) (h : Sil es a c) : c < N := by
  induction h with
  | refl => exact ha
  | step h hx h0 ih => have := hin _ hx; omega
theorem W_zero' {es : List Ed} {n c : Nat} : W es n 0 c ↔ Sil es n c := by
  constructor
  · rintro (⟨_, h⟩ | ⟨x, hx, h1, h2, h3⟩)
    · exact h
    · exact sil_trans' (.step h1 hx h2) h3
  · exact fun h => .inl ⟨rfl, h⟩
theorem W_trans {es : List Ed} {a b c d l : Nat} (h1 : Sil es a b) (h2 : W es b l c) (h3 : Sil es c d) : W es a l d := by
  rcases h2 with ⟨rfl, h⟩ | ⟨x, hx, q1, q2, q3⟩
  · exact .inl ⟨rfl, sil_trans' h1 (sil_trans' h h3)⟩
  · exact .inr ⟨x, hx, sil_trans' h1 q1, q2, sil_trans' q3 h3⟩
theorem mem_wE {es : List Ed} {N K : Nat} {x : Ed} : x ∈ wE es N K ↔ ∃ n l c : Nat, x = ((n : Int), (c : Int), (l : Int)) ∧ n < N ∧ l < K ∧ c < N ∧ W es n l c := by
  unfold wE wRows labRows labRow
  simp only [List.mem_flatMap, List.mem_map, List.mem_filter, List.mem_range, decide_eq_true_eq]
  constructor
  · rintro ⟨n, hn, l, hl, c, ⟨hc, hw⟩, rfl⟩
    exact ⟨n, l, c, rfl, hn, hl, hc, hw⟩
  · rintro ⟨n, l, c, rfl, hn, hl, hc, hw⟩
    exact ⟨n, hn, l, hl, c, ⟨hc, hw⟩, rfl⟩
theorem wE_sorted (es : List Ed) (N K : Nat) : (wE es N K).Pairwise fun x y => lessE x y = true := by
  unfold wE wRows labRows labRow
  rw [List.pairwise_flatMap]
  refine ⟨fun n _ => ?_, ?_⟩
  · rw [List.pairwise_flatMap]
    refine ⟨fun l _ => ?_, ?_⟩
    · rw [List.pairwise_map]
      refine List.Pairwise.filter _ (List.pairwise_lt_range.imp ?_)
      intro a b hab
      rw [lessE_iff]; right; exact ⟨rfl, .inr ⟨rfl, by simpa using hab⟩⟩
    · refine List.pairwise_lt_range.imp ?_
      intro a b hab x hx y hy
      obtain ⟨c, _, rfl⟩ := List.mem_map.1 hx
      obtain ⟨d, _, rfl⟩ := List.mem_map.1 hy
      rw [lessE_iff]; right; exact ⟨rfl, .inl (by simpa using hab)⟩
  · refine List.pairwise_lt_range.imp ?_
    intro a b hab x hx y hy
    obtain ⟨l, _, hx⟩ := List.mem_flatMap.1 hx
    obtain ⟨l', _, hy⟩ := List.mem_flatMap.1 hy
    obtain ⟨c, _, rfl⟩ := List.mem_map.1 hx
    obtain ⟨d, _, rfl⟩ := List.mem_map.1 hy
    rw [lessE_iff]; left; simpa using hab
theorem lessE_irr (x : Ed) : lessE x x = false := by
  rw [Bool.eq_false_iff]; intro h; rw [lessE_iff] at h; omega
theorem sorted_ext : ∀ {l m : List Ed}, (l.Pairwise fun x y => lessE x y = true) → (m.Pairwise fun x y => lessE x y = true) → (∀ x, x ∈ l ↔ x ∈ m) → l = m
  | [], [], _, _, _ => rfl
  | [], b :: m, _, _, h => absurd ((h b).2 (by simp)) (by simp)
  | a :: l, [], _, _, h => absurd ((h a).1 (by simp)) (by simp)
  | a :: l, b :: m, h1, h2, h => by
    obtain ⟨ha, h1'⟩ := List.pairwise_cons.1 h1
    obtain ⟨hb, h2'⟩ := List.pairwise_cons.1 h2
    have hab : a = b := by
      rcases List.mem_cons.1 ((h a).1 (by simp)) with e | e
      · exact e
      · rcases List.mem_cons.1 ((h b).2 (by simp)) with e' | e'
        · exact e'.symm
        · have := lessE_trans (hb a e) (ha b e')
          rw [lessE_irr] at this; cases this
    subst hab
    rw [sorted_ext h1' h2' fun x => ?_]
    constructor
    · intro hx
      rcases List.mem_cons.1 ((h x).1 (by simp [hx])) with e | e
      · subst e; have := ha x hx; rw [lessE_irr] at this; cases this
      · exact e
    · intro hx
      rcases List.mem_cons.1 ((h x).2 (by simp [hx])) with e | e
      · subst e; have := hb x hx; rw [lessE_irr] at this; cases this
      · exact e
theorem wE_formed {st lb : Int} {es : List Ed} (f : Formed st lb es) (hl : (wE es st.toNat lb.toNat).length ≤ 400) : Formed st lb (wE es st.toNat lb.toNat) where
  st1 := f.st1
  st2 := f.st2
  lb1 := f.lb1
  lb2 := f.lb2
  len := hl
  ok := fun x hx => by
    obtain ⟨n, l, c, rfl, h1, h2, h3, _⟩ := mem_wE.1 hx
    simp only; omega
  next := fun i x y hx hy => by
    have := List.pairwise_iff_getElem.1 (wE_sorted es st.toNat lb.toNat)
    have hi : i + 1 < (wE es st.toNat lb.toNat).length := by
      rcases Nat.lt_or_ge (i + 1) (wE es st.toNat lb.toNat).length with h | h
      · exact h
      · rw [List.getElem?_eq_none h] at hy; cases hy
    have h := this i (i + 1) (by omega) hi (by omega)
    rw [List.getElem?_eq_getElem (by omega)] at hx
    rw [List.getElem?_eq_getElem hi] at hy
    cases hx; cases hy; exact h
theorem sil_wE {es : List Ed} {N K : Nat} (hK : 0 < K) (hin : inB (N : Int) es) {a c : Nat} (ha : a < N) : Sil (wE es N K) a c ↔ Sil es a c := by
  constructor
  · intro h
    induction h with
    | refl => exact .refl
    | step h hx h0 ih =>
      obtain ⟨n, l, c, rfl, h1, h2, h3, hw⟩ := mem_wE.1 hx
      simp only at h0
      have : l = 0 := by omega
      subst this
      have e1 : ((n : Int)).toNat = n := by omega
      have e2 : ((c : Int)).toNat = c := by omega
      simp only [e1, e2] at ih ⊢
      exact sil_trans' ih (W_zero'.1 hw)
  · intro h
    have hc := sil_lt' hin ha h
    have hx : ((a : Int), (c : Int), ((0 : Nat) : Int)) ∈ wE es N K := mem_wE.2 ⟨a, 0, c, rfl, ha, hK, hc, W_zero'.2 h⟩
    have := Sil.step (es := wE es N K) (a := a) (x := ((a : Int), (c : Int), ((0 : Nat) : Int))) (by
      have e : ((a : Int)).toNat = a := by omega
      simp only [e]; exact .refl) hx rfl
    have e : ((c : Int)).toNat = c := by omega
    simpa only [e] using this
theorem W_wE {es : List Ed} {N K : Nat} (hK : 0 < K) (hin : inB (N : Int) es) {n l c : Nat} (hn : n < N) (hl : l < K) (hc : c < N) : W (wE es N K) n l c ↔ W es n l c := by
  constructor
  · rintro (⟨rfl, h⟩ | ⟨x, hx, h1, h2, h3⟩)
    · exact .inl ⟨rfl, (sil_wE hK hin hn).1 h⟩
    · obtain ⟨n', l', c', rfl, q1, q2, q3, hw⟩ := mem_wE.1 hx
      have e1 : ((n' : Int)).toNat = n' := by omega
      have e2 : ((c' : Int)).toNat = c' := by omega
      simp only [e1, e2] at h1 h2 h3
      have : l' = l := by omega
      subst this
      exact W_trans ((sil_wE hK hin hn).1 h1) hw ((sil_wE hK hin q3).1 h3)
  · intro h
    refine .inr ⟨((n : Int), (c : Int), (l : Int)), mem_wE.2 ⟨n, l, c, rfl, hn, hl, hc, h⟩, ?_, rfl, ?_⟩
    · have e : ((n : Int)).toNat = n := by omega
      simp only [e]; exact .refl
    · have e : ((c : Int)).toNat = c := by omega
      simp only [e]; exact .refl
theorem wE_wE {es : List Ed} {N K : Nat} (hK : 0 < K) (hin : inB (N : Int) es) : wE (wE es N K) N K = wE es N K := by
  refine sorted_ext (wE_sorted _ _ _) (wE_sorted _ _ _) fun x => ?_
  rw [mem_wE, mem_wE]
  constructor
  · rintro ⟨n, l, c, rfl, h1, h2, h3, hw⟩
    exact ⟨n, l, c, rfl, h1, h2, h3, (W_wE hK hin h1 h2 h3).1 hw⟩
  · rintro ⟨n, l, c, rfl, h1, h2, h3, hw⟩
    exact ⟨n, l, c, rfl, h1, h2, h3, (W_wE hK hin h1 h2 h3).2 hw⟩

/-! ### Two graphs as one -/
section
variable {es fs : List Ed} {N M K : Nat}
theorem silG_l (he : inB (N : Int) es) (hf : inB (M : Int) fs) {a c : Nat} (ha : a < N) : Sil (bothE N es fs) a c ↔ Sil es a c := by
  constructor
  · intro h
    induction h with
    | refl => exact .refl
    | @step x h hx h0 ih =>
      have hlt := sil_lt' he ha ih
      rcases List.mem_append.1 hx with hx | hx
      · exact .step ih hx h0
      · obtain ⟨y, hy, rfl⟩ := List.mem_map.1 hx
        have := hf y hy
        simp only [shE] at hlt; omega
  · intro h
    induction h with
    | refl => exact .refl
    | step h hx h0 ih => exact .step ih (List.mem_append.2 (.inl hx)) h0
theorem silG_r (he : inB (N : Int) es) (hf : inB (M : Int) fs) {a c : Nat} : Sil (bothE N es fs) (a + N) c ↔ ∃ c', c = c' + N ∧ Sil fs a c' := by
  constructor
  · intro h
    induction h with
    | refl => exact ⟨a, rfl, .refl⟩
    | @step x h hx h0 ih =>
      obtain ⟨c', e, hs⟩ := ih
      rcases List.mem_append.1 hx with hx | hx
      · have := he x hx; omega
      · obtain ⟨y, hy, rfl⟩ := List.mem_map.1 hx
        have := hf y hy
        simp only [shE] at e h0 ⊢
        refine ⟨y.2.1.toNat, by omega, ?_⟩
        have : c' = y.1.toNat := by omega
        subst this
        exact .step hs hy h0
  · rintro ⟨c', rfl, h⟩
    induction h with
    | refl => exact .refl
    | @step y h hy h0 ih =>
      have := hf y hy
      have hs := Sil.step (es := bothE N es fs) (a := a + N) (x := shE N y) (by
        simp only [shE]
        rw [show (y.1 + (N : Int)).toNat = y.1.toNat + N by omega]; exact ih) (List.mem_append.2 (.inr (List.mem_map.2 ⟨y, hy, rfl⟩))) h0
      simp only [shE] at hs
      rwa [show (y.2.1 + (N : Int)).toNat = y.2.1.toNat + N by omega] at hs
theorem WG_l (he : inB (N : Int) es) (hf : inB (M : Int) fs) {a l c : Nat} (ha : a < N) : W (bothE N es fs) a l c ↔ W es a l c := by
  constructor
  · rintro (⟨rfl, h⟩ | ⟨x, hx, h1, h2, h3⟩)
    · exact .inl ⟨rfl, (silG_l he hf ha).1 h⟩
    · have hs := (silG_l he hf ha).1 h1
      have hlt := sil_lt' he ha hs
      rcases List.mem_append.1 hx with hx | hx
      · have := he x hx
        exact .inr ⟨x, hx, hs, h2, (silG_l he hf (by omega)).1 h3⟩
      · obtain ⟨y, hy, rfl⟩ := List.mem_map.1 hx
        have := hf y hy
        simp only [shE] at hlt; omega
  · rintro (⟨rfl, h⟩ | ⟨x, hx, h1, h2, h3⟩)
    · exact .inl ⟨rfl, (silG_l he hf ha).2 h⟩
    · have := he x hx
      exact .inr ⟨x, List.mem_append.2 (.inl hx), (silG_l he hf ha).2 h1, h2, (silG_l he hf (by omega)).2 h3⟩
theorem WG_r (he : inB (N : Int) es) (hf : inB (M : Int) fs) {a l c : Nat} : W (bothE N es fs) (a + N) l c ↔ ∃ c', c = c' + N ∧ W fs a l c' := by
  constructor
  · rintro (⟨rfl, h⟩ | ⟨x, hx, h1, h2, h3⟩)
    · obtain ⟨c', e, hs⟩ := (silG_r he hf).1 h
      exact ⟨c', e, .inl ⟨rfl, hs⟩⟩
    · obtain ⟨d, e, hs⟩ := (silG_r he hf).1 h1
      rcases List.mem_append.1 hx with hx | hx
      · have := he x hx; omega
      · obtain ⟨y, hy, rfl⟩ := List.mem_map.1 hx
        have := hf y hy
        simp only [shE] at e h2 h3
        rw [show (y.2.1 + (N : Int)).toNat = y.2.1.toNat + N by omega] at h3
        obtain ⟨c', e', hs'⟩ := (silG_r he hf).1 h3
        have : d = y.1.toNat := by omega
        subst this
        exact ⟨c', e', .inr ⟨y, hy, hs, h2, hs'⟩⟩
  · rintro ⟨c', rfl, ⟨rfl, h⟩ | ⟨y, hy, h1, h2, h3⟩⟩
    · exact .inl ⟨rfl, (silG_r he hf).2 ⟨c', rfl, h⟩⟩
    · have := hf y hy
      refine .inr ⟨shE N y, List.mem_append.2 (.inr (List.mem_map.2 ⟨y, hy, rfl⟩)), ?_, h2, ?_⟩
      · simp only [shE]
        rw [show (y.1 + (N : Int)).toNat = y.1.toNat + N by omega]
        exact (silG_r he hf).2 ⟨_, rfl, h1⟩
      · simp only [shE]
        rw [show (y.2.1 + (N : Int)).toNat = y.2.1.toNat + N by omega]
        exact (silG_r he hf).2 ⟨_, rfl, h3⟩
/-- the weak graphs, as one. -/
theorem mem_wG (he : inB (N : Int) es) (hf : inB (M : Int) fs) {x : Ed} : x ∈ bothE N (wE es N K) (wE fs M K) ↔ ∃ n l c : Nat, x = ((n : Int), (c : Int), (l : Int)) ∧ n < N + M ∧ l < K ∧ W (bothE N es fs) n l c := by
  unfold bothE
  rw [List.mem_append]
  constructor
  · rintro (hx | hx)
    · obtain ⟨n, l, c, rfl, h1, h2, h3, hw⟩ := mem_wE.1 hx
      exact ⟨n, l, c, rfl, by omega, h2, (WG_l he hf h1).2 hw⟩
    · obtain ⟨y, hy, rfl⟩ := List.mem_map.1 hx
      obtain ⟨n, l, c, rfl, h1, h2, h3, hw⟩ := mem_wE.1 hy
      exact ⟨n + N, l, c + N, by simp [shE], by omega, h2, (WG_r he hf).2 ⟨c, rfl, hw⟩⟩
  · rintro ⟨n, l, c, rfl, h1, h2, hw⟩
    by_cases h : n < N
    · have hw' := (WG_l he hf h).1 hw
      have hc : c < N := by
        rcases hw' with ⟨_, hs⟩ | ⟨x, hx, _, _, hs⟩
        · exact sil_lt' he h hs
        · have := he x hx; exact sil_lt' he (by omega) hs
      exact .inl (mem_wE.2 ⟨n, l, c, rfl, h, h2, hc, hw'⟩)
    · obtain ⟨n', rfl⟩ : ∃ n', n = n' + N := ⟨n - N, by omega⟩
      obtain ⟨c', rfl, hw'⟩ := (WG_r he hf).1 hw
      have hc : c' < M := by
        rcases hw' with ⟨_, hs⟩ | ⟨x, hx, _, _, hs⟩
        · exact sil_lt' hf (by omega) hs
        · have := hf x hx; exact sil_lt' hf (by omega) hs
      refine .inr (List.mem_map.2 ⟨((n' : Int), (c' : Int), (l : Int)), mem_wE.2 ⟨n', l, c', rfl, by omega, h2, hc, hw'⟩, by simp [shE]⟩)
end
theorem sil_match {es : List Ed} {T : Nat} (hin : inB (T : Int) es) {a b c : Nat} (hb : Bis es a b) (h : Sil es a c) : ∃ d, Sil es b d ∧ Bis es c d := by
  induction h with
  | refl => exact ⟨b, .refl, hb⟩
  | @step x h hx h0 ih =>
    obtain ⟨d, h1, h2⟩ := ih
    have hxi := hin x hx
    have e1 : ((x.1.toNat : Nat) : Int) = x.1 := by omega
    rw [e1] at h2
    obtain ⟨t, ht, hr⟩ := (isBis_bis es _ _ h2).1 x (mem_outs.2 ⟨hx, rfl⟩)
    obtain ⟨y, hy, q1, q2, rfl⟩ := mem_tos.1 ht
    have hyi := hin y hy
    refine ⟨y.2.1.toNat, .step (by rw [show y.1.toNat = d by omega]; exact h1) hy (by omega), ?_⟩
    rw [show ((x.2.1.toNat : Nat) : Int) = x.2.1 by omega, show ((y.2.1.toNat : Nat) : Int) = y.2.1 by omega]
    exact hr
theorem W_match {es : List Ed} {T : Nat} (hin : inB (T : Int) es) {a b c l : Nat} (hb : Bis es a b) (h : W es a l c) : ∃ d, W es b l d ∧ Bis es c d := by
  rcases h with ⟨rfl, h⟩ | ⟨x, hx, h1, h2, h3⟩
  · obtain ⟨d, h1, h2⟩ := sil_match hin hb h
    exact ⟨d, .inl ⟨rfl, h1⟩, h2⟩
  · obtain ⟨d, q1, q2⟩ := sil_match hin hb h1
    have hxi := hin x hx
    have e1 : ((x.1.toNat : Nat) : Int) = x.1 := by omega
    rw [e1] at q2
    obtain ⟨t, ht, hr⟩ := (isBis_bis es _ _ q2).1 x (mem_outs.2 ⟨hx, rfl⟩)
    obtain ⟨y, hy, r1, r2, rfl⟩ := mem_tos.1 ht
    have hyi := hin y hy
    have hr' : Bis es ((x.2.1.toNat : Nat) : Int) ((y.2.1.toNat : Nat) : Int) := by
      rw [show ((x.2.1.toNat : Nat) : Int) = x.2.1 by omega, show ((y.2.1.toNat : Nat) : Int) = y.2.1 by omega]; exact hr
    obtain ⟨e, s1, s2⟩ := sil_match hin hr' h3
    exact ⟨e, .inr ⟨y, hy, by rw [show y.1.toNat = d by omega]; exact q1, by omega, s1⟩, s2⟩
/-- graphs that are alike have weak graphs that are. -/
theorem bis_weak {es fs : List Ed} {N M K : Nat} (he : inB (N : Int) es) (hf : inB (M : Int) fs) {a b : Nat} (ha : a < N + M) (hb : b < N + M) (h : Bis (bothE N es fs) a b) : Bis (bothE N (wE es N K) (wE fs M K)) a b := by
  have hin : inB ((N + M : Nat) : Int) (bothE N es fs) := by
    intro x hx
    rcases List.mem_append.1 hx with hx | hx
    · have := he x hx; omega
    · obtain ⟨y, hy, rfl⟩ := List.mem_map.1 hx
      have := hf y hy
      simp only [shE]; omega
  have wlt : ∀ {n l c : Nat}, n < N + M → W (bothE N es fs) n l c → c < N + M := by
    rintro n l c hn (⟨_, hs⟩ | ⟨x, hx, _, _, hs⟩)
    · exact sil_lt' hin hn hs
    · have := hin x hx; exact sil_lt' hin (by omega) hs
  have half : ∀ a b : Nat, a < N + M → b < N + M → Bis (bothE N es fs) a b → ∀ x ∈ outs (bothE N (wE es N K) (wE fs M K)) a, ∃ t ∈ tos (bothE N (wE es N K) (wE fs M K)) b x.2.2, ∃ c d : Nat, x.2.1 = c ∧ t = d ∧ c < N + M ∧ d < N + M ∧ Bis (bothE N es fs) c d := by
    intro a b ha hb h x hx
    obtain ⟨hx1, hx2⟩ := mem_outs.1 hx
    obtain ⟨n, l, c, rfl, h1, h2, hw⟩ := (mem_wG he hf).1 hx1
    have : n = a := by simp only at hx2; omega
    subst this
    obtain ⟨d, q1, q2⟩ := W_match hin h hw
    exact ⟨(d : Int), mem_tos.2 ⟨((b : Int), (d : Int), (l : Int)), (mem_wG he hf).2 ⟨b, l, d, rfl, hb, h2, q1⟩, rfl, rfl, rfl⟩, c, d, rfl, rfl, wlt h1 hw, wlt hb q1, q2⟩
  refine ⟨fun p q => ∃ a b : Nat, p = a ∧ q = b ∧ a < N + M ∧ b < N + M ∧ Bis (bothE N es fs) a b, ?_, a, b, rfl, rfl, ha, hb, h⟩
  rintro p q ⟨a, b, rfl, rfl, ha, hb, h⟩
  refine ⟨fun x hx => ?_, fun y hy => ?_⟩
  · obtain ⟨t, ht, c, d, e1, e2, h1, h2, h3⟩ := half a b ha hb h x hx
    exact ⟨t, ht, c, d, e1, e2, h1, h2, h3⟩
  · obtain ⟨t, ht, c, d, e1, e2, h1, h2, h3⟩ := half b a hb ha h.symm y hy
    exact ⟨t, ht, d, c, e2, e1, h2, h1, h3.symm⟩
end Go.Ideal.J
set_option linter.unusedSimpArgs false
set_option linter.unusedVariables false
set_option maxRecDepth 10000
set_option maxHeartbeats 2000000
namespace Go.Ideal.J
open Go Go.Ideal
theorem known_ok' (h : H) : callI F (fnV n_cabotagelaw22_known) [] h = some (.bool true, h) := by
  refine call_fn F_cabotagelaw22_known 0 (by decide) ?_
  rfl
/-- the answer to Weak, in one form. -/
def WeakU (st lb : Int) (es : List Ed) (v : Value) (h' : H) : Prop := ∃ (st' lb' : Int) (sl : Value) (es' : List Ed) (n : Int), v = pairV (gV st' lb' sl) (.int .i64 n) ∧ Row h' 3 sl (es'.map edL) ∧ es'.length ≤ 400 ∧
  ((n ≠ 0 ∧ st' = 0 ∧ lb' = 0 ∧ es' = []) ∨ (n = 0 ∧ chk st lb es = true ∧ (wE es st.toNat lb.toNat).length ≤ 400 ∧ st' = st ∧ lb' = lb ∧ es' = wE es st.toNat lb.toNat))
theorem weakU_of {st lb : Int} {es : List Ed} {v : Value} {h' : H} (hA : WeakA st lb es v h') : WeakU st lb es v h' := by
  rcases hA with ⟨c1, rfl⟩ | ⟨c1, c2, rfl⟩ | ⟨c1, c2, sl, rfl, hr⟩
  · exact ⟨0, 0, _, [], 2, rfl, .nil, by simp, .inl ⟨by omega, rfl, rfl, rfl⟩⟩
  · exact ⟨0, 0, _, [], 3, rfl, .nil, by simp, .inl ⟨by omega, rfl, rfl, rfl⟩⟩
  · exact ⟨st, lb, sl, _, 0, rfl, hr, c2, .inr ⟨rfl, c1, c2, rfl, rfl, rfl⟩⟩
theorem jWeak_u (st lb : Int) (es : List Ed) (sl : Value) (h : H) (hrow : Row h 3 sl (es.map edL)) : Ret F (fnV n_judge_Weak) [gV st lb sl] h fun v h' => Fr h h' ∧ WeakU st lb es v h' :=
  (jWeak_ok st lb es sl h hrow).mono fun v h' ⟨a, b⟩ => ⟨a, weakU_of b⟩

open Classical in
theorem weak_law (st lb st' lb' : Int) (es fs : List Ed) (sl sl' : Value) (h : H) (hrow : Row h 3 sl (es.map edL)) (hrow' : Row h 3 sl' (fs.map edL)) : Ret F (fnV n_cabotagelaw22_JudgeWeak) [gV st lb sl, gV st' lb' sl'] h fun v h' => v = .bool true ∧ Fr h h' := by
  refine Ret.fn F_cabotagelaw22_JudgeWeak 2 (by decide) ?_
  rw [s_cabotagelaw22_JudgeWeak]
  obtain ⟨P, hPd⟩ : ∃ P : Value → H → Prop, P = fun v h' => v = .bool true ∧ Fr h h' := ⟨_, rfl⟩
  rw [← hPd]
  have hP : ∀ h', Fr h h' → P (.bool true) h' := fun h' hf => by rw [hPd]; exact ⟨rfl, hf⟩
  have hv := hrow.slvM
  have hv' := hrow'.slvM
  simp (disch := first | omega | (simp only [new_next, put_next]; done) | (simp only [new_next, put_next]; omega)) [hv.clean, hv.take, hv'.clean, hv'.take]
  obtain ⟨h1, eh1⟩ : ∃ h1, h1 = (h.new (.cells (gL st lb sl) 0)).new (.cells (gL st' lb' sl') 0) := ⟨_, rfl⟩
  have hf1 : Fr h h1 := by rw [eh1]; exact (Fr.new _ _).newR _
  have hn1 : h1.next = h.next + 2 := by rw [eh1]; simp
  have g0 : h1.get h.next = some (.cells (gL st lb sl) 0) := by rw [eh1]; simp (disch := omega)
  have g1 : h1.get (h.next + 1) = some (.cells (gL st' lb' sl') 0) := by rw [eh1]; simp (disch := omega)
  rw [← eh1]
  -- Weak of the first
  refine OkV.call (jWeak_u st lb es sl h1 (hrow.fr hf1)) ?_
  rintro v h2 ⟨hf2, a1, b1, s1, es1, n1, rfl, hr1, hl1, hw1⟩
  have hfn2 := hf2.next
  have hs1 := hr1.slvM
  have g02 := (hf2.get _ (by omega)).trans g0
  have g12 := (hf2.get _ (by omega)).trans g1
  obtain ⟨h3, eh3⟩ : ∃ h3, h3 = h2.new (.cells (gL a1 b1 s1) 0) := ⟨_, rfl⟩
  have hf3 : Fr h2 h3 := by rw [eh3]; exact Fr.new _ _
  have hn3 : h3.next = h2.next + 1 := by rw [eh3]; simp
  have g03 := (hf3.get _ (by omega)).trans g02
  have g13 := (hf3.get _ (by omega)).trans g12
  have gw3 : h3.get h2.next = some (.cells (gL a1 b1 s1) 0) := by rw [eh3]; simp
  simp (disch := first | omega | (simp only [new_next, put_next]; done) | (simp only [new_next, put_next]; omega)) [hs1.cell, hs1.clean, hs1.take, g12, hv'.clean, hv'.take]
  rw [← eh3]
  -- Weak of the second
  refine OkV.call (jWeak_u st' lb' fs sl' h3 (((hrow'.fr hf1).fr hf2).fr hf3)) ?_
  rintro v h4 ⟨hf4, a2, b2, s2, es2, n2, rfl, hr2, hl2, hw2⟩
  have hfn4 := hf4.next
  have hs2 := hr2.slvM
  have g04 := (hf4.get _ (by omega)).trans g03
  have g14 := (hf4.get _ (by omega)).trans g13
  have gw4 := (hf4.get _ (by omega)).trans gw3
  obtain ⟨h5, eh5⟩ : ∃ h5, h5 = h4.new (.cells (gL a2 b2 s2) 0) := ⟨_, rfl⟩
  have hf5 : Fr h4 h5 := by rw [eh5]; exact Fr.new _ _
  have hn5 : h5.next = h4.next + 1 := by rw [eh5]; simp
  have g05 := (hf5.get _ (by omega)).trans g04
  have g15 := (hf5.get _ (by omega)).trans g14
  have gw5 := (hf5.get _ (by omega)).trans gw4
  have gx5 : h5.get h4.next = some (.cells (gL a2 b2 s2) 0) := by rw [eh5]; simp
  have hf05 : Fr h h5 := hf1.trans (hf2.trans (hf3.trans (hf4.trans hf5)))
  have hrow5 := hrow.fr hf05
  have hrow5' := hrow'.fr hf05
  have hr15 := ((hr1.fr hf3).fr hf4).fr hf5
  have hr25 := hr2.fr hf5
  simp (disch := first | omega | (simp only [new_next, put_next]; done) | (simp only [new_next, put_next]; omega)) [hs2.cell, hs2.clean, hs2.take]
  rw [← eh5]
  rcases hw1 with ⟨hn0, rfl, rfl, rfl⟩ | ⟨rfl, c1, c2, rfl, rfl, rfl⟩
  · -- there is none
    have hsm := same_ok 0 0 0 0 s1 (.slice none 0 0) [] [] (by simp) h5 hr15 .nil
    refine OkV.eq (OkV.val (hP ((h5.new (.cells (gL 0 0 s1) 0)).new (.cells (gL 0 0 (.slice none 0 0)) 0)) ((hf05.newR _).newR _))) ?_
    rw [show sameG 0 0 0 0 [] [] = true by simp [sameG]] at hsm
    simp (disch := first | omega | (simp only [new_next, put_next]; done) | (simp only [new_next, put_next]; omega)) [hn0, gw4, gw5, hs1.clean, hs1.take, fillL, hsm, known_ok']
  · have f := (chk_iff _ _ es).1 c1
    have fw := wE_formed f c2
    have cw := (chk_iff _ _ _).2 fw
    have hidem : wE (wE es a1.toNat b1.toNat) a1.toNat b1.toNat = wE es a1.toNat b1.toNat := wE_wE (by have := f.lb1; omega) (by have := f.inB; have h1 := f.st1; rwa [show ((a1.toNat : Nat) : Int) = a1 by omega])
    simp (disch := first | omega | (simp only [new_next, put_next]; done) | (simp only [new_next, put_next]; omega)) [gw4, gw5, hs1.clean, hs1.take]
    refine OkV.call (jWeak_ok a1 b1 _ s1 h5 hr15) ?_
    rintro v h6 ⟨hf6, hA⟩
    obtain ⟨s3, rfl, hr3⟩ : ∃ s3, v = pairV (gV a1 b1 s3) (.int .i64 0) ∧ Row h6 3 s3 ((wE es a1.toNat b1.toNat).map edL) := by
      rcases hA with ⟨q1, _⟩ | ⟨q1, q2, _⟩ | ⟨q1, q2, s3, q3, q4⟩
      · rw [cw] at q1; cases q1
      · rw [hidem] at q2; omega
      · rw [hidem] at q4; exact ⟨s3, q3, q4⟩
    have hfn6 := hf6.next
    have hs3 := hr3.slvM
    have g06 := (hf6.get _ (by omega)).trans g05
    have g16 := (hf6.get _ (by omega)).trans g15
    have gw6 := (hf6.get _ (by omega)).trans gw5
    have gx6 := (hf6.get _ (by omega)).trans gx5
    obtain ⟨h7, eh7⟩ : ∃ h7, h7 = h6.new (.cells (gL a1 b1 s3) 0) := ⟨_, rfl⟩
    have hf7 : Fr h6 h7 := by rw [eh7]; exact Fr.new _ _
    have hn7 : h7.next = h6.next + 1 := by rw [eh7]; simp
    have g07 := (hf7.get _ (by omega)).trans g06
    have g17 := (hf7.get _ (by omega)).trans g16
    have gw7 := (hf7.get _ (by omega)).trans gw6
    have gx7 := (hf7.get _ (by omega)).trans gx6
    have gy7 : h7.get h6.next = some (.cells (gL a1 b1 s3) 0) := by rw [eh7]; simp
    have hsm := same_ok a1 b1 a1 b1 s1 s3 _ _ (by omega) h7 ((hr15.fr hf6).fr hf7) (hr3.fr hf7)
    rw [show sameG a1 b1 a1 b1 (wE es a1.toNat b1.toNat) (wE es a1.toNat b1.toNat) = true by simp [sameG]] at hsm
    obtain ⟨h8, eh8⟩ : ∃ h8, h8 = (h7.new (.cells (gL a1 b1 s1) 0)).new (.cells (gL a1 b1 s3) 0) := ⟨_, rfl⟩
    have hf8 : Fr h7 h8 := by rw [eh8]; exact (Fr.new _ _).newR _
    have hn8 : h8.next = h7.next + 2 := by rw [eh8]; simp
    rw [← eh8] at hsm
    have hf58 : Fr h5 h8 := hf6.trans (hf7.trans hf8)
    have g08 := (hf8.get _ (by omega)).trans g07
    have g18 := (hf8.get _ (by omega)).trans g17
    have gw8 := (hf8.get _ (by omega)).trans gw7
    have gx8 := (hf8.get _ (by omega)).trans gx7
    simp (disch := first | omega | (simp only [new_next, put_next]; done) | (simp only [new_next, put_next]; omega)) [hs3.cell, hs3.clean, hs3.take, ← eh7, gw6, gw7, gy7, hs1.clean, hs1.take, hsm, g06, g16, g07, g17, g08, g18, hv.clean, hv.take, hv'.clean, hv'.take]
    refine OkV.call (P := fun v h' => Fr h8 h' ∧ (((chk a1 b1 es && chk st' lb' fs && decide (b1 = lb')) = false ∧ v = pairV (.bool false) (.int .i64 2)) ∨ ((chk a1 b1 es && chk st' lb' fs && decide (b1 = lb')) = true ∧ ∃ b : Bool, v = pairV (.bool b) (.int .i64 0) ∧ (b = true → Bis (bothE a1.toNat es fs) 0 a1))))
      (jAlike_ok a1 b1 st' lb' es fs sl sl' h8 (hrow5.fr hf58) (hrow5'.fr hf58) (fun q h' q1 => ⟨q1, .inl ⟨q, rfl⟩⟩) (fun q h' q1 => ⟨q1, .inr ⟨q, _, rfl, fun e => by simpa using e⟩⟩)) ?_
    rintro v h9 ⟨hf9, hv9⟩
    have hfn9 := hf9.next
    have hf09 : Fr h h9 := hf05.trans (hf58.trans hf9)
    rcases hv9 with ⟨q1, rfl⟩ | ⟨q1, b, rfl, hb⟩
    · by_cases hn2 : n2 = 0
      · refine OkV.eq (OkV.val (hP h9 hf09)) ?_
        simp (disch := first | omega | (simp only [new_next, put_next]; done) | (simp only [new_next, put_next]; omega)) [hn2, known_ok']
      · refine OkV.eq (OkV.val (hP h9 hf09)) ?_
        simp (disch := first | omega | (simp only [new_next, put_next]; done) | (simp only [new_next, put_next]; omega)) [hn2, known_ok']
    · rcases hw2 with ⟨hn0, rfl, rfl, rfl⟩ | ⟨rfl, d1, d2, rfl, rfl, rfl⟩
      · refine OkV.eq (OkV.val (hP h9 hf09)) ?_
        simp (disch := first | omega | (simp only [new_next, put_next]; done) | (simp only [new_next, put_next]; omega)) [hn0, known_ok']
      · cases b with
        | false =>
          refine OkV.eq (OkV.val (hP h9 hf09)) ?_
          simp (disch := first | omega | (simp only [new_next, put_next]; done) | (simp only [new_next, put_next]; omega)) [known_ok']
        | true =>
          have hbis := hb rfl
          simp only [Bool.and_eq_true, decide_eq_true_eq] at q1
          obtain ⟨⟨_, _⟩, rfl⟩ := q1
          have f' := (chk_iff _ _ fs).1 d1
          have fw' := wE_formed f' d2
          have cw' := (chk_iff _ _ _).2 fw'
          have gw9 := (hf9.get _ (by omega)).trans gw8
          have gx9 := (hf9.get _ (by omega)).trans gx8
          obtain ⟨N, rfl⟩ := Int.eq_ofNat_of_zero_le (show 0 ≤ a1 by have := f.st1; omega)
          obtain ⟨M, rfl⟩ := Int.eq_ofNat_of_zero_le (show 0 ≤ a2 by have := f'.st1; omega)
          have hbw : Bis (bothE N (wE es N b1.toNat) (wE fs M b1.toNat)) 0 (N : Int) := by
            have := bis_weak (K := b1.toNat) f.inB f'.inB (a := 0) (b := N) (by have := f.st1; omega) (by have := f'.st1; omega) (by simpa using hbis)
            simpa using this
          simp (disch := first | omega | (simp only [new_next, put_next]; done) | (simp only [new_next, put_next]; omega)) [gw9, gx9, hs1.clean, hs1.take, hs2.clean, hs2.take]
          refine OkV.call (P := fun v h' => Fr h9 h' ∧ v = pairV (.bool true) (.int .i64 0))
            (jAlike_ok (N : Int) b1 (M : Int) b1 _ _ s1 s2 h9 ((hr15.fr hf58).fr hf9) ((hr25.fr hf58).fr hf9) (fun q h' q1 => by
              exfalso; rw [cw, cw'] at q; simp at q) (fun q h' q1 => ⟨q1, congrArg (fun b => pairV (.bool b) (.int .i64 0)) (decide_eq_true hbw)⟩)) ?_
          rintro v h10 ⟨hf10, rfl⟩
          refine OkV.eq (OkV.val (hP h10 (hf09.trans hf10))) ?_
          simp (disch := first | omega | (simp only [new_next, put_next]; done) | (simp only [new_next, put_next]; omega)) [known_ok']
end Go.Ideal.J
set_option maxRecDepth 100000
set_option maxHeartbeats 4000000
set_option linter.unusedVariables false
namespace Go.Proofs.Ytanaepeilcjhcaa
open Go.ChangeShapes Go.WideShapes Go.ChangeAt Go.RowKit Go.Ideal Go.Ideal.J
theorem Try.own : ownKnob Try.prog.godebug = none := by kernel_rfl
theorem Try.laidOut : laidOutB Try.prog = true := by kernel_rfl
/-- a graph that came in. -/
theorem graph_in {H : Type} {enc : TypeId × Value → H} {W : World} {base b : Nat} {r : Reach} {spare : Nat → Bool} {held : Bool} {v : Value} {d : DataW H} {ps : List MemPlace} (hval : Value.okWide Try.prog W r base 24 v) (hd : DataW.Trod enc Try.prog W b spare held 24 v d ps) :
    ∃ (st lb : Int) (sl : Value) (es : List Ed), v = gV st lb sl ∧ okArg W v = true ∧ Row (impH W) 3 sl (es.map edL) := by
  unfold Value.okWide at hval
  rw [Try.underlying24] at hval
  obtain ⟨cs, rfl, hsz, ts, hts, _, hcell⟩ := hval
  obtain ⟨fuel, hd⟩ := hd
  have hcs : (Value.agg cs).cells.toList = cs.toList := rfl
  rw [hcs] at hd
  obtain ⟨xs, n, _, _, hl, hlen, hf⟩ := DataW.trod_struct Try.underlying24 hd
  have h3 : Try.prog.cellsOf 24 = 3 := by kernel_rfl
  have hi1 : Try.prog.cellsOf 3 = 1 := by kernel_rfl
  have hs1 : Try.prog.cellsOf 22 = 1 := by kernel_rfl
  have hE3 : Try.prog.cellsOf 58 = 3 := by kernel_rfl
  have hty : Try.prog.cellTypes Try.prog.depth 24 = some [3, 3, 22] := by kernel_rfl
  rw [hty] at hts
  cases hts
  rw [h3] at hl
  obtain ⟨c0, c1, c2, hc⟩ : ∃ c0 c1 c2, cs.toList = [c0, c1, c2] := by
    match cs.toList, hl with
    | [c0, c1, c2], _ => exact ⟨c0, c1, c2, rfl⟩
  rw [hc] at hf
  have e0 : DataW.trod enc Try.prog W b spare held n 3 (([c0, c1, c2].drop 0).take (Try.prog.cellsOf 3)) = xs[0]? := hf 0 _ rfl
  have e1 : DataW.trod enc Try.prog W b spare held n 3 (([c0, c1, c2].drop 1).take (Try.prog.cellsOf 3)) = xs[1]? := hf 1 _ rfl
  have e2 : DataW.trod enc Try.prog W b spare held n 22 (([c0, c1, c2].drop 2).take (Try.prog.cellsOf 22)) = xs[2]? := hf 2 _ rfl
  rw [hi1] at e0 e1
  rw [hs1] at e2
  obtain ⟨y0, y1, y2, rfl⟩ : ∃ y0 y1 y2, xs = [y0, y1, y2] := by
    match xs, hlen with
    | [y0, y1, y2], _ => exact ⟨y0, y1, y2, rfl⟩
  obtain ⟨st, rfl, _⟩ := int_of_trod Try.underlying3 (show DataW.trod enc Try.prog W b spare held n 3 [c0] = some y0 from e0)
  obtain ⟨lb, rfl, _⟩ := int_of_trod Try.underlying3 (show DataW.trod enc Try.prog W b spare held n 3 [c1] = some y1 from e1)
  have hcs' : cs = #[.int .i64 st, .int .i64 lb, c2] := by rw [← Array.toList_inj, hc]
  subst hcs'
  obtain ⟨u, hu, hok⟩ := hcell 2 c2 rfl
  cases hu
  obtain ⟨hokv, es, hrow⟩ := row_of_trod (α := Ed) (f := edL) (sz := 3) Try.underlying22 hE3 (by omega) (fun _ => rfl) (fun _ => rfl) (fun a v hv => by
      simp only [List.mem_cons, List.not_mem_nil, or_false] at hv
      rcases hv with rfl | rfl | rfl <;> rfl)
    (fun fuel cs y h => by
      obtain ⟨p, q, s, rfl⟩ := ints3_of_trod Try.underlying58 ⟨rfl, rfl⟩ ⟨rfl, rfl⟩ ⟨rfl, rfl⟩ Try.underlying3 Try.underlying3 Try.underlying3 hi1 hi1 hi1 hE3 h
      exact ⟨(p, q, s), rfl⟩) (slice_ok Try.underlying22 hok) (show DataW.trod enc Try.prog W b spare held n 22 [c2] = some y2 from e2)
  refine ⟨st, lb, c2, es, rfl, ?_, hrow⟩
  show ([.int .i64 st, .int .i64 lb, c2] : List Value).all (okV W) = true
  simp only [List.all_cons, List.all_nil, hokv, Bool.and_true]
  rfl

end Go.Proofs.Ytanaepeilcjhcaa
/- JudgeWeak: for any two graphs the law answers true: the weak graph of a weak graph is the same one, and graphs that are alike have weak graphs that are, unless one of these has too many edges. No condition. -/
set_option maxRecDepth 100000
set_option maxHeartbeats 4000000
set_option linter.unusedVariables false
namespace Go.Proofs.Ytanaepeilcjhcaa
open Go.ChangeShapes Go.WideShapes Go.ChangeAt Go.RowKit Go.Ideal Go.Ideal.J
theorem weak_calls {W : World} {v w : Value} {st lb st' lb' : Int} {sl sl' : Value} {es fs : List Ed} (hv : v = gV st lb sl) (ho : okArg W v = true) (hrow : Row (impH W) 3 sl (es.map edL)) (hw : w = gV st' lb' sl') (ho' : okArg W w = true) (hrow' : Row (impH W) 3 sl' (fs.map edL)) : Calls Try.prog 5 #[v, w] W fun e W' => e = .returned (.bool true) ∧ Same W W' := by
  obtain ⟨u, h', he, rfl, hf⟩ := weak_law st lb st' lb' es fs sl sl' (impH W) hrow hrow'
  subst hv; subst hw
  exact calls_import Go.Ideal.X.hmix okFs (fun v hv => by
    simp only [List.mem_cons, List.not_mem_nil, or_false] at hv
    rcases hv with rfl | rfl
    · exact ho
    · exact ho') he (fun i hi => hf.get i hi)
theorem weak_lifted (os : Os) (started : os.Started) (H : Type) (enc : TypeId × Value → H) :
    ReturnsInHanded {} Try.checked os 5 .any (Rows.judgeWeakSpec.pre6 enc Try.prog Try.f5 Rows.judgeWeakRow.domain false) (Rows.judgeWeakSpec.post enc Try.prog Try.f5 false true false false) := by
  refine returnsInHanded_of_change (C := Try.checked) Try.own started (by kernel_rfl) Try.func5
    (ChangeSpec.witness6 (enc := enc) (C := Try.checked) false ⟨#[], #[.agg #[.int .i64 0, .int .i64 0, .slice none 0 0], .agg #[.int .i64 0, .int .i64 0, .slice none 0 0]], []⟩ 8 (by kernel_rfl) (by kernel_rfl) (by kernel_rfl) (by kernel_rfl)) ?_
  intro W base args ds gs before hval0 hW hcnd _
  have hval : ∀ (j : Nat) t v, Try.f5.params[j]? = some t → args[j]? = some v → Value.okWide Try.prog W .any base t v := hval0
  have hW' := hW
  obtain ⟨p, q, hA0, hV, rfl, hfz, hnd⟩ := hW
  have hA : DataW.TrodAll enc Try.prog W 0 (fun _ => true) true Try.f5.params.toList args.toList ds p := hA0
  rw [Try.params5] at hA hval
  obtain ⟨v0, v1, d0, d1, q0, q1, rfl, rfl, rfl, h0, h1⟩ := trodAll_two hA
  obtain ⟨st, lb, sl, es, hv, ho, hrow⟩ := graph_in (hval 0 24 v0 rfl rfl) h0
  obtain ⟨st', lb', sl', fs, hv', ho', hrow'⟩ := graph_in (hval 1 24 v1 rfl rfl) h1
  obtain ⟨rfl, rfl⟩ := trodVars_none hV
  refine (weak_calls hv ho hrow hv' ho' hrow').mono fun e W' ⟨he, hs⟩ => ⟨_, he, ?_⟩
  exact law_post hW' rfl rfl (t := 4) (by kernel_rfl) Try.underlying4 hs Try.laidOut (fun t ht => by
    rw [Try.params5] at ht
    simp only [List.mem_cons, List.not_mem_nil, or_false] at ht
    rcases ht with rfl | rfl <;> exact ⟨by kernel_rfl, of_decide_eq_true (by kernel_rfl)⟩)
theorem weak_holds : Rows.JudgeWeakSaid :=
  OpenClaim.holds_of_wide 5 Try.f5 rfl rfl rfl rfl rfl rfl rfl ⟨rfl, rfl, rfl, rfl, rfl⟩ rfl rfl rfl rfl rfl (by kernel_rfl) Try.func5 (by kernel_rfl)
    (of_decide_eq_true (by kernel_rfl)) (by unfold Func.isWrapper; first | (rw [if_pos (by decide +kernel)]; kernel_rfl) | (rw [if_neg (by decide +kernel)]; exact ⟨rfl, rfl⟩))
    (fun os started H enc _ => weak_lifted os started H enc)
end Go.Proofs.Ytanaepeilcjhcaa
