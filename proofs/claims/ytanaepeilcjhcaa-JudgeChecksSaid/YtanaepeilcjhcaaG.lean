/- JudgeChecks: for every graph the law answers true: Check and Weak of the program and of the reference answer alike, and the chapter's examples hold. No condition. -/
import Derived.Test.YtanaepeilcjhcaaRows
import Derived.Test.YtanaepeilcjhcaaF
set_option linter.unusedSimpArgs false
set_option linter.unusedVariables false
set_option maxRecDepth 10000
namespace Go.Ideal.J
open Go Go.Ideal

/-- for each state, where silent steps lead. -/
def Aft (es : List Ed) (N : Nat) (h : H) (avs : List Value) (bot top : Nat) (i : Nat) : Prop :=
  ∀ k : Nat, k < i → ∃ (slv : Value) (vs : List Int), avs[k]? = some slv ∧ Row h 1 slv (vs.map inL) ∧ (∀ b o n c, slv = .slice (some ⟨b, o, none⟩) n c → bot < b ∧ b < top) ∧ (∀ v ∈ vs, 0 ≤ v ∧ v < (N : Int)) ∧ vs.Nodup ∧ (∀ c : Nat, (c : Int) ∈ vs ↔ Sil es k c)

theorem weak_round (es : List Ed) (N : Nat) (hN : N ≤ 1000) (lab : Nat) (x : Ed) (hx : x.2.2 = (lab : Int)) (to : Nat) (hto : x.2.1 = (to : Int)) (L pa A pt B b : Nat) (e0 : Nat) (avs : List Value) (hal : avs.length = N) (bl : List Nat) (hbl : bl[lab]? = some b) (lo hi : Nat) (slv : Value) (vs : List Int) (h1 : H)
    (hL : h1.get L = some (.loop .ready none (setL [p4, p7] [ptr pa, ptr pt]) r_judge_weak_10)) (hLl : L < h1.next) (hLh : hi ≤ L) (T : Nat → Nat → Prop) (ht : There h1 B bl lo hi N T) (hpa : h1.get pa = some (.cells [slF A N] 0)) (hpal : pa < lo) (hA : h1.get A = some (.cells avs e0)) (hAl : A < lo)
    (hpt : h1.get pt = some (.cells [slF B bl.length] 0)) (hptl : pt < lo) (hav : avs[to]? = some slv) (hrow : Row h1 1 slv (vs.map inL)) (hsl : ∀ b o n c, slv = .slice (some ⟨b, o, none⟩) n c → b < lo) (hvs : ∀ v ∈ vs, 0 ≤ v ∧ v < (N : Int)) (hnd : vs.Nodup) {P : Value → H → Prop}
    (hP : ∀ h', FrD (fun j => (lo ≤ j ∧ j < hi) ∨ j = L) h1 h' → h'.get L = some (.loop .ready none (setL [p4, p7] [ptr pa, ptr pt]) r_judge_weak_10) → There h' B bl lo hi N (fun l c => T l c ∨ (l = lab ∧ (c : Int) ∈ vs)) → P (.bool true) h') :
    Ret F (.func (.yield L) #[] #[]) [edV x] h1 P := by
  refine Ret.round hL ?_
  have hin := ht.hin
  have hBo := ht.out
  have hlen : vs.length ≤ N := nodup_short hnd hvs
  have hlo : lo ≤ hi := by have := ht.bnd _ (List.mem_of_getElem? hbl); omega
  rw [s_judge_weak_10]
  simp (disch := omega)
  rw [busyK_eq (by rw [get_new_ne (by omega)]; exact hL), s_judge_weak_11]
  obtain ⟨h2, eh2⟩ : ∃ h2, h2 = (h1.new (.cells (edL x) 0)).put L (.loop .busy none (setL [p4, p7] [ptr pa, ptr pt]) r_judge_weak_10) := ⟨_, rfl⟩
  have hf2 : FrD (fun j => j = L) h1 h2 := by rw [eh2]; exact ((FrD.refl (fun j => j = L) _).new _).put (.inr rfl) _
  have hn2 : h2.next = h1.next + 1 := by rw [eh2]; simp
  have gx : h2.get h1.next = some (.cells (edL x) 0) := by rw [eh2]; simp (disch := omega)
  have gpa : h2.get pa = some (.cells [slF A N] 0) := (hf2.get _ (by omega) (by omega)).trans hpa
  have gA : h2.get A = some (.cells avs e0) := (hf2.get _ (by omega) (by omega)).trans hA
  have gpt : h2.get pt = some (.cells [slF B bl.length] 0) := (hf2.get _ (by omega) (by omega)).trans hpt
  have gL : h2.get L = some (.loop .busy none (setL [p4, p7] [ptr pa, ptr pt]) r_judge_weak_10) := by rw [eh2]; exact get_put_eq rfl
  have hv := hrow.slvM
  have htk : takeC 1 (dropN to avs) = some [slv] := takeC_at hav hv.clean
  have htoN : to < N := by
    rcases Nat.lt_or_ge to avs.length with h | h
    · omega
    · rw [List.getElem?_eq_none h] at hav; cases hav
  have ht2 := ht.fr hf2 (by omega) (by omega)
  rw [← eh2]
  have := weak12 vs (by omega) N hvs lab x hx L pt h1.next B b bl hbl lo hi slv h2 (hrow.frD hf2 (fun b o n c e => by have := hsl b o n c e; omega)) (fun b o n c e => by have := hsl b o n c e; omega) gpt hptl gx (by omega) (by omega) (by omega) (P := P) T
    (fun h' hf' ht' => by
      have gL' : h'.get L = some (.loop .busy none (setL [p4, p7] [ptr pa, ptr pt]) r_judge_weak_10) := (hf'.get _ (by omega) (by omega)).trans gL
      rw [fin_none gL']
      refine OkV.val (hP _ ?_ (get_put_eq rfl) ?_)
      · refine FrD.put ⟨Nat.le_trans hf2.next hf'.next, fun i hi hd => (hf'.get _ (by omega) (fun h => hd (.inl h))).trans (hf2.get _ hi (fun h => hd (.inr h)))⟩ (.inr (.inr rfl)) _
      · exact ht'.fr ((FrD.refl _ _).put (D := fun j => j = L) (.inr rfl) _) (by omega) (by omega)) vs.length 0 h2 (by omega) (.refl _ _) (ht2.congr (by simp))
  refine OkV.eq (this.lp (l_judge_weak_12 L F _ _ _ _ _ _)) ?_
  obtain ⟨x1, x2, x3⟩ := x
  obtain rfl : x2 = (to : Int) := hto
  simp (disch := omega) [gpa, gx, gA, htoN, htk, hv.one, hv.len]

/-- what is marked behind the first states. -/
def TK (es : List Ed) (ks : List Int) (l c : Nat) : Prop := ∃ k ∈ ks, (l = 0 ∧ (c : Int) = k) ∨ ∃ x ∈ outs es k, x.2.2 = (l : Int) ∧ Sil es x.2.1.toNat c
theorem weak8 (es : List Ed) (hs : SortedF es) (hsz : es.length ≤ 1000) (N K : Nat) (hN : N ≤ 1000) (hK0 : 0 < K) (lb : Int) (hlb : lb = (K : Int)) (hin : inB (N : Int) es) (hlab : ∀ x ∈ es, 0 ≤ x.2.2 ∧ x.2.2 < lb) (sl : Value) (pg pr po pa A pt B : Nat) (e0 : Nat) (avs : List Value) (hal : avs.length = N) (bl : List Nat) (hbl : bl.length = K) (lo hi : Nat) (h0 : H)
    (hrow0 : Row h0 3 sl (es.map edL)) (hslo : ∀ b o n c, sl = .slice (some ⟨b, o, none⟩) n c → b < lo) (hpg : pg < lo) (hgg : h0.get pg = some (.cells (gL (N : Int) lb sl) 0)) (hpa : h0.get pa = some (.cells [slF A N] 0)) (hpal : pa < lo) (hA : h0.get A = some (.cells avs e0)) (hAl : A < lo) (hpt : h0.get pt = some (.cells [slF B K] 0)) (hptl : pt < lo) (bot : Nat) (haft : Aft es N h0 avs bot lo N)
    (n t39 t40 : Value) (ks : List Int) (hks : ∀ k ∈ ks, 0 ≤ k ∧ k < (N : Int)) (hksl : ks.length ≤ N) (slk : Value) (hrowk : Row h0 1 slk (ks.map inL)) (hslk : ∀ b o n c, slk = .slice (some ⟨b, o, none⟩) n c → b < lo) (hh0 : hi ≤ h0.next) {P : Value → H → Prop}
    (hP : ∀ h', FrD (fun j => lo ≤ j ∧ j < hi) h0 h' → There h' B bl lo hi N (TK es ks) → OkV (sh (rI F) c_judge_weak_7 (K_judge_weak_7 (rI F)) (setL [p1, p2, p3, p4, p6, p7, p39, p40] [ptr pg, ptr pr, ptr po, ptr pa, n, ptr pt, t39, t40]) h') P) :
    ∀ (m j : Nat) (h : H), j + m = ks.length → FrD (fun j => lo ≤ j ∧ j < hi) h0 h → There h B bl lo hi N (TK es (ks.take j)) →
    OkV (sh (rI F) c_judge_weak_8 (K_judge_weak_8 (rI F)) (setL [p1, p2, p3, p4, p6, p7, p39, p40, p61, p62, p63] [ptr pg, ptr pr, ptr po, ptr pa, n, ptr pt, t39, t40, slk, .int .i64 (ks.length : Int), .int .i64 (j : Int)]) h) P := by
  intro m
  induction m with
  | zero =>
    intro j h hj hf ht
    have e : j = ks.length := by omega
    subst e
    rw [List.take_length] at ht
    rw [s_judge_weak_8]
    simp (disch := omega)
    exact hP h hf ht
  | succ m ih =>
    intro j h hj hf ht
    have hjl : j < ks.length := by omega
    have hx : (ks.map inL)[j]? = some (inL ks[j]) := by simp [hjl]
    have hkb := hks ks[j] (List.getElem_mem hjl)
    have htk : ks.take (j + 1) = ks.take j ++ [ks[j]] := by rw [List.take_add_one, List.getElem?_eq_getElem hjl]; rfl
    obtain ⟨b1, o, cs, e, hv, hb, hg, htc⟩ := (hrowk.frD hf (fun b o n c e => by have := hslk b o n c e; omega)).index hx
    generalize ks[j] = k at *
    obtain ⟨k, rfl⟩ := Int.eq_ofNat_of_zero_le hkb.1
    have hkN : k < N := by omega
    have hlb0 : bl[0]? = some bl[0] := List.getElem?_eq_getElem (by omega)
    obtain ⟨bs, r1, r2, r3⟩ := ht.row 0 _ hlb0
    have hbb := ht.bnd _ (List.mem_of_getElem? hlb0)
    have hB := ht.get
    have hBt := ht.slice hlb0
    have hBlo := ht.out
    rw [dropN_z] at hBt
    generalize bl[0] = b0 at *
    have hfn := hf.next
    have gpg : h.get pg = some (.cells (gL (N : Int) lb sl) 0) := (hf.get _ (by omega) (by omega)).trans hgg
    have gpt : h.get pt = some (.cells [slF B K] 0) := (hf.get _ (by omega) (by omega)).trans hpt
    have hvg := hrow0.slvM
    have hw : writeAt (boolsL bs) k [.bool true] = some (boolsL (bs.set k true)) := by
      rw [writeAt_at (by simpa [r2] using hkN)]; simp [List.map_set]
    have hset := ht.set hlb0 hkN r1
    rw [show boolsL (bs.set k true) = (boolsL bs).set k (.bool true) by simp [List.map_set]] at hset
    rw [s_judge_weak_8]
    simp (disch := omega) [hjl, hv, hg, htc, gpt, hK0, hB, hBt, hkN, r1, hw, gpg, steps_ok, hvg.clean, hvg.take]
    obtain ⟨L, eL⟩ : ∃ L, L = h.next + 1 + 1 := ⟨_, rfl⟩
    obtain ⟨h1, eh1⟩ : ∃ h1, h1 = h.put b0 (.cells ((boolsL bs).set k (.bool true)) 0) := ⟨_, rfl⟩
    obtain ⟨h2, eh2⟩ : ∃ h2, h2 = ((h1.new (.cells [.int .i64 (N : Int), .int .i64 lb, sl] 0)).new (.cells [.int .i64 (k : Int)] 0)).new (.loop .ready none (setL [p4, p7] [ptr pa, ptr pt]) r_judge_weak_10) := ⟨_, rfl⟩
    rw [← eL, ← eh1, ← eh2]
    have hn1 : h1.next = h.next := by rw [eh1]; simp
    have hn2 : h2.next = h.next + 3 := by rw [eh2]; simp [hn1]
    have hf1 : FrD (fun j => lo ≤ j ∧ j < hi) h0 h1 := by rw [eh1]; exact hf.put (.inr hbb) _
    have hf2 : FrD (fun j => lo ≤ j ∧ j < hi) h0 h2 := by rw [eh2]; exact ((hf1.new _).new _).new _
    have hf12 : Fr h1 h2 := by rw [eh2]; exact ((Fr.new _ _).newR _).newR _
    have ht2 : There h2 B bl lo hi N (fun l c => TK es (ks.take j) l c ∨ (l = 0 ∧ c = k)) := (eh1 ▸ hset : There h1 _ _ _ _ _ _).fr (D := fun _ => False) hf12.D (by simp) (by simp)
    have gL2 : h2.get L = some (.loop .ready none (setL [p4, p7] [ptr pa, ptr pt]) r_judge_weak_10) := by rw [eh2, eL, ← hn1]; simp (disch := omega)
    have gg2 : h2.get h.next = some (.cells (gL (N : Int) lb sl) 0) := by rw [eh2, ← hn1]; simp (disch := omega)
    have gf2 : h2.get (h.next + 1) = some (.cells [.int .i64 (k : Int)] 0) := by rw [eh2, ← hn1]; simp (disch := omega)
    have gpa2 : h2.get pa = some (.cells [slF A N] 0) := (hf2.get _ (by omega) (by omega)).trans hpa
    have gA2 : h2.get A = some (.cells avs e0) := (hf2.get _ (by omega) (by omega)).trans hA
    have gpt2 : h2.get pt = some (.cells [slF B K] 0) := (hf2.get _ (by omega) (by omega)).trans hpt
    refine OkV.call (steps_run es hs hsz (k : Int) (N : Int) lb (.func (.yield L) #[] #[]) sl h.next (h.next + 1) h2 (M := fun j => (lo ≤ j ∧ j < hi) ∨ j = L) (hrow0.frD hf2 (fun b o n c e => by have := hslo b o n c e; omega)) (by omega) (by omega) (fun b o n c e => by have := hslo b o n c e; omega) (by omega) gg2 (by omega) gf2
      (fun i h' => FrD (fun j => (lo ≤ j ∧ j < hi) ∨ j = L) h2 h' ∧ h'.get L = some (.loop .ready none (setL [p4, p7] [ptr pa, ptr pt]) r_judge_weak_10) ∧ There h' B bl lo hi N (fun l c => (TK es (ks.take j) l c ∨ (l = 0 ∧ c = k)) ∨ ∃ x ∈ (outs es (k : Int)).take i, x.2.2 = (l : Int) ∧ Sil es x.2.1.toNat c))
      (fun _ => False) h2.next (Nat.le_refl _) ?_ ?_ ?_ (P := fun _ h' => FrD (fun j => (lo ≤ j ∧ j < hi) ∨ j = L) h2 h' ∧ h'.get L = some (.loop .ready none (setL [p4, p7] [ptr pa, ptr pt]) r_judge_weak_10) ∧ There h' B bl lo hi N (TK es (ks.take (j + 1)))) ?_) ?_
    · rintro i h3 h4 ⟨q1, q2, q3⟩ hf34
      have := q1.next
      exact ⟨q1.trans hf34.D, (hf34.get _ (by omega)).trans q2, q3.fr (D := fun _ => False) hf34.D (by simp) (by simp)⟩
    · rintro i v h3 hv ⟨q1, q2, q3⟩ hn3
      rw [List.getElem?_map] at hv
      obtain ⟨x, hx, rfl⟩ := Option.map_eq_some_iff.1 hv
      have hxo := List.mem_filter.1 (List.mem_of_getElem? hx)
      have hxi := hin x hxo.1
      have hxl := hlab x hxo.1
      obtain ⟨lab, hlab'⟩ := Int.eq_ofNat_of_zero_le hxl.1
      obtain ⟨to, hto⟩ := Int.eq_ofNat_of_zero_le hxi.2.2.1
      have hlabK : lab < bl.length := by omega
      obtain ⟨slv, vs, a1, a2, a3, a4, a5, a6⟩ := haft to (by omega)
      have hf03 : FrD (fun j => (lo ≤ j ∧ j < hi)) h0 h3 := ⟨Nat.le_trans hf2.next q1.next, fun i hi hd => (q1.get _ (by have := hf2.next; omega) (by omega)).trans (hf2.get _ hi hd)⟩
      refine weak_round es N hN lab x hlab' to hto L pa A pt B bl[lab] e0 avs hal bl (List.getElem?_eq_getElem hlabK) lo hi slv vs h3 q2 (by omega) (by omega) _ q3 ((hf03.get _ (by omega) (by omega)).trans hpa) hpal ((hf03.get _ (by omega) (by omega)).trans hA) hAl (by rw [hbl]; exact (hf03.get _ (by omega) (by omega)).trans hpt) hptl a1 (a2.frD hf03 (fun b o n c e => by have := a3 b o n c e; omega)) (fun b o n c e => (a3 b o n c e).2) a4 a5 ?_
      intro h' r1 r2 r3
      refine ⟨r1, .inl ⟨rfl, q1.trans r1, r2, r3.congr fun l c hc => ?_⟩⟩
      rw [List.take_add_one, hx]
      have e1 : (l = lab ∧ (c : Int) ∈ vs) ↔ (x.2.2 = (l : Int) ∧ Sil es x.2.1.toNat c) := by
        rw [a6, hto, hlab']
        constructor
        · rintro ⟨rfl, q⟩; exact ⟨rfl, q⟩
        · rintro ⟨q1, q2⟩; exact ⟨by omega, q2⟩
      rw [e1]
      constructor
      · rintro ((q | q) | q)
        · exact .inl q
        · obtain ⟨y, hy, q⟩ := q
          exact .inr ⟨y, List.mem_append.2 (.inl hy), q⟩
        · exact .inr ⟨x, List.mem_append.2 (.inr (by simp)), q⟩
      · rintro (q | ⟨y, hy, q⟩)
        · exact .inl (.inl q)
        · rcases List.mem_append.1 hy with hy | hy
          · exact .inl (.inr ⟨y, hy, q⟩)
          · simp at hy; subst hy; exact .inr q
    · exact ⟨.refl _ _, gL2, ht2.congr (by simp)⟩
    · intro h' hf' hv
      rcases hv with ⟨q1, q2, q3⟩ | hv
      · refine ⟨hf', q2, q3.congr fun l c hc => ?_⟩
        rw [List.take_length, htk]
        unfold TK
        constructor
        · rintro ((⟨k', hk', q⟩ | ⟨rfl, rfl⟩) | ⟨x, hx, q⟩)
          · exact ⟨k', List.mem_append.2 (.inl hk'), q⟩
          · exact ⟨(c : Int), List.mem_append.2 (.inr (by simp)), .inl ⟨rfl, rfl⟩⟩
          · exact ⟨(k : Int), List.mem_append.2 (.inr (by simp)), .inr ⟨x, hx, q⟩⟩
        · rintro ⟨k', hk', q⟩
          rcases List.mem_append.1 hk' with hk' | hk'
          · exact .inl (.inl ⟨k', hk', q⟩)
          · rw [List.mem_singleton] at hk'; subst hk'
            rcases q with ⟨rfl, q⟩ | ⟨x, hx, q⟩
            · exact .inl (.inr ⟨rfl, by omega⟩)
            · exact .inr ⟨x, hx, q⟩
      · exact hv.elim
    · rintro v h' ⟨q1, q2, q3⟩
      have hn' := q1.next
      rw [rgP_ready q2, s_judge_weak_9]
      have := ih (j + 1) (h'.put L (.loop .exhausted none (setL [p4, p7] [ptr pa, ptr pt]) r_judge_weak_10)) (by omega) ⟨by simp; omega, fun i hi hd => by
        rw [get_put_ne' (by omega), q1.get _ (by omega) (by omega)]; exact hf2.get _ hi hd⟩ (q3.fr ((FrD.refl (fun j => j = L) _).put (.inr rfl) _) (by omega) (by omega))
      refine OkV.eq (this.lp (l_judge_weak_8 F _ _ _ _ _ _ _ _ _ _ _ _)) ?_
      simp (disch := omega) [i64_add]
end Go.Ideal.J
set_option linter.unusedSimpArgs false
set_option linter.unusedVariables false
set_option maxRecDepth 10000
namespace Go.Ideal.J
open Go Go.Ideal
theorem repeat_nil : ∀ n, repeatL [Value.slice none 0 0] n = List.replicate n (.slice none 0 0)
  | 0 => rfl
  | n + 1 => by simp [repeatL, repeat_nil n, List.replicate_succ]
theorem make_nils {n : Nat} (hn : n ≤ 1000) (h : H) : makeSliceV 24 [.slice none 0 0] h (.int .i64 (n : Int)) (.int .i64 (n : Int)) = some (slF h.next n, h.new (.cells (List.replicate n (.slice none 0 0)) 0)) := by
  show (if (Nat.ble n n && Nat.ble (n * 24) 1073741824 && Nat.ble n 1073741824) = true then _ else none) = _
  rw [if_pos (by simp; omega), repeat_nil]

/-- the first rows are made. -/
def initB (lo N K l : Nat) : List Value := (List.range K).map fun i => if i < l then slF (lo + i) N else .slice none 0 0
theorem initB_zero (lo N K : Nat) : initB lo N K 0 = List.replicate K (.slice none 0 0) := by
  apply List.ext_getElem
  · simp [initB]
  · intro i h1 h2; simp [initB]
theorem initB_len (lo N K l : Nat) : (initB lo N K l).length = K := by simp [initB]
theorem initB_set (lo N K l : Nat) : (initB lo N K l).set l (slF (lo + l) N) = initB lo N K (l + 1) := by
  apply List.ext_getElem
  · simp [initB]
  · intro i h1 h2
    simp only [initB, List.getElem_set, List.getElem_map, List.getElem_range]
    by_cases e : l = i
    · subst e; rw [if_pos rfl, if_pos (by omega)]
    · rw [if_neg e]
      by_cases e2 : i < l
      · rw [if_pos e2, if_pos (by omega)]
      · rw [if_neg e2, if_neg (by omega)]
theorem initB_full (lo N K : Nat) : initB lo N K K = ((List.range K).map fun i => lo + i).map fun b => slF b N := by
  unfold initB
  rw [List.map_map]
  apply List.map_congr_left
  intro i hi
  rw [if_pos (List.mem_range.1 hi)]; rfl

theorem weak6 (N K : Nat) (hN : N ≤ 1000) (hK : K ≤ 1000) (lb : Int) (sl : Value) (t2 t3 t4 n t39 t40 : Value) (pg pt B lo : Nat) (h0 : H) (hgg : h0.get pg = some (.cells (gL (N : Int) lb sl) 0)) (hpg : pg < B) (hpt : h0.get pt = some (.cells [slF B K] 0)) (hB : B < pt) (hptl : pt < lo) (hlo : h0.next = lo) {P : Value → H → Prop}
    (hP : ∀ h', FrD (fun j => j = B) h0 h' → There h' B ((List.range K).map fun i => lo + i) lo (lo + K) N (fun _ _ => False) → OkV (sh (rI F) c_judge_weak_5 (K_judge_weak_5 (rI F)) (setL [p1, p2, p3, p4, p6, p7, p39, p40] [ptr pg, t2, t3, t4, n, ptr pt, t39, t40]) h') P) :
    ∀ (m l : Nat) (h : H), l + m = K → FrD (fun j => j = B) h0 h → h.next = lo + l → h.get B = some (.cells (initB lo N K l) 0) → (∀ i, i < l → h.get (lo + i) = some (.cells (boolsL (List.replicate N false)) 0)) →
    OkV (sh (rI F) c_judge_weak_6 (K_judge_weak_6 (rI F)) (setL [p1, p2, p3, p4, p6, p7, p39, p40, p47, p48] [ptr pg, t2, t3, t4, n, ptr pt, t39, t40, .int .i64 (K : Int), .int .i64 (l : Int)]) h) P := by
  intro m
  induction m with
  | zero =>
    intro l h hl hf hn hgB hr
    have e : l = K := by omega
    subst e
    rw [s_judge_weak_6]
    simp (disch := omega)
    refine hP h hf ⟨by rw [← initB_full]; exact hgB, ?_, ?_, ?_, by omega, by omega, by omega⟩
    · have : (List.range l).Nodup := List.nodup_range
      exact this.map (fun i => lo + i) (fun a b hab e => hab (by simpa using e))
    · intro b hb
      obtain ⟨i, hi, rfl⟩ := List.mem_map.1 hb
      have := List.mem_range.1 hi; omega
    · intro i b hb
      rw [List.getElem?_map] at hb
      obtain ⟨i', hi', rfl⟩ := Option.map_eq_some_iff.1 hb
      have hi2 : i < l := by
        rcases Nat.lt_or_ge i l with h | h
        · exact h
        · rw [List.getElem?_eq_none (by simpa using h)] at hi'; cases hi'
      rw [List.getElem?_range hi2] at hi'; cases hi'
      exact ⟨_, hr i hi2, by simp, fun c => by simp [List.getElem?_replicate]⟩
  | succ m ih =>
    intro l h hl hf hn hgB hr
    have hlK : l < K := by omega
    have gpg : h.get pg = some (.cells (gL (N : Int) lb sl) 0) := (hf.get _ (by omega) (by omega)).trans hgg
    have gpt : h.get pt = some (.cells [slF B K] 0) := (hf.get _ (by omega) (by omega)).trans hpt
    have hw : writeAt (initB lo N K l) l [slF (lo + l) N] = some (initB lo N K (l + 1)) := by
      rw [writeAt_at (by rw [initB_len]; omega), initB_set]
    rw [s_judge_weak_6]
    have := ih (l + 1) ((h.new (.cells (boolsL (List.replicate N false)) 0)).put B (.cells (initB lo N K (l + 1)) 0)) (by omega) ((hf.new _).put (.inr rfl) _) (by simp; omega) (get_put_eq rfl) (fun i hi => by
      rw [get_put_ne' (by omega)]
      by_cases e : i = l
      · subst e; rw [← hn]; simp
      · rw [get_new_ne (by omega)]; exact hr i (by omega))
    refine OkV.eq (this.lp (l_judge_weak_6 F _ _ _ _ _ _ _ _ _ _ _)) ?_
    simp (disch := omega) [hlK, gpt, gpg, make_bools hN, hn, hgB, hw, i64_add]
end Go.Ideal.J
set_option linter.unusedSimpArgs false
set_option linter.unusedVariables false
set_option maxRecDepth 10000
namespace Go.Ideal.J
open Go Go.Ideal
/-- the weak steps. -/
def W (es : List Ed) (n l c : Nat) : Prop := (l = 0 ∧ Sil es n c) ∨ ∃ x ∈ es, Sil es n x.1.toNat ∧ x.2.2 = (l : Int) ∧ Sil es x.2.1.toNat c
theorem TK_W {es : List Ed} {N : Nat} (hin : inB (N : Int) es) {ks : List Int} {n : Nat} (hk : ∀ c : Nat, (c : Int) ∈ ks ↔ Sil es n c) (hks : ∀ k ∈ ks, 0 ≤ k) (l c : Nat) : TK es ks l c ↔ W es n l c := by
  unfold TK W
  constructor
  · rintro ⟨k, hkm, ⟨rfl, q⟩ | ⟨x, hx, q1, q2⟩⟩
    · exact .inl ⟨rfl, (hk c).1 (q ▸ hkm)⟩
    · have hx' := List.mem_filter.1 hx
      have h0 := hks k hkm
      have e : x.1 = k := by simpa using hx'.2
      refine .inr ⟨x, hx'.1, (hk _).1 ?_, q1, q2⟩
      rw [show ((x.1.toNat : Nat) : Int) = k by omega]; exact hkm
  · rintro (⟨rfl, q⟩ | ⟨x, hx, q0, q1, q2⟩)
    · exact ⟨(c : Int), (hk c).2 q, .inl ⟨rfl, rfl⟩⟩
    · have hb := hin x hx
      refine ⟨x.1, ?_, .inr ⟨x, List.mem_filter.2 ⟨hx, by simp⟩, q1, q2⟩⟩
      have := (hk _).2 q0
      rwa [show ((x.1.toNat : Nat) : Int) = x.1 by omega] at this
theorem labRows_congr {N : Nat} {T T' : Nat → Nat → Prop} (h : ∀ l c, T l c ↔ T' l c) (n : Int) (l : Nat) : labRows N T n l = labRows N T' n l := by
  have : T = T' := by funext l c; exact propext (h l c)
  rw [this]
noncomputable def wRows (es : List Ed) (N K n : Nat) : List Ed := (List.range n).flatMap fun i => labRows N (W es i) (i : Int) K
theorem wRows_succ (es : List Ed) (N K n : Nat) : wRows es N K (n + 1) = wRows es N K n ++ labRows N (W es n) (n : Int) K := by
  unfold wRows
  rw [List.range_succ, List.flatMap_append]
  simp
theorem wRows_len (es : List Ed) {N K : Nat} (h : K * N ≤ 2500) : ∀ n, (wRows es N K n).length ≤ n * 2500
  | 0 => by simp [wRows]
  | n + 1 => by
    rw [wRows_succ, List.length_append]
    have := wRows_len es h n
    have := labRows_len N (W es n) (n : Int) K
    omega

theorem weak3 (es : List Ed) (hs : SortedF es) (hsz : es.length ≤ 1000) (N K : Nat) (hN : N ≤ 60) (hK0 : 0 < K) (hK : K ≤ 41) (lb : Int) (hlb : lb = (K : Int)) (hin : inB (N : Int) es) (hlab : ∀ x ∈ es, 0 ≤ x.2.2 ∧ x.2.2 < lb) (sl : Value) (pg pr po pa A : Nat) (e0 : Nat) (avs : List Value) (hal : avs.length = N) (h1 : H)
    (hrow1 : Row h1 3 sl (es.map edL)) (hslo : ∀ b o n c, sl = .slice (some ⟨b, o, none⟩) n c → b < pg) (hgg : h1.get pg = some (.cells (gL (N : Int) lb sl) 0)) (hpa : h1.get pa = some (.cells [slF A N] 0)) (hA : h1.get A = some (.cells avs e0)) (haft : Aft es N h1 avs pa h1.next N)
    (o1 : pg < pr) (o2 : pr < po) (o3 : po < A) (o4 : A < pa) (o5 : pa < h1.next) {P : Value → H → Prop}
    (hP : ∀ h' slv ob, FrD (fun j => j = po) h1 h' → h'.get po = some (.cells [.int .i64 (N : Int), .int .i64 lb, slv] 0) → Grow h' 3 slv ((wRows es N K N).map edL) ob → (∀ q, ob = some q → h1.next ≤ q) → OkV (sh (rI F) c_judge_weak_2 (K_judge_weak_2 (rI F)) (setL [p2, p3] [ptr pr, ptr po]) h') P) :
    ∀ (m n : Nat) (h : H) (slv : Value) (ob : Option Nat), n + m = N → FrD (fun j => j = po) h1 h → h.get po = some (.cells [.int .i64 (N : Int), .int .i64 lb, slv] 0) → Grow h 3 slv ((wRows es N K n).map edL) ob → (∀ q, ob = some q → h1.next ≤ q) →
    OkV (sh (rI F) c_judge_weak_3 (K_judge_weak_3 (rI F)) (setL [p1, p2, p3, p4, p39, p40] [ptr pg, ptr pr, ptr po, ptr pa, .int .i64 (N : Int), .int .i64 (n : Int)]) h) P := by
  have hKN : K * N ≤ 2500 := Nat.le_trans (Nat.mul_le_mul hK hN) (by omega)
  intro m
  induction m with
  | zero =>
    intro n h slv ob hn hf hgp hg hob
    have e : n = N := by omega
    subst e
    rw [s_judge_weak_3]
    simp (disch := omega)
    exact hP h slv ob hf hgp hg hob
  | succ m ih =>
    intro n h slv ob hn hf hgp hg hob
    have hnN : n < N := by omega
    have hfn := hf.next
    have gpg : h.get pg = some (.cells (gL (N : Int) lb sl) 0) := (hf.get _ (by omega) (by omega)).trans hgg
    have hvg := hrow1.slvM
    rw [s_judge_weak_3]
    simp (disch := omega) [hnN, gpg, hlb, make_nils (show K ≤ 1000 by omega)]
    obtain ⟨B, eB⟩ : ∃ B, B = h.next := ⟨_, rfl⟩
    obtain ⟨h2, eh2⟩ : ∃ h2, h2 = (h.new (.cells (List.replicate K (.slice none 0 0)) 0)).new (.cells [slF B K] 0) := ⟨_, rfl⟩
    rw [← eB, ← eh2]
    have hn2 : h2.next = B + 2 := by rw [eh2]; simp [eB]
    have hf2 : Fr h h2 := by rw [eh2]; exact (Fr.new _ _).newR _
    have gB2 : h2.get B = some (.cells (List.replicate K (.slice none 0 0)) 0) := by rw [eh2]; simp (disch := omega) [eB]
    have gt2 : h2.get (B + 1) = some (.cells [slF B K] 0) := by rw [eh2]; simp (disch := omega) [eB]
    obtain ⟨slk, ks, a1, a2, a3, a4, a5, a6⟩ := haft n hnN
    have hvk := a2.slvM
    have hkl : ks.length ≤ N := nodup_short a5 a4
    have hobl : ∀ q, ob = some q → q < B := fun q e => by subst e; have := hg.lt; omega
    have htka : takeC 1 (dropN n avs) = some [slk] := takeC_at a1 hvk.clean
    have := weak6 N K (by omega) (by omega) lb sl (ptr pr) (ptr po) (ptr pa) (.int .i64 (n : Int)) (.int .i64 (N : Int)) (.int .i64 (n : Int)) pg (B + 1) B (B + 2) h2 ((hf2.get _ (by omega)).trans gpg) (by omega) gt2 (by omega) (by omega) hn2 (P := P) (fun h3 hf3 ht3 => by
      have hfn3 := hf3.next
      have hin3 := ht3.hin
      have hf13 : FrD (fun j => j = po) h1 h3 := ⟨by omega, fun i hi hd => (hf3.get _ (by omega) (by omega)).trans ((hf2.get _ (by omega)).trans (hf.get _ hi hd))⟩
      have gpa3 : h3.get pa = some (.cells [slF A N] 0) := (hf13.get _ (by omega) (by omega)).trans hpa
      have gA3 : h3.get A = some (.cells avs e0) := (hf13.get _ (by omega) (by omega)).trans hA
      have gpg3 : h3.get pg = some (.cells (gL (N : Int) lb sl) 0) := (hf13.get _ (by omega) (by omega)).trans hgg
      have gpt3 : h3.get (B + 1) = some (.cells [slF B K] 0) := (hf3.get _ (by omega) (by omega)).trans gt2
      have hsl3 : ∀ b o n c, sl = .slice (some ⟨b, o, none⟩) n c → b ≠ po := fun b o n c e => by have := hslo b o n c e; omega
      have haft3 : Aft es N h3 avs pa (B + 2) N := fun k hk => by
        obtain ⟨slv', vs', b1, b2, b3, b4, b5, b6⟩ := haft k hk
        exact ⟨slv', vs', b1, b2.frD hf13 (fun b o n c e => by have := b3 b o n c e; omega), fun b o n c e => by have := b3 b o n c e; omega, b4, b5, b6⟩
      rw [s_judge_weak_5]
      have h8 := weak8 es hs hsz N K (by omega) hK0 lb hlb hin hlab sl pg pr po pa A (B + 1) B e0 avs hal ((List.range K).map fun i => B + 2 + i) (by simp) (B + 2) (B + 2 + K) h3 (hrow1.frD hf13 (fun b o n c e => hsl3 b o n c e)) (fun b o n c e => by have := hslo b o n c e; omega) (by omega) gpg3 gpa3 (by omega) gA3 (by omega) gpt3 (by omega) pa haft3
        (.int .i64 (n : Int)) (.int .i64 (N : Int)) (.int .i64 (n : Int)) ks a4 hkl slk (a2.frD hf13 (fun b o n c e => by have := a3 b o n c e; omega)) (fun b o n c e => by have := a3 b o n c e; omega) hin3 (P := P) (fun h4 hf4 ht4 => by
          have hfn4 := hf4.next
          have gpt4 : h4.get (B + 1) = some (.cells [slF B K] 0) := (hf4.get _ (by omega) (by omega)).trans gpt3
          have hpo3 : h3.get po = some (.cells [.int .i64 (N : Int), .int .i64 lb, slv] 0) := (hf3.get _ (by omega) (by omega)).trans ((hf2.get _ (by omega)).trans hgp)
          have hpo4 : h4.get po = some (.cells [.int .i64 (N : Int), .int .i64 lb, slv] 0) := (hf4.get _ (by omega) (by omega)).trans hpo3
          have hg4 : Grow h4 3 slv ((wRows es N K n).map edL) ob := ((hg.fr hf2).frD hf3 (fun q e => by have := hobl q e; omega)).frD hf4 (fun q e => by have := hobl q e; omega)
          rw [s_judge_weak_7]
          have hwl := wRows_len es hKN n
          have h13 := weak13 N K (by omega) (by omega) (TK es ks) (n : Int) (N : Int) lb (wRows es N K n) (by omega) (ptr pg) (ptr pr) (ptr pa) (.int .i64 (N : Int)) (.int .i64 (n : Int)) po B ((List.range K).map fun i => B + 2 + i) (by simp) (B + 2) (B + 2 + K) ob h4 ht4 (by omega) (fun q e => ⟨hobl q e, by have := hob q e; omega⟩) (P := P) (fun h5 slv5 ob5 hf5 gp5 hg5 hob5 => by
            have hfn5 := hf5.next
            rw [s_judge_weak_4]
            have := ih (n + 1) h5 slv5 ob5 (by omega) ⟨by omega, fun i hi hd => by
                rw [hf5.get _ (by omega) (by rintro (e | e); omega; have := hob _ e; omega), hf4.get _ (by omega) (by omega)]
                exact hf13.get _ hi hd⟩ gp5 (by
                rw [wRows_succ, ← labRows_congr (TK_W hin a6 (fun k hk => (a4 k hk).1))]; exact hg5) (fun q e => by
                rcases hob5 q e with h | h
                · exact hob q h
                · omega)
            refine OkV.eq (this.lp (l_judge_weak_3 F _ _ _ _ _ _ _)) ?_
            simp (disch := omega) [i64_add]) K 0 h4 slv ob (by omega) (.refl _ _) hpo4 (by simpa [labRows] using hg4) (fun q e => .inl e)
          refine OkV.eq (h13.lp (l_judge_weak_13 F _ _ _ _ _ _ _ _ _ _ _)) ?_
          simp (disch := omega) [gpt4]) ks.length 0 h3 (by omega) (.refl _ _) (ht3.congr (by simp [TK]))
      refine OkV.eq (h8.lp (l_judge_weak_8 F _ _ _ _ _ _ _ _ _ _ _ _)) ?_
      simp (disch := omega) [gpa3, gA3, hnN, htka, hvk.one, hvk.len]) K 0 h2 (by omega) (.refl _ _) (by omega) (by rw [initB_zero]; exact gB2) (by simp)
    refine OkV.eq (this.lp (l_judge_weak_6 F _ _ _ _ _ _ _ _ _ _ _)) ?_
    simp (disch := omega) [gt2]
end Go.Ideal.J
set_option linter.unusedSimpArgs false
set_option linter.unusedVariables false
set_option maxRecDepth 10000
namespace Go.Ideal.J
open Go Go.Ideal
theorem fr_of_D {h0 h h' : H} {D : Nat → Prop} (hf : Fr h0 h) (hf' : FrD D h h') (hd : ∀ i, i < h0.next → ¬ D i) : Fr h0 h' := hf.transD hf' hd
theorem weak1 (es : List Ed) (hs : SortedF es) (hsz : es.length ≤ 1000) (N K : Nat) (hN : N ≤ 60) (lb : Int) (hin : inB (N : Int) es) (sl : Value) (pg pa A : Nat) (t2 t3 : Value) (h1 : H)
    (hrow1 : Row h1 3 sl (es.map edL)) (hslo : ∀ b o n c, sl = .slice (some ⟨b, o, none⟩) n c → b < pg) (hgg : h1.get pg = some (.cells (gL (N : Int) lb sl) 0)) (hpa : h1.get pa = some (.cells [slF A N] 0))
    (o3 : pg < A) (o4 : A < pa) (o5 : pa < h1.next) {P : Value → H → Prop}
    (hP : ∀ h' avs, FrD (fun j => j = A) h1 h' → h'.get A = some (.cells avs 0) → avs.length = N → Aft es N h' avs pa h'.next N → OkV (sh (rI F) c_judge_weak_0 (K_judge_weak_0 (rI F)) (setL [p1, p2, p3, p4] [ptr pg, t2, t3, ptr pa]) h') P) :
    ∀ (m n : Nat) (h : H) (avs : List Value), n + m = N → FrD (fun j => j = A) h1 h → h.get A = some (.cells avs 0) → avs.length = N → Aft es N h avs pa h.next n →
    OkV (sh (rI F) c_judge_weak_1 (K_judge_weak_1 (rI F)) (setL [p1, p2, p3, p4, p27, p28] [ptr pg, t2, t3, ptr pa, .int .i64 (N : Int), .int .i64 (n : Int)]) h) P := by
  intro m
  induction m with
  | zero =>
    intro n h avs hn hf hgA hal haft
    have e : n = N := by omega
    subst e
    rw [s_judge_weak_1]
    simp (disch := omega)
    exact hP h avs hf hgA hal haft
  | succ m ih =>
    intro n h avs hn hf hgA hal haft
    have hnN : n < N := by omega
    have hfn := hf.next
    have gpg : h.get pg = some (.cells (gL (N : Int) lb sl) 0) := (hf.get _ (by omega) (by omega)).trans hgg
    have gpa : h.get pa = some (.cells [slF A N] 0) := (hf.get _ (by omega) (by omega)).trans hpa
    have hvg := hrow1.slvM
    rw [s_judge_weak_1]
    simp (disch := omega) [hnN, gpg, hvg.clean, hvg.take, hvg.eqc]
    refine OkV.call (jsilent_ok es hs hsz (N : Int) lb hin (by omega) n (by omega) sl h (hrow1.frD hf (fun b o n c e => by have := hslo b o n c e; omega)) (P := fun v h' => Fr h h' ∧ ∃ vs, Row h' 1 v (vs.map inL) ∧ (∀ b o n c, v = .slice (some ⟨b, o, none⟩) n c → h.next ≤ b) ∧ (∀ u ∈ vs, 0 ≤ u ∧ u < (N : Int)) ∧ vs.Nodup ∧ (∀ c : Nat, (c : Int) ∈ vs ↔ Sil es n c)) (fun h' slv vs q1 q2 q3 q4 q5 q6 => ⟨q1, vs, q2, q3, q5, q4, q6⟩)) ?_
    rintro v h' ⟨hf', vs, q2, q3, q4, q5, q6⟩
    have hfn' := hf'.next
    have gpa' : h'.get pa = some (.cells [slF A N] 0) := (hf'.get _ (by omega)).trans gpa
    have gA' : h'.get A = some (.cells avs 0) := (hf'.get _ (by omega)).trans hgA
    have hv := q2.slvM
    have hw : writeAt avs n [v] = some (avs.set n v) := writeAt_at (by omega)
    have := ih (n + 1) (h'.put A (.cells (avs.set n v) 0)) (avs.set n v) (by omega) ((hf.trans (hf'.D)).put (.inr rfl) _) (get_put_eq rfl) (by simpa using hal) (fun k hk => by
      by_cases e : k = n
      · subst e
        refine ⟨v, vs, by rw [List.getElem?_set_self (by omega)], q2.frD ((FrD.refl (fun j => j = A) _).put (.inr rfl) _) (fun b o n c e => by have := q3 b o n c e; omega), fun b o n c e => ⟨by have := q3 b o n c e; omega, q2.lt e⟩, q4, q5, q6⟩
      · obtain ⟨slv', vs', b1, b2, b3, b4, b5, b6⟩ := haft k (by omega)
        refine ⟨slv', vs', by rw [List.getElem?_set_ne (by omega)]; exact b1, (b2.fr hf').frD ((FrD.refl (fun j => j = A) _).put (.inr rfl) _) (fun b o n c e => by have := b3 b o n c e; omega), fun b o n c e => by have := b3 b o n c e; simp; omega, b4, b5, b6⟩)
    refine OkV.eq (this.lp (l_judge_weak_1 F _ _ _ _ _ _ _)) ?_
    simp (disch := omega) [gpa, gpa', gA', hv.cells, hv.cell, hnN, hw, i64_add]

noncomputable def wE (es : List Ed) (N K : Nat) : List Ed := wRows es N K N
theorem jweak_ok (es : List Ed) (hs : SortedF es) (hsz : es.length ≤ 1000) (N K : Nat) (hN : N ≤ 60) (hK0 : 0 < K) (hK : K ≤ 41) (hin : inB (N : Int) es) (hlab : ∀ x ∈ es, 0 ≤ x.2.2 ∧ x.2.2 < (K : Int)) (sl : Value) (h : H) (hrow : Row h 3 sl (es.map edL)) {P : Value → H → Prop}
    (hP : ∀ h' slv ob, Fr h h' → Grow h' 3 slv ((wE es N K).map edL) ob → (∀ q, ob = some q → h.next ≤ q) → P (gV (N : Int) (K : Int) slv) h') : Ret F (fnV n_judge_weak) [gV (N : Int) (K : Int) sl] h P := by
  refine Ret.fn F_judge_weak 1 (by decide) ?_
  rw [s_judge_weak]
  obtain ⟨h1, eh1⟩ : ∃ h1, h1 = ((((h.new (.cells (gL (N : Int) (K : Int) sl) 0)).new (.cells [.int .i64 0, .int .i64 0, .slice none 0 0] 0)).new (.cells [.int .i64 (N : Int), .int .i64 (K : Int), .slice none 0 0] 0)).new (.cells (List.replicate N (.slice none 0 0)) 0)).new (.cells [slF (h.next + 3) N] 0) := ⟨_, rfl⟩
  have hf1 : Fr h h1 := by rw [eh1]; exact ((((Fr.new _ _).newR _).newR _).newR _).newR _
  have hn1 : h1.next = h.next + 5 := by rw [eh1]; simp
  have g0 : h1.get h.next = some (.cells (gL (N : Int) (K : Int) sl) 0) := by rw [eh1]; simp (disch := omega)
  have g1 : h1.get (h.next + 1) = some (.cells [.int .i64 0, .int .i64 0, .slice none 0 0] 0) := by rw [eh1]; simp (disch := omega)
  have g2 : h1.get (h.next + 2) = some (.cells [.int .i64 (N : Int), .int .i64 (K : Int), .slice none 0 0] 0) := by rw [eh1]; simp (disch := omega)
  have g3 : h1.get (h.next + 3) = some (.cells (List.replicate N (.slice none 0 0)) 0) := by rw [eh1]; simp (disch := omega)
  have g4 : h1.get (h.next + 4) = some (.cells [slF (h.next + 3) N] 0) := by rw [eh1]; simp (disch := omega)
  have hv := hrow.slvM
  have hslo : ∀ b o n c, sl = .slice (some ⟨b, o, none⟩) n c → b < h.next := fun b o n c e => hrow.lt e
  have := weak1 es hs hsz N K hN (K : Int) hin sl h.next (h.next + 4) (h.next + 3) (ptr (h.next + 1)) (ptr (h.next + 2)) h1 (hrow.fr hf1) hslo g0 g4 (by omega) (by omega) (by omega) (P := P) (fun h2 avs hf2 hA hal haft => by
    have hfn2 := hf2.next
    rw [s_judge_weak_0]
    have h3 := weak3 es hs hsz N K hN hK0 hK (K : Int) rfl hin hlab sl h.next (h.next + 1) (h.next + 2) (h.next + 4) (h.next + 3) 0 avs hal h2 ((hrow.fr hf1).frD hf2 (fun b o n c e => by have := hslo b o n c e; omega)) hslo ((hf2.get _ (by omega) (by omega)).trans g0) ((hf2.get _ (by omega) (by omega)).trans g4) hA haft (by omega) (by omega) (by omega) (by omega) (by omega) (P := P)
      (fun h3 slv ob hf3 gp3 hg3 hob => by
        have hfn3 := hf3.next
        rw [s_judge_weak_2]
        have hv3 := hg3.slv
        have gr3 : h3.get (h.next + 1) = some (.cells [.int .i64 0, .int .i64 0, .slice none 0 0] 0) := (hf3.get _ (by omega) (by omega)).trans ((hf2.get _ (by omega) (by omega)).trans g1)
        have hfr : Fr h (h3.put (h.next + 1) (.cells (gL (N : Int) (K : Int) slv) 0)) := ⟨by simp; omega, fun i hi => by
          rw [get_put_ne' (by omega), hf3.get _ (by omega) (by omega), hf2.get _ (by omega) (by omega), hf1.get _ hi]⟩
        refine OkV.eq (OkV.val (hP _ slv ob hfr (hg3.frD ((FrD.refl (fun j => j = h.next + 1) _).put (.inr rfl) _) (fun q e => by have := hob q e; omega)) (fun q e => by have := hob q e; omega))) ?_
        simp (disch := omega) [gp3, gr3, hv3.take, hv3.clean, hv3.cell]) N 0 h2 (.slice none 0 0) none (by omega) (.refl _ _) ((hf2.get _ (by omega) (by omega)).trans g2) (by simpa [wRows] using Grow.nil) (by simp)
    refine OkV.eq (h3.lp (l_judge_weak_3 F _ _ _ _ _ _ _)) ?_
    have := (hf2.get (h.next) (by omega) (by omega)).trans g0
    simp (disch := omega) [this]) N 0 h1 _ (by omega) (.refl _ _) g3 (by simp) (fun k hk => by omega)
  refine OkV.eq (this.lp (l_judge_weak_1 F _ _ _ _ _ _ _)) ?_
  rw [eh1]
  simp (disch := first | omega | (simp only [new_next, put_next]; done) | (simp only [new_next, put_next]; omega)) [fillL, hv.clean, hv.take, make_nils (show N ≤ 1000 by omega)]
end Go.Ideal.J
set_option linter.unusedSimpArgs false
set_option linter.unusedVariables false
set_option maxRecDepth 10000
namespace Go.Ideal.J
open Go Go.Ideal
/-- a graph that is formed. -/
structure Formed (st lb : Int) (es : List Ed) : Prop where
  st1 : 1 ≤ st
  st2 : st ≤ 60
  lb1 : 1 ≤ lb
  lb2 : lb ≤ 41
  len : es.length ≤ 400
  ok : ∀ x ∈ es, 0 ≤ x.1 ∧ x.1 < st ∧ 0 ≤ x.2.1 ∧ x.2.1 < st ∧ 0 ≤ x.2.2 ∧ x.2.2 < lb
  next : ∀ i x y, es[i]? = some x → es[i + 1]? = some y → lessE x y = true
theorem Formed.inB {st lb : Int} {es : List Ed} (f : Formed st lb es) : inB st es := fun x hx => by have := f.ok x hx; exact ⟨this.1, this.2.1, this.2.2.1, this.2.2.2.1⟩
theorem lessE_iff (a b : Ed) : lessE a b = true ↔ a.1 < b.1 ∨ (a.1 = b.1 ∧ (a.2.2 < b.2.2 ∨ (a.2.2 = b.2.2 ∧ a.2.1 < b.2.1))) := by
  unfold lessE
  by_cases h1 : a.1 = b.1
  · by_cases h2 : a.2.2 = b.2.2
    · simp [h1, h2]
    · simp [h1, h2]
  · simp [h1]
theorem lessE_trans {a b c : Ed} (h1 : lessE a b = true) (h2 : lessE b c = true) : lessE a c = true := by
  rw [lessE_iff] at *; omega
theorem Formed.sorted {st lb : Int} {es : List Ed} (f : Formed st lb es) : es.Pairwise fun x y => lessE x y = true := by
  have key : ∀ (l : List Ed), (∀ i x y, l[i]? = some x → l[i + 1]? = some y → lessE x y = true) → l.Pairwise fun x y => lessE x y = true := by
    intro l
    induction l with
    | nil => intro _; exact .nil
    | cons a l ih =>
      intro h
      have ihl := ih fun i x y hx hy => h (i + 1) x y (by simpa using hx) (by simpa using hy)
      refine List.pairwise_cons.2 ⟨?_, ihl⟩
      cases l with
      | nil => intro b hb; cases hb
      | cons b l =>
        have hab := h 0 a b rfl rfl
        intro c hc
        rcases List.mem_cons.1 hc with rfl | hc
        · exact hab
        · exact lessE_trans hab ((List.pairwise_cons.1 ihl).1 c hc)
  exact key es f.next
theorem Formed.sortedF {st lb : Int} {es : List Ed} (f : Formed st lb es) : SortedF es := f.sorted.imp fun h => by rw [lessE_iff] at h; omega
theorem chk_iff (st lb : Int) (es : List Ed) : chk st lb es = true ↔ Formed st lb es := by
  have key : ∀ n, n ≤ es.length → (ckN st lb es n = true ↔ ∀ i, es.length - n ≤ i → okAt st lb es i = true) := by
    intro n
    induction n with
    | zero =>
      intro _
      constructor
      · intro _ i hi
        unfold okAt
        rw [List.getElem?_eq_none (by omega)]
      · intro _; rfl
    | succ n ih =>
      intro hn
      show (okAt st lb es (es.length - (n + 1)) && ckN st lb es n) = true ↔ _
      rw [Bool.and_eq_true, ih (by omega)]
      constructor
      · rintro ⟨h1, h2⟩ i hi
        by_cases e : i = es.length - (n + 1)
        · rw [e]; exact h1
        · exact h2 i (by omega)
      · intro h
        exact ⟨h _ (by omega), fun i hi => h i (by omega)⟩
  have key2 : (ckN st lb es es.length = true) ↔ ((∀ x ∈ es, 0 ≤ x.1 ∧ x.1 < st ∧ 0 ≤ x.2.1 ∧ x.2.1 < st ∧ 0 ≤ x.2.2 ∧ x.2.2 < lb) ∧ ∀ i x y, es[i]? = some x → es[i + 1]? = some y → lessE x y = true) := by
    rw [key es.length (Nat.le_refl _)]
    constructor
    · intro h
      refine ⟨fun x hx => ?_, fun i x y hx hy => ?_⟩
      · obtain ⟨i, hi⟩ := List.mem_iff_getElem?.1 hx
        have := h i (by omega)
        unfold okAt at this
        rw [hi] at this
        simp only [Bool.and_eq_true, Bool.not_eq_true', badE, Bool.or_eq_false_iff, decide_eq_false_iff_not] at this
        omega
      · have := h (i + 1) (by omega)
        unfold okAt at this
        rw [hy] at this
        simp only [Bool.and_eq_true, Nat.add_sub_cancel, hx] at this
        simpa using this.2
    · rintro ⟨h1, h2⟩ i _
      unfold okAt
      cases hx : es[i]? with
      | none => rfl
      | some x =>
        have hb := h1 x (List.mem_of_getElem? hx)
        have hbad : badE st lb x = false := by
          simp only [badE, Bool.or_eq_false_iff, decide_eq_false_iff_not]; omega
        simp only [hbad, Bool.not_false, Bool.true_and, Bool.or_eq_true, decide_eq_true_eq]
        by_cases e : i = 0
        · exact .inl e
        · right
          cases hy : es[i - 1]? with
          | none => rfl
          | some y => exact h2 (i - 1) y x hy (by rw [show i - 1 + 1 = i by omega]; exact hx)
  unfold chk
  simp only [Bool.and_eq_true, Bool.not_eq_true', Bool.or_eq_false_iff, decide_eq_false_iff_not, key2]
  constructor
  · rintro ⟨⟨⟨⟨⟨h1, h2⟩, h3⟩, h4⟩, h5⟩, h6, h7⟩
    exact ⟨by omega, by omega, by omega, by omega, by omega, h6, h7⟩
  · rintro ⟨h1, h2, h3, h4, h5, h6, h7⟩
    exact ⟨⟨⟨⟨⟨by omega, by omega⟩, by omega⟩, by omega⟩, by omega⟩, h6, h7⟩

/-- what `Weak` answers. -/
abbrev pairV (a b : Value) : Value := .tuple ⟨[a, b]⟩
abbrev nilG : Value := .agg ⟨[.int .i64 0, .int .i64 0, .slice none 0 0]⟩
/-- a graph in memory. -/
structure GrV (h : H) (v : Value) (st lb : Int) (es : List Ed) : Prop where
  ex : ∃ sl, v = gV st lb sl ∧ Row h 3 sl (es.map edL)
/-- the answer to Weak. -/
def WeakA (st lb : Int) (es : List Ed) (v : Value) (h' : H) : Prop :=
  (chk st lb es = false ∧ v = pairV nilG (.int .i64 2)) ∨ (chk st lb es = true ∧ 400 < (wE es st.toNat lb.toNat).length ∧ v = pairV nilG (.int .i64 3)) ∨
  (chk st lb es = true ∧ (wE es st.toNat lb.toNat).length ≤ 400 ∧ ∃ sl, v = pairV (gV st lb sl) (.int .i64 0) ∧ Row h' 3 sl ((wE es st.toNat lb.toNat).map edL))
theorem jWeak_ok (st lb : Int) (es : List Ed) (sl : Value) (h : H) (hrow : Row h 3 sl (es.map edL)) : Ret F (fnV n_judge_Weak) [gV st lb sl] h fun v h' => Fr h h' ∧ WeakA st lb es v h' := by
  refine Ret.fn F_judge_Weak 1 (by decide) ?_
  rw [s_judge_Weak]
  have hv := hrow.slvM
  obtain ⟨h2, eh2⟩ : ∃ h2, h2 = (h.new (.cells (gL st lb sl) 0)).new (.cells [.int .i64 0, .int .i64 0, .slice none 0 0] 0) := ⟨_, rfl⟩
  have hf2 : Fr h h2 := by rw [eh2]; exact (Fr.new _ _).newR _
  have hn2 : h2.next = h.next + 2 := by rw [eh2]; simp
  have g0 : h2.get h.next = some (.cells (gL st lb sl) 0) := by rw [eh2]; simp (disch := omega)
  have g1 : h2.get (h.next + 1) = some (.cells [.int .i64 0, .int .i64 0, .slice none 0 0] 0) := by rw [eh2]; simp (disch := omega)
  obtain ⟨h3, ec, hf3⟩ := judgeCheck_ok st lb sl es h2 (hrow.fr hf2)
  obtain ⟨P, hPd⟩ : ∃ P : Value → H → Prop, P = fun v h' => Fr h h' ∧ WeakA st lb es v h' := ⟨_, rfl⟩
  rw [← hPd]
  have g0' := (hf3.get _ (by omega)).trans g0
  have g1' := (hf3.get _ (by omega)).trans g1
  have hfn3 := hf3.next
  have hfr3 : ∀ o, Fr h (h3.put (h.next + 1) o) := fun o => (hf2.trans hf3).put (by omega) _
  simp (disch := omega) [hv.clean, hv.take]
  rw [← eh2, ec]
  cases hc : chk st lb es with
  | false =>
    refine OkV.eq (OkV.val (v := pairV nilG (.int .i64 2)) (h := h3.put (h.next + 1) (.cells [.int .i64 0, .int .i64 0, .slice none 0 0] 0)) ?_) ?_
    · rw [hPd]; exact ⟨hfr3 _, .inl ⟨hc, rfl⟩⟩
    · simp (disch := first | omega | (simp only [new_next, put_next]; done) | (simp only [new_next, put_next]; omega)) [erk, fillL, g1']
  | true =>
    have f := (chk_iff st lb es).1 hc
    obtain ⟨N, rfl⟩ := Int.eq_ofNat_of_zero_le (show 0 ≤ st by have := f.st1; omega)
    obtain ⟨K, rfl⟩ := Int.eq_ofNat_of_zero_le (show 0 ≤ lb by have := f.lb1; omega)
    have := f.st2; have := f.lb2; have := f.lb1
    simp (disch := omega) [erk, g0', hv.clean, hv.take]
    refine OkV.call (jweak_ok es f.sortedF (by have := f.len; omega) N K (by omega) (by omega) (by omega) f.inB (fun x hx => by have := f.ok x hx; exact ⟨this.2.2.2.2.1, this.2.2.2.2.2⟩) sl h3 ((hrow.fr hf2).fr hf3) (P := fun v h' => ∃ slv ob, v = gV (N : Int) (K : Int) slv ∧ Fr h3 h' ∧ Grow h' 3 slv ((wE es N K).map edL) ob ∧ ∀ q, ob = some q → h3.next ≤ q) (fun h' slv ob q1 q2 q3 => ⟨slv, ob, rfl, q1, q2, q3⟩)) ?_
    rintro v h4 ⟨slv, ob, rfl, hf4, hg4, hob4⟩
    have hv4 := hg4.slvM
    have hfn4 := hf4.next
    have g1'' := (hf4.get _ (by omega)).trans g1'
    have hfr4 : ∀ o o', Fr h ((h4.new o).put (h.next + 1) o') := fun o o' => (((hf2.trans hf3).trans hf4).newR _).put (by omega) _
    by_cases hlen : 400 < (wE es N K).length
    · refine OkV.eq (OkV.val (v := pairV nilG (.int .i64 3)) (h := (h4.new (.cells (gL (N : Int) (K : Int) slv) 0)).put (h.next + 1) (.cells [.int .i64 0, .int .i64 0, .slice none 0 0] 0)) ?_) ?_
      · rw [hPd]; exact ⟨hfr4 _ _, .inr (.inl ⟨hc, hlen, rfl⟩)⟩
      · simp (disch := first | omega | (simp only [new_next, put_next]; done) | (simp only [new_next, put_next]; omega)) [fillL, g1'', hv4.take, hv4.one, hv4.clean, hv4.cell, hv4.len, hlen]
    · refine OkV.eq (OkV.val (v := pairV (gV (N : Int) (K : Int) slv) (.int .i64 0)) (h := (h4.new (.cells (gL (N : Int) (K : Int) slv) 0)).put (h.next + 1) (.cells (gL (N : Int) (K : Int) slv) 0)) ?_) ?_
      · rw [hPd]; exact ⟨hfr4 _ _, .inr (.inr ⟨hc, by simpa using hlen, slv, rfl, (hg4.row (by omega)).frD (((FrD.refl (fun j => j = h.next + 1) _).new _).put (.inr rfl) _) (fun b o n c e => by have := hob4 b (hg4.block e); omega)⟩)⟩
      · simp (disch := first | omega | (simp only [new_next, put_next]; done) | (simp only [new_next, put_next]; omega)) [fillL, g1'', hv4.take, hv4.one, hv4.clean, hv4.cell, hv4.len, hlen]
end Go.Ideal.J
set_option linter.unusedSimpArgs false
set_option linter.unusedVariables false
set_option maxRecDepth 10000
set_option maxHeartbeats 2000000
namespace Go.Ideal.J
open Go Go.Ideal

/-- the states behind silent steps, as marks. -/
def ByA (es : List Ed) (N : Nat) (h : H) (bvs : List Value) (bot top i : Nat) : Prop :=
  ∀ k : Nat, k < i → ∃ (q : Nat) (bs : List Bool), bvs[k]? = some (slF q N) ∧ h.get q = some (.cells (boolsL bs) 0) ∧ bs.length = N ∧ (∀ c, bs[c]? = some true ↔ Sil es k c) ∧ bot < q ∧ q < top
theorem ByA.frD {es : List Ed} {N : Nat} {h h' : H} {bvs : List Value} {bot top i : Nat} {D : Nat → Prop} (b : ByA es N h bvs bot top i) (hf : FrD D h h') (ht : top ≤ h.next) (hd : ∀ q, bot < q → q < top → ¬ D q) : ByA es N h' bvs bot top i := fun k hk => by
  obtain ⟨q, bs, h1, h2, h3, h4, h5, h6⟩ := b k hk
  exact ⟨q, bs, h1, (hf.get _ (by omega) (hd q h5 h6)).trans h2, h3, h4, h5, h6⟩
/-- one round of or. -/
theorem or_step {bs bt : List Bool} {N c : Nat} {U V : Nat → Prop} (hl : bs.length = N) (hlt : bt.length = N) (hc : c < N) (hb : ∀ c', bs[c']? = some true ↔ c' < N ∧ (U c' ∨ (c' < c ∧ V c'))) (ht : ∀ c', bt[c']? = some true ↔ V c') (x : Bool) (hx : x = true ↔ (bs[c]? = some true ∨ bt[c]? = some true)) :
    ∀ c', (bs.set c x)[c']? = some true ↔ c' < N ∧ (U c' ∨ (c' < c + 1 ∧ V c')) := by
  intro c'
  rw [List.getElem?_set]
  by_cases e : c = c'
  · subst e
    rw [if_pos rfl, if_pos (by omega)]
    rw [hb, ht] at hx
    constructor
    · intro e
      rcases hx.1 (Option.some.inj e) with ⟨_, h | h⟩ | h
      · exact ⟨hc, .inl h⟩
      · exact ⟨hc, .inr ⟨by omega, h.2⟩⟩
      · exact ⟨hc, .inr ⟨by omega, h⟩⟩
    · rintro ⟨_, h⟩
      rw [hx.2 (h.elim (fun h => .inl ⟨hc, .inl h⟩) (fun h => .inr h.2))]
  · rw [if_neg e, hb]
    constructor
    · rintro ⟨h1, h | h⟩
      · exact ⟨h1, .inl h⟩
      · exact ⟨h1, .inr ⟨by omega, h.2⟩⟩
    · rintro ⟨h1, h | h⟩
      · exact ⟨h1, .inl h⟩
      · exact ⟨h1, .inr ⟨by omega, h.2⟩⟩

theorem rweak10 (es : List Ed) (N : Nat) (hN : N ≤ 60) (lb : Int) (sl tv : Value) (bvs : List Value) (a l : Nat) (ha : a < N) (x : Ed) (fr to : Nat) (hfr : x.1 = (fr : Int)) (hto : x.2.1 = (to : Int)) (hfrN : fr < N) (htoN : to < N) (t2 t6 t10 : Value) (pg px T bot top : Nat) (h0 : H)
    (hgg : h0.get pg = some (.cells (gL (N : Int) lb sl) 0)) (hpx : h0.get px = some (.cells (edL x) 0)) (hpg : pg < h0.next) (hpxl : px < h0.next) (hT1 : T ≠ pg) (hT2 : T ≠ px) (hT3 : ∀ q, bot < q → q < top → q ≠ T) (htop : top ≤ h0.next) (hrow : Row h0 1 tv (bvs.map fun v => [v])) (htv : ∀ b o n c, tv = .slice (some ⟨b, o, none⟩) n c → b ≠ T) (hbl : bvs.length = N) (hby : ByA es N h0 bvs bot top N) (U : Nat → Prop) {P : Value → H → Prop}
    (hP : ∀ h' bs', FrD (fun j => j = T) h0 h' → h'.get T = some (.cells (boolsL bs') 0) → bs'.length = N → (∀ c, bs'[c]? = some true ↔ c < N ∧ (U c ∨ (x.2.2 = (l : Int) ∧ Sil es a fr ∧ Sil es to c))) → OkV (sh (rI F) c_cabotageref22_Weak_9 (K_cabotageref22_Weak_9 (rI F)) (setL [p1, p2, p4, p6, p7, p8, p9, p10] [ptr pg, t2, tv, t6, .int .i64 (a : Int), .int .i64 (l : Int), slF T N, t10]) h') P) :
    ∀ (m c : Nat) (h : H) (bs : List Bool), c + m = N → (¬ (x.2.2 = (l : Int) ∧ Sil es a fr) → c = 0) → FrD (fun j => j = T) h0 h → T < h.next → h.get T = some (.cells (boolsL bs) 0) → bs.length = N → (∀ c', bs[c']? = some true ↔ c' < N ∧ (U c' ∨ (c' < c ∧ Sil es to c'))) →
    OkV (sh (rI F) c_cabotageref22_Weak_10 (K_cabotageref22_Weak_10 (rI F)) (setL [p1, p2, p4, p6, p7, p8, p9, p10, p11, p12] [ptr pg, t2, tv, t6, .int .i64 (a : Int), .int .i64 (l : Int), slF T N, t10, ptr px, .int .i64 (c : Int)]) h) P := by
  intro m
  induction m with
  | zero =>
    intro c h bs hc hcond hf hTl hgT hbs hinv
    have e : c = N := by omega
    subst e
    have gpg : h.get pg = some (.cells (gL (c : Int) lb sl) 0) := (hf.get _ (by omega) (by omega)).trans hgg
    rw [s_cabotageref22_Weak_10]
    simp (disch := omega) [gpg]
    refine hP h bs hf hgT hbs fun c' => (hinv c').trans ?_
    have hc0 : x.2.2 = (l : Int) ∧ Sil es a fr := by
      by_cases h : x.2.2 = (l : Int) ∧ Sil es a fr
      · exact h
      · have := hcond h; omega
    constructor
    · rintro ⟨h1, h2 | h2⟩
      · exact ⟨h1, .inl h2⟩
      · exact ⟨h1, .inr ⟨hc0.1, hc0.2, h2.2⟩⟩
    · rintro ⟨h1, h2 | h2⟩
      · exact ⟨h1, .inl h2⟩
      · exact ⟨h1, .inr ⟨h1, h2.2.2⟩⟩
  | succ m ih =>
    intro c h bs hc hcond hf hTl hgT hbs hinv
    have hcN : c < N := by omega
    have hfn := hf.next
    have gpg : h.get pg = some (.cells (gL (N : Int) lb sl) 0) := (hf.get _ (by omega) (by omega)).trans hgg
    have gpx : h.get px = some (.cells (edL x) 0) := (hf.get _ (by omega) (by omega)).trans hpx
    obtain ⟨qa, ba, a1, a2, a3, a4, a5, a6⟩ := hby a ha
    obtain ⟨qt, bt, b1, b2, b3, b4, b5, b6⟩ := hby to htoN
    have ga : h.get qa = some (.cells (boolsL ba) 0) := (hf.get _ (by omega) (hT3 _ a5 a6)).trans a2
    have gt : h.get qt = some (.cells (boolsL bt) 0) := (hf.get _ (by omega) (hT3 _ b5 b6)).trans b2
    have hrow' := hrow.frD hf htv
    obtain ⟨u1, o1, cs1, e1, hv1, hb1, hg1, ht1⟩ := hrow'.index (i := a) (r := [slF qa N]) (by rw [List.getElem?_map, a1]; rfl)
    obtain ⟨u2, o2, cs2, e2, hv2, hb2, hg2, ht2⟩ := hrow'.index (i := to) (r := [slF qt N]) (by rw [List.getElem?_map, b1]; rfl)
    have r1 : takeC 1 (dropN fr (boolsL ba)) = some [.bool ba[fr]] := takeC_at (by simp [a3, hfrN]) rfl
    have r2 : takeC 1 (dropN c (boolsL bt)) = some [.bool bt[c]] := takeC_at (by simp [b3, hcN]) rfl
    have r3 : takeC 1 (dropN c (boolsL bs)) = some [.bool bs[c]] := takeC_at (by simp [hbs, hcN]) rfl
    have hw : ∀ b : Bool, writeAt (boolsL bs) c [.bool b] = some (boolsL (bs.set c b)) := fun b => by
      rw [writeAt_at (by simpa [hbs] using hcN)]; simp [List.map_set]
    have hbsc : bs[c]? = some bs[c] := List.getElem?_eq_getElem (by omega)
    have hbtc : bt[c]? = some bt[c] := List.getElem?_eq_getElem (by omega)
    have hbaf : ba[fr] = true ↔ Sil es a fr := by rw [← a4 fr, List.getElem?_eq_getElem (by omega)]; simp
    have hnext : ∀ b : Bool, (b = true ↔ (bs[c]? = some true ∨ bt[c]? = some true)) → x.2.2 = (l : Int) ∧ Sil es a fr → OkV (lp (rI F) [p1, p2, p4, p6, p7, p8, p9, p10, p11, p12] c_cabotageref22_Weak_10 (kBlk 8 (kBlk 7 (kSeq (rI F) c_cabotageref22_Weak_9 [p1, p2, p4, p6, p7, p8, p9, p10] (K_cabotageref22_Weak_9 (rI F))))) [ptr pg, t2, tv, t6, .int .i64 (a : Int), .int .i64 (l : Int), slF T N, t10, ptr px, .int .i64 ((c : Int) + 1)] (h.put T (.cells ((boolsL bs).set c (.bool b)) 0))) P := by
      intro b hb hcnd
      have := ih (c + 1) (h.put T (.cells (boolsL (bs.set c b)) 0)) (bs.set c b) (by omega) (fun h => absurd hcnd h) (hf.put (.inr rfl) _) (by simpa using hTl) (get_put_eq rfl) (by simpa using hbs) (or_step hbs b3 hcN hinv b4 b hb)
      have := this.lp (l_cabotageref22_Weak_10 F _ _ _ _ _ _ _ _ _ _ _)
      rw [show boolsL (bs.set c b) = (boolsL bs).set c (.bool b) by simp [List.map_set]] at this
      exact this
    obtain ⟨x1, x2, x3⟩ := x
    obtain rfl : x1 = (fr : Int) := hfr
    obtain rfl : x2 = (to : Int) := hto
    rw [s_cabotageref22_Weak_10]
    by_cases c1 : x3 = (l : Int)
    · by_cases c2 : ba[fr] = true
      · by_cases c3 : bs[c] = true
        · refine OkV.eq (hnext true (by simp [hbsc, c3]) ⟨c1, hbaf.1 c2⟩) ?_
          simp (disch := first | omega | (simp only [new_next, put_next]; done) | (simp only [new_next, put_next]; omega)) [gpg, gpx, hcN, c1, hv1, hg1, ht1, ga, hfrN, r1, c2, hgT, r3, c3, hw, i64_add]
        · have c3 : bs[c] = false := by simpa using c3
          refine OkV.eq (hnext bt[c] (by simp [hbsc, hbtc, c3]) ⟨c1, hbaf.1 c2⟩) ?_
          simp (disch := first | omega | (simp only [new_next, put_next]; done) | (simp only [new_next, put_next]; omega)) [gpg, gpx, hcN, c1, hv1, hg1, ht1, ga, hfrN, r1, c2, hgT, r3, c3, hw, i64_add, hv2, hg2, ht2, gt, r2]
      · have c2 : ba[fr] = false := by simpa using c2
        have hns : ¬ Sil es a fr := fun h => by rw [hbaf.2 h] at c2; cases c2
        obtain rfl := hcond fun h => hns h.2
        refine OkV.eq (hP h bs hf hgT hbs fun c' => (hinv c').trans ?_) ?_
        · constructor
          · rintro ⟨h1, h2 | h2⟩
            · exact ⟨h1, .inl h2⟩
            · exact absurd h2.1 (by omega)
          · rintro ⟨h1, h2 | h2⟩
            · exact ⟨h1, .inl h2⟩
            · exact absurd h2.2.1 hns
        · simp (disch := first | omega | (simp only [new_next, put_next]; done) | (simp only [new_next, put_next]; omega)) [gpg, gpx, hcN, c1, hv1, hg1, ht1, ga, hfrN, r1, c2]
    · obtain rfl := hcond fun h => c1 h.1
      refine OkV.eq (hP h bs hf hgT hbs fun c' => (hinv c').trans ?_) ?_
      · constructor
        · rintro ⟨h1, h2 | h2⟩
          · exact ⟨h1, .inl h2⟩
          · exact absurd h2.1 (by omega)
        · rintro ⟨h1, h2 | h2⟩
          · exact ⟨h1, .inl h2⟩
          · exact absurd h2.1 c1
      · simp (disch := first | omega | (simp only [new_next, put_next]; done) | (simp only [new_next, put_next]; omega)) [gpg, gpx, hcN, c1]
end Go.Ideal.J
set_option linter.unusedSimpArgs false
set_option linter.unusedVariables false
set_option maxRecDepth 10000
set_option maxHeartbeats 2000000
namespace Go.Ideal.J
open Go Go.Ideal

theorem rweak8 (es : List Ed) (hsz : es.length ≤ 1000) (N : Nat) (hN : N ≤ 60) (hin : inB (N : Int) es) (lb : Int) (sl tv : Value) (bvs : List Value) (a l : Nat) (ha : a < N) (t2 t6 : Value) (pg T bot top : Nat) (h0 : H)
    (hrow0 : Row h0 3 sl (es.map edL)) (hsl : ∀ b o n c, sl = .slice (some ⟨b, o, none⟩) n c → b ≠ T) (hgg : h0.get pg = some (.cells (gL (N : Int) lb sl) 0)) (hpg : pg < h0.next) (hT1 : T ≠ pg) (hT3 : ∀ q, bot < q → q < top → q ≠ T) (htop : top ≤ h0.next) (hTl : T < h0.next) (hrow : Row h0 1 tv (bvs.map fun v => [v])) (htv : ∀ b o n c, tv = .slice (some ⟨b, o, none⟩) n c → b ≠ T) (hbl : bvs.length = N) (hby : ByA es N h0 bvs bot top N) {P : Value → H → Prop}
    (hP : ∀ h' bs', FrD (fun j => j = T) h0 h' → h'.get T = some (.cells (boolsL bs') 0) → bs'.length = N → (∀ c, bs'[c]? = some true ↔ c < N ∧ ∃ x ∈ es, x.2.2 = (l : Int) ∧ Sil es a x.1.toNat ∧ Sil es x.2.1.toNat c) → OkV (sh (rI F) c_cabotageref22_Weak_7 (K_cabotageref22_Weak_7 (rI F)) (setL [p1, p2, p4, p6, p7, p8, p9] [ptr pg, t2, tv, t6, .int .i64 (a : Int), .int .i64 (l : Int), slF T N]) h') P) :
    ∀ (m j : Nat) (h : H) (bs : List Bool), j + m = es.length → FrD (fun j => j = T) h0 h → h.get T = some (.cells (boolsL bs) 0) → bs.length = N → (∀ c, bs[c]? = some true ↔ c < N ∧ ∃ x ∈ es.take j, x.2.2 = (l : Int) ∧ Sil es a x.1.toNat ∧ Sil es x.2.1.toNat c) →
    OkV (sh (rI F) c_cabotageref22_Weak_8 (K_cabotageref22_Weak_8 (rI F)) (setL [p1, p2, p4, p6, p7, p8, p9, p10] [ptr pg, t2, tv, t6, .int .i64 (a : Int), .int .i64 (l : Int), slF T N, .int .i64 (j : Int)]) h) P := by
  intro m
  induction m with
  | zero =>
    intro j h bs hj hf hgT hbs hinv
    have e : j = es.length := by omega
    subst e
    rw [List.take_length] at hinv
    have gpg : h.get pg = some (.cells (gL (N : Int) lb sl) 0) := (hf.get _ (by omega) (by omega)).trans hgg
    have hv := hrow0.slvM
    rw [s_cabotageref22_Weak_8]
    simp (disch := first | omega | (simp only [new_next, put_next]; done) | (simp only [new_next, put_next]; omega)) [gpg, hv.take, hv.one, hv.len]
    exact hP h bs hf hgT hbs hinv
  | succ m ih =>
    intro j h bs hj hf hgT hbs hinv
    have hjl : j < es.length := by omega
    have hfn := hf.next
    have gpg : h.get pg = some (.cells (gL (N : Int) lb sl) 0) := (hf.get _ (by omega) (by omega)).trans hgg
    have hv := hrow0.slvM
    have hx : (es.map edL)[j]? = some (edL es[j]) := by simp [hjl]
    have htk : es.take (j + 1) = es.take j ++ [es[j]] := by rw [List.take_add_one, List.getElem?_eq_getElem hjl]; rfl
    have hxin := hin _ (List.getElem_mem hjl)
    obtain ⟨b1, o, cs, e, hvi, hb, hg, htc⟩ := (hrow0.frD hf hsl).index hx
    generalize es[j] = x at *
    obtain ⟨fr, hfr⟩ := Int.eq_ofNat_of_zero_le hxin.1
    obtain ⟨to, hto⟩ := Int.eq_ofNat_of_zero_le hxin.2.2.1
    have hf1 : FrD (fun j => j = T) h0 (h.new (.cells (edL x) 0)) := hf.new _
    have := rweak10 es N hN lb sl tv bvs a l ha x fr to hfr hto (by omega) (by omega) t2 t6 (.int .i64 (j : Int)) pg h.next T bot top (h.new (.cells (edL x) 0)) ((hf1.get _ (by omega) (by omega)).trans hgg) (by simp) (by simp; omega) (by simp) hT1 (by omega) hT3 (by simp; omega) (hrow.frD hf1 htv) htv hbl (hby.frD hf1 htop hT3) (fun c => ∃ x ∈ es.take j, x.2.2 = (l : Int) ∧ Sil es a x.1.toNat ∧ Sil es x.2.1.toNat c) (P := P)
      (fun h' bs' hf' hg' hl' hi' => by
        rw [s_cabotageref22_Weak_9]
        have := ih (j + 1) h' bs' (by omega) (hf1.trans hf') hg' hl' (fun c => (hi' c).trans (by
          rw [htk]
          constructor
          · rintro ⟨h1, ⟨y, hy, hh⟩ | hh⟩
            · exact ⟨h1, y, List.mem_append.2 (.inl hy), hh⟩
            · refine ⟨h1, x, List.mem_append.2 (.inr (by simp)), hh.1, ?_, ?_⟩
              · rw [hfr]; exact hh.2.1
              · rw [hto]; exact hh.2.2
          · rintro ⟨h1, y, hy, hh⟩
            rcases List.mem_append.1 hy with hy | hy
            · exact ⟨h1, .inl ⟨y, hy, hh⟩⟩
            · rw [List.mem_singleton] at hy; subst hy
              rw [hfr, hto] at hh
              exact ⟨h1, .inr hh⟩))
        refine OkV.eq (this.lp (l_cabotageref22_Weak_8 F _ _ _ _ _ _ _ _ _)) ?_
        simp (disch := first | omega | (simp only [new_next, put_next]; done) | (simp only [new_next, put_next]; omega)) [i64_add]) N 0 (h.new (.cells (edL x) 0)) bs (by omega) (fun _ => rfl) (.refl _ _) (by simp; omega) (by rw [get_new_ne (by omega)]; exact hgT) hbs (fun c => (hinv c).trans (by simp))
    rw [s_cabotageref22_Weak_8]
    refine OkV.eq (this.lp (l_cabotageref22_Weak_10 F _ _ _ _ _ _ _ _ _ _ _)) ?_
    simp (disch := first | omega | (simp only [new_next, put_next]; done) | (simp only [new_next, put_next]; omega)) [gpg, hv.take, hv.one, hv.len, hjl, hvi, hg, htc]

theorem rweak11 (bs : List Bool) (N : Nat) (hN : bs.length = N) (a l lb : Int) (sl : Value) (rows : List Ed) (hbig : rows.length + N ≤ 1000000) (t2 t4 : Value) (pg po q e cap : Nat) (ob0 : Option Nat) (h0 : H) (hgg : h0.get pg = some (.cells (gL (N : Int) lb sl) 0)) (hpg : pg < h0.next) (hpgo : pg ≠ po) (hog : ob0 ≠ some pg) (hb : h0.get q = some (.cells (boolsL bs) e)) (hbl : q < h0.next) (hbp : q ≠ po) (hbo : ob0 ≠ some q) (hop : ob0 ≠ some po) (hpo : po < h0.next) (hobl : ∀ q, ob0 = some q → q < h0.next) {P : Value → H → Prop}
    (hP : ∀ h' slv' ob', FrD (fun j => j = po ∨ ob0 = some j) h0 h' → h'.get po = some (.cells [.int .i64 (N : Int), .int .i64 lb, slv'] 0) → Grow h' 3 slv' ((rows ++ marksTo bs a l N).map edL) ob' → (∀ q, ob' = some q → ob0 = some q ∨ h0.next ≤ q) →
      OkV (sh (rI F) c_cabotageref22_Weak_6 (K_cabotageref22_Weak_6 (rI F)) (setL [p1, p2, p4, p6, p7, p8] [ptr pg, t2, t4, ptr po, .int .i64 a, .int .i64 l]) h') P) :
    ∀ (m c : Nat) (h : H) (slv : Value) (ob : Option Nat), c + m = N → FrD (fun j => j = po ∨ ob0 = some j) h0 h → h.get po = some (.cells [.int .i64 (N : Int), .int .i64 lb, slv] 0) → Grow h 3 slv ((rows ++ marksTo bs a l c).map edL) ob → (∀ q, ob = some q → ob0 = some q ∨ h0.next ≤ q) →
    OkV (sh (rI F) c_cabotageref22_Weak_11 (K_cabotageref22_Weak_11 (rI F)) (setL [p1, p2, p4, p6, p7, p8, p9, p13] [ptr pg, t2, t4, ptr po, .int .i64 a, .int .i64 l, .slice (some ⟨q, 0, none⟩) N cap, .int .i64 (c : Int)]) h) P := by
  intro m
  induction m with
  | zero =>
    intro c h slv ob hc hf hgp hg hob
    have ec : c = N := by omega
    subst ec
    have gpg : h.get pg = some (.cells (gL (c : Int) lb sl) 0) := (hf.get _ (by omega) (fun h => h.elim hpgo hog)).trans hgg
    rw [s_cabotageref22_Weak_11]
    simp (disch := first | omega | (simp only [new_next, put_next]; done) | (simp only [new_next, put_next]; omega)) [gpg]
    exact hP h slv ob hf hgp hg hob
  | succ m ih =>
    intro c h slv ob hc hf hgp hg hob
    have hcN : c < N := by omega
    have hcl : c < bs.length := by omega
    have gpg : h.get pg = some (.cells (gL (N : Int) lb sl) 0) := (hf.get _ (by omega) (fun h => h.elim hpgo hog)).trans hgg
    have hb' : h.get q = some (.cells (boolsL bs) e) := (hf.get _ hbl (fun h => h.elim hbp hbo)).trans hb
    have hr : takeC 1 (dropN c (boolsL bs)) = some [.bool bs[c]] := takeC_at (by simp [hcl]) rfl
    have hsucc := marksTo_succ bs a l c
    rw [List.getElem?_eq_getElem hcl, Option.getD_some] at hsucc
    have hv := hg.slv
    rw [s_cabotageref22_Weak_11]
    by_cases hbc : bs[c] = true
    · rw [if_pos hbc] at hsucc
      simp (disch := first | omega | (simp only [new_next, put_next]; done) | (simp only [new_next, put_next]; omega)) [hcN, gpg, hb', hr, hbc, hgp, hv.take, hv.one, fillL, repeatL]
      obtain ⟨h2, eh2⟩ : ∃ h2, h2 = h.new (.cells [.int .i64 a, .int .i64 (c : Int), .int .i64 l] 0) := ⟨_, rfl⟩
      have hlen := marksTo_len bs a l c
      obtain ⟨h3, slv', ea, hg3, hn3, hf3⟩ := append_one (h := h2) (sz := 3) (bytes := 24) (r := edL (a, (c : Int), l)) (b := h.next) (e := 0) (by omega) (by decide) (by rw [eh2]; exact hg.fr (.new _ _)) (by rw [eh2]; simp) rfl rfl rfl (by rw [List.length_map, List.length_append]; omega)
      have hn2 : h2.next = h.next + 1 := by rw [eh2]; simp
      have hfn := hf.next
      have hv3 := hg3.slv
      have hopo : ob ≠ some po := fun e => (hob _ e).elim hop (by omega)
      have gpo : h3.get po = some (.cells [.int .i64 (N : Int), .int .i64 lb, slv] 0) := by
        rw [hf3.get _ (by omega) hopo, eh2, get_new_ne (by omega)]; exact hgp
      rw [← eh2]
      simp (disch := first | omega | (simp only [new_next, put_next]; done) | (simp only [new_next, put_next]; omega)) [ea, gpo, hv3.cells, hv3.cell]
      rw [s_cabotageref22_Weak_12]
      have hf4 : FrD (fun j => j = po ∨ ob0 = some j) h0 (h3.put po (.cells [.int .i64 (N : Int), .int .i64 lb, slv'] 0)) := by
        refine ⟨by simp; omega, fun i hi hd => ?_⟩
        rw [get_put_ne' (fun e => hd (.inl e)), hf3.get _ (by omega) (fun e => (hob _ e).elim (fun e => hd (.inr e)) (by omega)), eh2, get_new_ne (by omega)]
        exact hf.get _ hi hd
      have := ih (c + 1) (h3.put po (.cells [.int .i64 (N : Int), .int .i64 lb, slv'] 0)) slv' (some h2.next) (by omega) hf4 (get_put_eq rfl) (by
        rw [hsucc, ← List.append_assoc, List.map_append]
        exact hg3.frD ((FrD.refl (fun j => j = po) _).put (.inr rfl) _) (fun q e => by cases e; omega)) (fun q e => by cases e; right; omega)
      refine OkV.eq (this.lp (l_cabotageref22_Weak_11 F _ _ _ _ _ _ _ _ _)) ?_
      simp (disch := first | omega | (simp only [new_next, put_next]; done) | (simp only [new_next, put_next]; omega)) [i64_add]
    · have hbc : bs[c] = false := by simpa using hbc
      rw [if_neg (by simp [hbc]), List.append_nil] at hsucc
      simp (disch := first | omega | (simp only [new_next, put_next]; done) | (simp only [new_next, put_next]; omega)) [hcN, gpg, hb', hr, hbc]
      rw [s_cabotageref22_Weak_12]
      have := ih (c + 1) h slv ob (by omega) hf hgp (by rw [hsucc]; exact hg) hob
      refine OkV.eq (this.lp (l_cabotageref22_Weak_11 F _ _ _ _ _ _ _ _ _)) ?_
      simp (disch := first | omega | (simp only [new_next, put_next]; done) | (simp only [new_next, put_next]; omega)) [i64_add]
end Go.Ideal.J
set_option linter.unusedSimpArgs false
set_option linter.unusedVariables false
set_option maxRecDepth 10000
set_option maxHeartbeats 2000000
namespace Go.Ideal.J
open Go Go.Ideal
theorem sil_trans {es : List Ed} {a b c : Nat} (h1 : Sil es a b) (h2 : Sil es b c) : Sil es a c := by
  induction h2 with
  | refl => exact h1
  | step h hx h0 ih => exact .step ih hx h0
theorem W_zero {es : List Ed} {n c : Nat} : W es n 0 c ↔ Sil es n c := by
  constructor
  · rintro (⟨_, h⟩ | ⟨x, hx, h1, h2, h3⟩)
    · exact h
    · exact sil_trans (.step h1 hx h2) h3
  · exact fun h => .inl ⟨rfl, h⟩
theorem W_pos {es : List Ed} {n l c : Nat} (hl : 0 < l) : W es n l c ↔ ∃ x ∈ es, x.2.2 = (l : Int) ∧ Sil es n x.1.toNat ∧ Sil es x.2.1.toNat c := by
  constructor
  · rintro (⟨h, _⟩ | ⟨x, hx, h1, h2, h3⟩)
    · omega
    · exact ⟨x, hx, h2, h1, h3⟩
  · rintro ⟨x, hx, h1, h2, h3⟩
    exact .inr ⟨x, hx, h2, h1, h3⟩
theorem sil_lt {es : List Ed} {N a c : Nat} (hin : inB (N : Int) es) (ha : a < N) (h : Sil es a c) : c < N := by
  induction h with
  | refl => exact ha
  | step h hx h0 ih => have := hin _ hx; omega
theorem flat_bools : ∀ bs : List Bool, (bs.map fun b => [Value.bool b]).flatten = boolsL bs
  | [] => rfl
  | b :: bs => by simp [flat_bools bs]

theorem rweak5 (es : List Ed) (hsz : es.length ≤ 1000) (N K : Nat) (hN : N ≤ 60) (hN0 : 0 < N) (hK : K ≤ 41) (lb : Int) (hlb : lb = (K : Int)) (hin : inB (N : Int) es) (sl tv : Value) (bvs : List Value) (a : Nat) (ha : a < N) (t2 : Value) (pg po bot top : Nat) (rows : List Ed) (hbig : rows.length + K * N + N ≤ 1000000) (h0 : H)
    (hrow0 : Row h0 3 sl (es.map edL)) (hsl : ∀ b o n c, sl = .slice (some ⟨b, o, none⟩) n c → b < pg) (hgg : h0.get pg = some (.cells (gL (N : Int) lb sl) 0)) (hpg : pg < bot) (htop : top ≤ po) (hpo : po < h0.next) (hbt : bot ≤ top) (hrow : Row h0 1 tv (bvs.map fun v => [v])) (htv : ∀ b o n c, tv = .slice (some ⟨b, o, none⟩) n c → bot < b ∧ b < top) (hbl : bvs.length = N) (hby : ByA es N h0 bvs bot top N)
    (ob0 : Option Nat) (hob0 : ∀ q, ob0 = some q → po < q ∧ q < h0.next) {P : Value → H → Prop}
    (hP : ∀ h' slv' ob', FrD (fun j => j = po ∨ ob0 = some j) h0 h' → h'.get po = some (.cells [.int .i64 (N : Int), .int .i64 lb, slv'] 0) → Grow h' 3 slv' ((rows ++ labRows N (W es a) (a : Int) K).map edL) ob' → (∀ q, ob' = some q → ob0 = some q ∨ h0.next ≤ q) →
      OkV (sh (rI F) c_cabotageref22_Weak_4 (K_cabotageref22_Weak_4 (rI F)) (setL [p1, p2, p4, p6, p7] [ptr pg, t2, tv, ptr po, .int .i64 (a : Int)]) h') P) :
    ∀ (m l : Nat) (h : H) (slv : Value) (ob : Option Nat), l + m = K → FrD (fun j => j = po ∨ ob0 = some j) h0 h → h.get po = some (.cells [.int .i64 (N : Int), .int .i64 lb, slv] 0) → Grow h 3 slv ((rows ++ labRows N (W es a) (a : Int) l).map edL) ob → (∀ q, ob = some q → ob0 = some q ∨ h0.next ≤ q) →
    OkV (sh (rI F) c_cabotageref22_Weak_5 (K_cabotageref22_Weak_5 (rI F)) (setL [p1, p2, p4, p6, p7, p8] [ptr pg, t2, tv, ptr po, .int .i64 (a : Int), .int .i64 (l : Int)]) h) P := by
  have hop : ∀ b, b < po → ¬ (b = po ∨ ob0 = some b) := fun b hb h => h.elim (by omega) fun e => by have := hob0 _ e; omega
  intro m
  induction m with
  | zero =>
    intro l h slv ob hl hf hgp hg hob
    have e : l = K := by omega
    subst e
    have gpg : h.get pg = some (.cells (gL (N : Int) lb sl) 0) := (hf.get _ (by omega) (hop _ (by omega))).trans hgg
    rw [s_cabotageref22_Weak_5]
    simp (disch := first | omega | (simp only [new_next, put_next]; done) | (simp only [new_next, put_next]; omega)) [gpg, hlb]
    exact hP h slv ob hf hgp hg hob
  | succ m ih =>
    intro l h slv ob hl hf hgp hg hob
    have hlK : l < K := by omega
    have hfn := hf.next
    have gpg : h.get pg = some (.cells (gL (N : Int) lb sl) 0) := (hf.get _ (by omega) (hop _ (by omega))).trans hgg
    obtain ⟨qa, ba, a1, a2, a3, a4, a5, a6⟩ := hby a ha
    have ga : h.get qa = some (.cells (boolsL ba) 0) := (hf.get _ (by omega) (hop _ (by omega))).trans a2
    have hrow' := hrow.frD hf (fun b o n c e => hop _ (by have := htv b o n c e; omega))
    obtain ⟨u1, o1, cs1, e1, hv1, hb1, hg1, ht1⟩ := hrow'.index (i := a) (r := [slF qa N]) (by rw [List.getElem?_map, a1]; rfl)
    obtain ⟨h1, eh1⟩ : ∃ h1, h1 = h.new (.cells [] 0) := ⟨_, rfl⟩
    have hf1 : Fr h h1 := by rw [eh1]; exact Fr.new _ _
    have hn1 : h1.next = h.next + 1 := by rw [eh1]; simp
    have hap : appended h1 1 (slF qa N) = some ((ba.map fun b => [Value.bool b]).length, (ba.map fun b => [Value.bool b]).flatten) := by
      show (h1.readN qa 0 (N * 1)).map _ = _
      rw [readN_of ((hf1.get _ (by omega)).trans ga), dropN_z, flat_bools, takeC_all (by simp) (by simp [a3])]
      simp [a3]
    have hfull : Grow h1 1 (.slice (some ⟨h.next, 0, none⟩) 0 0) [] (some h.next) := Grow.full (b := h.next) (e := 0) (rows := []) (by omega) (by rw [eh1]; simp) (by simp) (by decide)
    obtain ⟨h2, ea2, hg2, hn2, hf2, hq2⟩ := append_growX (bytes := 1) (news := ba.map fun b => [Value.bool b]) (by omega) (by decide) hfull (fun e => by have := congrArg List.length e; rw [List.length_map] at this; simp at this; rw [this] at a3; simp at a3; omega) hap (by rw [flat_bools]; simp) (fun r hr => by obtain ⟨b, _, rfl⟩ := List.mem_map.1 hr; exact ⟨rfl, rfl⟩) (by simp [a3]; omega)
    rw [List.nil_append, flat_bools] at hq2
    have hf12 : Fr h h2 := ⟨by omega, fun i hi => (hf2.get _ (by omega) (by simp; omega)).trans (hf1.get _ hi)⟩
    have hlen := labRows_len N (W es a) (a : Int) l
    have hlN : l * N ≤ K * N := Nat.mul_le_mul_right _ (by omega)
    -- what comes behind the marks
    have fin11 : ∀ (h3 : H) (bs : List Bool) (q e cap : Nat), Fr h h3 → h3.get q = some (.cells (boolsL bs) e) → bs.length = N → (∀ c, bs[c]? = some true ↔ c < N ∧ W es a l c) → h.next ≤ q → q < h3.next →
        OkV (sh (rI F) c_cabotageref22_Weak_7 (K_cabotageref22_Weak_7 (rI F)) (setL [p1, p2, p4, p6, p7, p8, p9] [ptr pg, t2, tv, ptr po, .int .i64 (a : Int), .int .i64 (l : Int), .slice (some ⟨q, 0, none⟩) N cap]) h3) P := by
      intro h3 bs q e cap hf3 hgq hbs hW hq1 hq2
      have hfn3 := hf3.next
      have hobh : ∀ q', ob = some q' → q' < h.next := fun q' e => by subst e; exact hg.lt
      rw [s_cabotageref22_Weak_7]
      have := rweak11 bs N hbs (a : Int) (l : Int) lb sl (rows ++ labRows N (W es a) (a : Int) l) (by rw [List.length_append]; omega) t2 tv pg po q e cap ob h3 ((hf3.get _ (by omega)).trans gpg) (by omega) (by omega) (fun e => by rcases hob _ e with h | h; have := hob0 _ h; omega; omega) hgq hq2 (by omega) (fun e => by have := hobh _ e; omega) (fun e => by rcases hob _ e with h | h; have := hob0 _ h; omega; omega) (by omega) (fun q' e => by have := hobh _ e; omega) (P := P)
        (fun h4 slv4 ob4 hf4 gp4 hg4 hob4 => by
          have hfn4 := hf4.next
          rw [s_cabotageref22_Weak_6]
          have := ih (l + 1) h4 slv4 ob4 (by omega) ⟨by omega, fun i hi hd => by
              rw [hf4.get _ (by omega) (fun h => h.elim (fun e => hd (.inl e)) (fun e => (hob _ e).elim (fun e => hd (.inr e)) (by omega))), hf3.get _ (by omega)]
              exact hf.get _ hi hd⟩ gp4 (by rw [labRows_succ, ← List.append_assoc, ← marks_lab hW]; exact hg4) (fun q e => by
              rcases hob4 q e with h | h
              · exact hob q h
              · right; omega)
          refine OkV.eq (this.lp (l_cabotageref22_Weak_5 F _ _ _ _ _ _ _)) ?_
          simp (disch := first | omega | (simp only [new_next, put_next]; done) | (simp only [new_next, put_next]; omega)) [i64_add]) N 0 h3 slv ob (by omega) (.refl _ _) ((hf3.get _ (by omega)).trans hgp) (by simpa [marksTo] using hg.fr hf3) (fun q e => .inl e)
      refine OkV.eq (this.lp (l_cabotageref22_Weak_11 F _ _ _ _ _ _ _ _ _)) ?_
      simp (disch := first | omega | (simp only [new_next, put_next]; done) | (simp only [new_next, put_next]; omega)) []
    have hN1 : ([] : List (List Value)).length + (ba.map fun b => [Value.bool b]).length = N := by simp [a3]
    rw [hN1] at ea2
    rw [s_cabotageref22_Weak_5]
    by_cases hl0 : 0 < l
    · have hfT : Fr h (h2.new (.cells (boolsL (List.replicate N false)) 0)) := hf12.newR _
      have hfn2 := hf12.next
      have := rweak8 es hsz N hN hin lb sl tv bvs a l ha t2 (ptr po) pg h2.next bot top (h2.new (.cells (boolsL (List.replicate N false)) 0)) ((hrow0.frD hf (fun b o n c e => hop _ (by have := hsl b o n c e; omega))).fr hfT) (fun b o n c e => by have := hsl b o n c e; omega) ((hfT.get _ (by omega)).trans gpg) (by simp; omega) (by omega) (fun q _ h => by omega) (by simp; omega) (by simp) (hrow'.fr hfT) (fun b o n c e => by have := htv b o n c e; omega) hbl
        ((hby.frD hf (by omega) (fun q _ h => hop _ (by omega))).frD (D := fun _ => False) hfT.D (by omega) (by simp)) (P := P)
        (fun h' bs' hf' hg' hl' hi' => fin11 h' bs' h2.next 0 N ⟨by have := hf'.next; simp at this; omega, fun i hi => (hf'.get _ (by simp; omega) (by omega)).trans (hfT.get _ hi)⟩ hg' hl' (fun c => (hi' c).trans (by rw [W_pos hl0])) (by omega) (by have := hf'.next; simp at this; omega)) es.length 0 (h2.new (.cells (boolsL (List.replicate N false)) 0)) (List.replicate N false) (by omega) (.refl _ _) (by simp) (by simp) (fun c => by simp [List.getElem?_replicate])
      refine OkV.eq (this.lp (l_cabotageref22_Weak_8 F _ _ _ _ _ _ _ _ _)) ?_
      have gpg2 := (hf12.get _ (by omega)).trans gpg
      simp (disch := first | omega | (simp only [new_next, put_next]; done) | (simp only [new_next, put_next]; omega)) [gpg, hlb, hlK, hv1, hg1, ht1, fillL, repeatL, ← eh1, ea2, hl0, gpg2, make_bools (show N ≤ 1000 by omega)]
    · obtain rfl : l = 0 := by omega
      have := fin11 h2 ba h1.next 1 openCap hf12 hq2 a3 (fun c => by rw [a4, W_zero]; exact ⟨fun h => ⟨sil_lt hin ha h, h⟩, fun h => h.2⟩) (by omega) (by omega)
      refine OkV.eq this ?_
      simp (disch := first | omega | (simp only [new_next, put_next]; done) | (simp only [new_next, put_next]; omega)) [gpg, hlb, hlK, hv1, hg1, ht1, fillL, repeatL, ← eh1, ea2]
end Go.Ideal.J
set_option linter.unusedSimpArgs false
set_option linter.unusedVariables false
set_option maxRecDepth 10000
set_option maxHeartbeats 2000000
namespace Go.Ideal.J
open Go Go.Ideal

theorem rweak3 (es : List Ed) (hsz : es.length ≤ 1000) (N K : Nat) (hN : N ≤ 60) (hN0 : 0 < N) (hK : K ≤ 41) (lb : Int) (hlb : lb = (K : Int)) (hin : inB (N : Int) es) (sl tv : Value) (bvs : List Value) (t2 : Value) (pg po bot top : Nat) (h0 : H)
    (hrow0 : Row h0 3 sl (es.map edL)) (hsl : ∀ b o n c, sl = .slice (some ⟨b, o, none⟩) n c → b < pg) (hgg : h0.get pg = some (.cells (gL (N : Int) lb sl) 0)) (hpg : pg < bot) (htop : top ≤ po) (hpo : po < h0.next) (hbt : bot ≤ top) (hrow : Row h0 1 tv (bvs.map fun v => [v])) (htv : ∀ b o n c, tv = .slice (some ⟨b, o, none⟩) n c → bot < b ∧ b < top) (hbl : bvs.length = N) (hby : ByA es N h0 bvs bot top N) {P : Value → H → Prop}
    (hP : ∀ h' slv' ob', FrD (fun j => j = po) h0 h' → h'.get po = some (.cells [.int .i64 (N : Int), .int .i64 lb, slv'] 0) → Grow h' 3 slv' ((wRows es N K N).map edL) ob' → (∀ q, ob' = some q → h0.next ≤ q) →
      OkV (sh (rI F) c_cabotageref22_Weak_2 (K_cabotageref22_Weak_2 (rI F)) (setL [p2, p6] [t2, ptr po]) h') P) :
    ∀ (m a : Nat) (h : H) (slv : Value) (ob : Option Nat), a + m = N → FrD (fun j => j = po) h0 h → h.get po = some (.cells [.int .i64 (N : Int), .int .i64 lb, slv] 0) → Grow h 3 slv ((wRows es N K a).map edL) ob → (∀ q, ob = some q → h0.next ≤ q) →
    OkV (sh (rI F) c_cabotageref22_Weak_3 (K_cabotageref22_Weak_3 (rI F)) (setL [p1, p2, p4, p6, p7] [ptr pg, t2, tv, ptr po, .int .i64 (a : Int)]) h) P := by
  have hKN : K * N ≤ 2500 := Nat.le_trans (Nat.mul_le_mul hK hN) (by omega)
  intro m
  induction m with
  | zero =>
    intro a h slv ob ha hf hgp hg hob
    have e : a = N := by omega
    subst e
    have gpg : h.get pg = some (.cells (gL (a : Int) lb sl) 0) := (hf.get _ (by omega) (by omega)).trans hgg
    rw [s_cabotageref22_Weak_3]
    simp (disch := first | omega | (simp only [new_next, put_next]; done) | (simp only [new_next, put_next]; omega)) [gpg]
    exact hP h slv ob hf hgp hg hob
  | succ m ih =>
    intro a h slv ob ha hf hgp hg hob
    have haN : a < N := by omega
    have hfn := hf.next
    have hwl := wRows_len es hKN a
    have gpg : h.get pg = some (.cells (gL (N : Int) lb sl) 0) := (hf.get _ (by omega) (by omega)).trans hgg
    rw [s_cabotageref22_Weak_3]
    have := rweak5 es hsz N K hN hN0 hK lb hlb hin sl tv bvs a haN t2 pg po bot top (wRows es N K a) (by omega) h (hrow0.frD hf (fun b o n c e => by have := hsl b o n c e; omega)) hsl gpg hpg htop (by omega) hbt (hrow.frD hf (fun b o n c e => by have := htv b o n c e; omega)) htv hbl (hby.frD hf (by omega) (by omega)) ob (fun q e => ⟨by have := hob q e; omega, by subst e; exact hg.lt⟩) (P := P)
      (fun h' slv' ob' hf' gp' hg' hob' => by
        have hfn' := hf'.next
        rw [s_cabotageref22_Weak_4]
        have := ih (a + 1) h' slv' ob' (by omega) ⟨by omega, fun i hi hd => (hf'.get _ (by omega) (fun h => h.elim hd fun e => by have := hob _ e; omega)).trans (hf.get _ hi hd)⟩ gp' (by rw [wRows_succ]; exact hg') (fun q e => by
          rcases hob' q e with h | h
          · exact hob q h
          · omega)
        refine OkV.eq (this.lp (l_cabotageref22_Weak_3 F _ _ _ _ _ _)) ?_
        simp (disch := first | omega | (simp only [new_next, put_next]; done) | (simp only [new_next, put_next]; omega)) [i64_add]) K 0 h slv ob (by omega) (.refl _ _) hgp (by simpa [labRows] using hg) (fun q e => .inl e)
    refine OkV.eq (this.lp (l_cabotageref22_Weak_5 F _ _ _ _ _ _ _)) ?_
    simp (disch := first | omega | (simp only [new_next, put_next]; done) | (simp only [new_next, put_next]; omega)) [gpg, haN]

theorem rweak1 (es : List Ed) (hsz : es.length ≤ 1000) (N : Nat) (hN : N ≤ 60) (lb : Int) (hin : inB (N : Int) es) (sl : Value) (t2 : Value) (pg bot : Nat) (h0 : H)
    (hrow0 : Row h0 3 sl (es.map edL)) (hgg : h0.get pg = some (.cells (gL (N : Int) lb sl) 0)) (hpg : pg < h0.next) (hbot : bot < h0.next) {P : Value → H → Prop}
    (hP : ∀ h' tv bvs ob, Fr h0 h' → Grow h' 1 tv (bvs.map fun v => [v]) ob → (∀ q, ob = some q → h0.next ≤ q) → bvs.length = N → ByA es N h' bvs bot h'.next N → OkV (sh (rI F) c_cabotageref22_Weak_0 (K_cabotageref22_Weak_0 (rI F)) (setL [p1, p2, p4] [ptr pg, t2, tv]) h') P) :
    ∀ (m k : Nat) (h : H) (tv : Value) (bvs : List Value) (ob : Option Nat), k + m = N → Fr h0 h → Grow h 1 tv (bvs.map fun v => [v]) ob → (∀ q, ob = some q → h0.next ≤ q) → bvs.length = k → ByA es N h bvs bot h.next k → (∀ (k q : Nat), bvs[k]? = some (slF q N) → ob ≠ some q) →
    OkV (sh (rI F) c_cabotageref22_Weak_1 (K_cabotageref22_Weak_1 (rI F)) (setL [p1, p2, p4, p5] [ptr pg, t2, tv, .int .i64 (k : Int)]) h) P := by
  intro m
  induction m with
  | zero =>
    intro k h tv bvs ob hk hf hg hob hbl hby hd
    have e : k = N := by omega
    subst e
    have gpg : h.get pg = some (.cells (gL (k : Int) lb sl) 0) := (hf.get _ (by omega)).trans hgg
    rw [s_cabotageref22_Weak_1]
    simp (disch := first | omega | (simp only [new_next, put_next]; done) | (simp only [new_next, put_next]; omega)) [gpg]
    exact hP h tv bvs ob hf hg hob hbl hby
  | succ m ih =>
    intro k h tv bvs ob hk hf hg hob hbl hby hd
    have hkN : k < N := by omega
    have hfn := hf.next
    have gpg : h.get pg = some (.cells (gL (N : Int) lb sl) 0) := (hf.get _ (by omega)).trans hgg
    have hv := hrow0.slvM
    obtain ⟨h1, q, bs, ec, hf1, hq1, hq2, gq, hbs, hsil⟩ := silent_ok (N : Int) lb sl es (by omega) hin (by omega) k (by omega) h (hrow0.fr hf)
    obtain rfl : bs.length = N := by omega
    obtain ⟨h2, eh2⟩ : ∃ h2, h2 = h1.new (.cells [slF q bs.length] 0) := ⟨_, rfl⟩
    have hf2 : Fr h h2 := by rw [eh2]; exact hf1.newR _
    have hn2 : h2.next = h1.next + 1 := by rw [eh2]; simp
    have hobl : ∀ b, ob = some b → b < h.next := fun b e => by subst e; exact hg.lt
    have hfn1 := hf1.next
    obtain ⟨h3, tv', ea, hg3, hn3, hf3⟩ := append_one (h := h2) (sz := 1) (bytes := 24) (r := [slF q bs.length]) (b := h1.next) (e := 0) (by omega) (by decide) (hg.fr hf2) (by rw [eh2]; simp) rfl rfl rfl (by rw [List.length_map]; omega)
    have hfr3 : Fr h0 h3 := ⟨by omega, fun i hi => (hf3.get _ (by omega) (fun e => by have := hob _ e; omega)).trans ((hf2.get _ (by omega)).trans (hf.get _ hi))⟩
    have gq3 : h3.get q = some (.cells (boolsL bs) 0) := by
      rw [hf3.get _ (by omega) (fun e => by have := hobl _ e; omega), eh2, get_new_ne (by omega)]; exact gq
    have := ih (k + 1) h3 tv' (bvs ++ [slF q bs.length]) (some h2.next) (by omega) hfr3 (by rw [List.map_append]; exact hg3) (fun q' e => by cases e; omega) (by simp [hbl]) (fun j hj => by
      by_cases e : j = k
      · subst e
        exact ⟨q, bs, by rw [List.getElem?_append_right (by omega), hbl]; simp, gq3, rfl, hsil, by omega, by omega⟩
      · obtain ⟨q', bs', c1, c2, c3, c4, c5, c6⟩ := hby j (by omega)
        refine ⟨q', bs', by rw [List.getElem?_append_left (by omega)]; exact c1, ?_, c3, c4, c5, by omega⟩
        rw [hf3.get _ (by omega) (hd j q' c1), hf2.get _ (by omega)]; exact c2) (fun j q' hj => by
      have h1 : q' < h2.next := by
        by_cases e : j < k
        · rw [List.getElem?_append_left (by omega)] at hj
          obtain ⟨q'', bs', c1, c2, c3, c4, c5, c6⟩ := hby j e
          rw [c1] at hj; cases hj; omega
        · rw [List.getElem?_append_right (by omega)] at hj
          cases hjj : j - bvs.length with
          | zero => rw [hjj] at hj; simp at hj; omega
          | succ n => rw [hjj] at hj; simp at hj
      intro e; cases e; omega)
    rw [s_cabotageref22_Weak_1]
    refine OkV.eq (this.lp (l_cabotageref22_Weak_1 F _ _ _ _ _)) ?_
    simp (disch := first | omega | (simp only [new_next, put_next]; done) | (simp only [new_next, put_next]; omega)) [gpg, hkN, hv.clean, hv.take, hv.eqc, ec, fillL, repeatL, ← eh2, ea, i64_add]

theorem rWeak_ok (st lb : Int) (es : List Ed) (sl : Value) (h : H) (hrow : Row h 3 sl (es.map edL)) : Ret F (fnV n_cabotageref22_Weak) [gV st lb sl] h fun v h' => Fr h h' ∧ WeakA st lb es v h' := by
  refine Ret.fn F_cabotageref22_Weak 1 (by decide) ?_
  rw [s_cabotageref22_Weak]
  have hv := hrow.slvM
  obtain ⟨h2, eh2⟩ : ∃ h2, h2 = (h.new (.cells (gL st lb sl) 0)).new (.cells [.int .i64 0, .int .i64 0, .slice none 0 0] 0) := ⟨_, rfl⟩
  have hf2 : Fr h h2 := by rw [eh2]; exact (Fr.new _ _).newR _
  have hn2 : h2.next = h.next + 2 := by rw [eh2]; simp
  have g0 : h2.get h.next = some (.cells (gL st lb sl) 0) := by rw [eh2]; simp (disch := omega)
  have g1 : h2.get (h.next + 1) = some (.cells [.int .i64 0, .int .i64 0, .slice none 0 0] 0) := by rw [eh2]; simp (disch := omega)
  obtain ⟨h3, ec, hf3⟩ := refCheck_ok st lb sl es h2 (hrow.fr hf2)
  obtain ⟨P, hPd⟩ : ∃ P : Value → H → Prop, P = fun v h' => Fr h h' ∧ WeakA st lb es v h' := ⟨_, rfl⟩
  rw [← hPd]
  have g0' := (hf3.get _ (by omega)).trans g0
  have g1' := (hf3.get _ (by omega)).trans g1
  have hfn3 := hf3.next
  have hfr3 : ∀ o, Fr h (h3.put (h.next + 1) o) := fun o => (hf2.trans hf3).put (by omega) _
  simp (disch := omega) [hv.clean, hv.take]
  rw [← eh2, ec]
  cases hc : chk st lb es with
  | false =>
    refine OkV.eq (OkV.val (v := pairV nilG (.int .i64 2)) (h := h3.put (h.next + 1) (.cells [.int .i64 0, .int .i64 0, .slice none 0 0] 0)) ?_) ?_
    · rw [hPd]; exact ⟨hfr3 _, .inl ⟨hc, rfl⟩⟩
    · simp (disch := first | omega | (simp only [new_next, put_next]; done) | (simp only [new_next, put_next]; omega)) [erk, fillL, g1']
  | true =>
    have f := (chk_iff st lb es).1 hc
    obtain ⟨N, rfl⟩ := Int.eq_ofNat_of_zero_le (show 0 ≤ st by have := f.st1; omega)
    obtain ⟨K, rfl⟩ := Int.eq_ofNat_of_zero_le (show 0 ≤ lb by have := f.lb1; omega)
    have := f.st2; have := f.lb2; have := f.lb1; have := f.st1; have := f.len
    simp (disch := omega) [erk, g0', hv.clean, hv.take]
    have := rweak1 es (by omega) N (by omega) (K : Int) f.inB sl (ptr (h.next + 1)) h.next (h.next + 1) h3 ((hrow.fr hf2).fr hf3) g0' (by omega) (by omega) (P := P)
      (fun h4 tv bvs ob hf4 hg4 hob4 hbl hby => by
        have hfn4 := hf4.next
        have g0'' := (hf4.get _ (by omega)).trans g0'
        have hvt := hg4.slv
        rw [s_cabotageref22_Weak_0]
        have hf5 : Fr h4 (h4.new (.cells [.int .i64 (N : Int), .int .i64 (K : Int), .slice none 0 0] 0)) := Fr.new _ _
        have := rweak3 es (by omega) N K (by omega) (by omega) (by omega) (K : Int) rfl f.inB sl tv bvs (ptr (h.next + 1)) h.next h4.next (h.next + 1) h4.next (h4.new (.cells [.int .i64 (N : Int), .int .i64 (K : Int), .slice none 0 0] 0)) ((((hrow.fr hf2).fr hf3).fr hf4).fr hf5) (fun b o n c e => hrow.lt e) ((hf5.get _ (by omega)).trans g0'') (by omega) (by omega) (by simp) (by omega) ((hg4.row (by omega)).fr hf5) (fun b o n c e => by have hb := hg4.block e; have := hob4 _ hb; subst hb; have := hg4.lt; omega) hbl (hby.frD (D := fun _ => False) hf5.D (by omega) (by simp)) (P := P)
          (fun h6 slv ob6 hf6 gp6 hg6 hob6 => by
            have hfn6 := hf6.next
            simp at hfn6
            have hv6 := hg6.slvM
            have g16 : h6.get (h.next + 1) = some (.cells [.int .i64 0, .int .i64 0, .slice none 0 0] 0) := (hf6.get _ (by simp; omega) (by omega)).trans ((hf5.get _ (by omega)).trans ((hf4.get _ (by omega)).trans g1'))
            have hfr6 : ∀ o, Fr h (h6.put (h.next + 1) o) := fun o => ⟨by simp; omega, fun i hi => by
              rw [get_put_ne' (by omega), hf6.get _ (by simp; omega) (by omega), hf5.get _ (by omega), hf4.get _ (by omega), hf3.get _ (by omega), hf2.get _ hi]⟩
            rw [s_cabotageref22_Weak_2]
            by_cases hlen : 400 < (wE es N K).length
            · have hlen' : 400 < (wRows es N K N).length := hlen
              refine OkV.eq (OkV.val (v := pairV nilG (.int .i64 3)) (h := h6.put (h.next + 1) (.cells [.int .i64 0, .int .i64 0, .slice none 0 0] 0)) ?_) ?_
              · rw [hPd]; exact ⟨hfr6 _, .inr (.inl ⟨hc, hlen, rfl⟩)⟩
              · simp (disch := first | omega | (simp only [new_next, put_next]; done) | (simp only [new_next, put_next]; omega)) [fillL, g16, gp6, hv6.take, hv6.one, hv6.clean, hv6.cell, hv6.len, hlen']
            · have hlen' : ¬ 400 < (wRows es N K N).length := hlen
              refine OkV.eq (OkV.val (v := pairV (gV (N : Int) (K : Int) slv) (.int .i64 0)) (h := h6.put (h.next + 1) (.cells (gL (N : Int) (K : Int) slv) 0)) ?_) ?_
              · rw [hPd]; exact ⟨hfr6 _, .inr (.inr ⟨hc, by simpa using hlen, slv, rfl, (hg6.row (by omega)).frD ((FrD.refl (fun j => j = h.next + 1) _).put (.inr rfl) _) (fun b o n c e => by have := hob6 b (hg6.block e); simp at this; omega)⟩)⟩
              · simp (disch := first | omega | (simp only [new_next, put_next]; done) | (simp only [new_next, put_next]; omega)) [fillL, g16, gp6, hv6.take, hv6.one, hv6.clean, hv6.cell, hv6.len, hlen']) N 0 (h4.new (.cells [.int .i64 (N : Int), .int .i64 (K : Int), .slice none 0 0] 0)) (.slice none 0 0) none (by omega) (.refl _ _) (by simp) (by simpa [wRows] using Grow.nil) (by simp)
        refine OkV.eq (this.lp (l_cabotageref22_Weak_3 F _ _ _ _ _ _)) ?_
        simp (disch := first | omega | (simp only [new_next, put_next]; done) | (simp only [new_next, put_next]; omega)) [g0'', fillL]) N 0 h3 (.slice none 0 0) [] none (by omega) (.refl _) (by simpa using Grow.nil) (by simp) rfl (fun k hk => by omega) (by simp)
    refine OkV.eq (this.lp (l_cabotageref22_Weak_1 F _ _ _ _ _)) ?_
    simp (disch := first | omega | (simp only [new_next, put_next]; done) | (simp only [new_next, put_next]; omega)) []
end Go.Ideal.J
set_option linter.unusedSimpArgs false
set_option linter.unusedVariables false
set_option maxRecDepth 10000
set_option maxHeartbeats 2000000
namespace Go.Ideal.J
open Go Go.Ideal
theorem known_ok (h : H) : callI F (fnV n_cabotagelaw22_known) [] h = some (.bool true, h) := by
  refine call_fn F_cabotagelaw22_known 0 (by decide) ?_
  rfl
/-- both answers to Weak are alike. -/
theorem weak_same {st lb : Int} {es : List Ed} {v w : Value} {h h' : H} (hv : WeakA st lb es v h) (hw : WeakA st lb es w h') (hf : Fr h h') : ∃ a b : Value, ∃ n : Int, v = pairV a (.int .i64 n) ∧ w = pairV b (.int .i64 n) ∧
    ∃ (st' lb' : Int) (sl sl' : Value) (es' : List Ed), a = gV st' lb' sl ∧ b = gV st' lb' sl' ∧ es'.length ≤ 400 ∧ Row h' 3 sl (es'.map edL) ∧ Row h' 3 sl' (es'.map edL) := by
  rcases hv with ⟨c1, rfl⟩ | ⟨c1, c2, rfl⟩ | ⟨c1, c2, sl, rfl, hr⟩
  · rcases hw with ⟨d1, rfl⟩ | ⟨d1, d2, rfl⟩ | ⟨d1, d2, sl', rfl, hr'⟩
    · exact ⟨_, _, _, rfl, rfl, 0, 0, _, _, [], rfl, rfl, by simp, .nil, .nil⟩
    · rw [c1] at d1; cases d1
    · rw [c1] at d1; cases d1
  · rcases hw with ⟨d1, rfl⟩ | ⟨d1, d2, rfl⟩ | ⟨d1, d2, sl', rfl, hr'⟩
    · rw [c1] at d1; cases d1
    · exact ⟨_, _, _, rfl, rfl, 0, 0, _, _, [], rfl, rfl, by simp, .nil, .nil⟩
    · omega
  · rcases hw with ⟨d1, rfl⟩ | ⟨d1, d2, rfl⟩ | ⟨d1, d2, sl', rfl, hr'⟩
    · rw [c1] at d1; cases d1
    · omega
    · exact ⟨_, _, _, rfl, rfl, st, lb, sl, sl', _, rfl, rfl, c2, hr.fr hf, hr'⟩
theorem checks_ok (st lb : Int) (es : List Ed) (sl : Value) (h : H) (hrow : Row h 3 sl (es.map edL)) : Ret F (fnV n_cabotagelaw22_JudgeChecks) [gV st lb sl] h fun v h' => v = .bool true ∧ Fr h h' := by
  refine Ret.fn F_cabotagelaw22_JudgeChecks 1 (by decide) ?_
  rw [s_cabotagelaw22_JudgeChecks]
  obtain ⟨P, hPd⟩ : ∃ P : Value → H → Prop, P = fun v h' => v = .bool true ∧ Fr h h' := ⟨_, rfl⟩
  rw [← hPd]
  have hv := hrow.slvM
  simp (disch := first | omega | (simp only [new_next, put_next]; done) | (simp only [new_next, put_next]; omega)) [hv.clean, hv.take]
  obtain ⟨h1, eh1⟩ : ∃ h1, h1 = h.new (.cells (gL st lb sl) 0) := ⟨_, rfl⟩
  have hf1 : Fr h h1 := by rw [eh1]; exact Fr.new _ _
  have hn1 : h1.next = h.next + 1 := by rw [eh1]; simp
  have g0 : h1.get h.next = some (.cells (gL st lb sl) 0) := by rw [eh1]; simp
  rw [← eh1]
  obtain ⟨v2, h2, e2, hf2, hA2⟩ := jWeak_ok st lb es sl h1 (hrow.fr hf1)
  rw [e2]
  have g02 := (hf2.get _ (by omega)).trans g0
  have hfn2 := hf2.next
  -- the second call
  have hsome : ∃ a : Value, ∃ n : Int, ∃ st' lb' sl2, v2 = pairV a (.int .i64 n) ∧ a = gV st' lb' sl2 := by
    rcases hA2 with ⟨c1, rfl⟩ | ⟨c1, c2, rfl⟩ | ⟨c1, c2, sl2, rfl, hr⟩
    · exact ⟨_, _, 0, 0, _, rfl, rfl⟩
    · exact ⟨_, _, 0, 0, _, rfl, rfl⟩
    · exact ⟨_, _, _, _, _, rfl, rfl⟩
  obtain ⟨a, n, st', lb', sl2, rfl, rfl⟩ := hsome
  obtain ⟨h3, eh3⟩ : ∃ h3, h3 = h2.new (.cells (gL st' lb' sl2) 0) := ⟨_, rfl⟩
  have hf3 : Fr h2 h3 := by rw [eh3]; exact Fr.new _ _
  have hn3 : h3.next = h2.next + 1 := by rw [eh3]; simp
  have g03 := (hf3.get _ (by omega)).trans g02
  have gw3 : h3.get h2.next = some (.cells (gL st' lb' sl2) 0) := by rw [eh3]; simp
  obtain ⟨v4, h4, e4, hf4, hA4⟩ := rWeak_ok st lb es sl h3 (((hrow.fr hf1).fr hf2).fr hf3)
  obtain ⟨a', b', n', e5, e6, st'', lb'', sl3, sl4, es', e7, e8, hlen, hr1, hr2⟩ := weak_same (h := h4) (hA2.imp (fun h => h) (Or.imp (fun h => h) (fun ⟨q1, q2, s, q3, q4⟩ => ⟨q1, q2, s, q3, (q4.fr hf3).fr hf4⟩))) hA4 (.refl _)
  subst e7 e8
  have e5' := Value.tuple.inj e5
  simp at e5'
  obtain ⟨⟨rfl, rfl, rfl⟩, rfl⟩ := e5'
  subst e6
  have g04 := (hf4.get _ (by omega)).trans g03
  have gw4 := (hf4.get _ (by omega)).trans gw3
  have hfn4 := hf4.next
  obtain ⟨h5, eh5⟩ : ∃ h5, h5 = h4.new (.cells (gL st' lb' sl4) 0) := ⟨_, rfl⟩
  have hf5 : Fr h4 h5 := by rw [eh5]; exact Fr.new _ _
  have hn5 : h5.next = h4.next + 1 := by rw [eh5]; simp
  have g05 := (hf5.get _ (by omega)).trans g04
  have gw5 := (hf5.get _ (by omega)).trans gw4
  have gx5 : h5.get h4.next = some (.cells (gL st' lb' sl4) 0) := by rw [eh5]; simp
  obtain ⟨h6, e6, hf6⟩ := judgeCheck_ok st lb sl es h5 (((((hrow.fr hf1).fr hf2).fr hf3).fr hf4).fr hf5)
  have hfn6 := hf6.next
  have g06 := (hf6.get _ (by omega)).trans g05
  have gw6 := (hf6.get _ (by omega)).trans gw5
  have gx6 := (hf6.get _ (by omega)).trans gx5
  obtain ⟨h7, e7, hf7⟩ := refCheck_ok st lb sl es h6 ((((((hrow.fr hf1).fr hf2).fr hf3).fr hf4).fr hf5).fr hf6)
  have hfn7 := hf7.next
  have g07 := (hf7.get _ (by omega)).trans g06
  have gw7 := (hf7.get _ (by omega)).trans gw6
  have gx7 := (hf7.get _ (by omega)).trans gx6
  have hs := same_ok st' lb' st' lb' sl2 sl4 es' es' (by omega) h7 (((hr1.fr hf5).fr hf6).fr hf7) (((hr2.fr hf5).fr hf6).fr hf7)
  have hst : sameG st' lb' st' lb' es' es' = true := by simp [sameG]
  rw [hst] at hs
  have hv1 := hr1.slvM
  have hv2 := hr2.slvM
  refine OkV.eq (OkV.val (v := .bool true) (h := (h7.new (.cells (gL st' lb' sl2) 0)).new (.cells (gL st' lb' sl4) 0)) ?_) ?_
  · rw [hPd]; exact ⟨rfl, ((hf1.trans (hf2.trans (hf3.trans (hf4.trans (hf5.trans (hf6.trans hf7)))))).newR _).newR _⟩
  · simp (disch := first | omega | (simp only [new_next, put_next]; done) | (simp only [new_next, put_next]; omega)) [g02, ← eh3, g03, hv.clean, hv.take, hv.eqc, e4, ← eh5, g05, e6, g06, e7, hv1.clean, hv1.take, hv1.cell, hv1.eqc, hv2.clean, hv2.take, hv2.cell, hv2.eqc, gw5, gw6, gw7, gx5, gx6, gx7, hs, known_ok, erk]
end Go.Ideal.J
set_option maxRecDepth 100000
set_option maxHeartbeats 4000000
set_option linter.unusedVariables false
noncomputable section
namespace Go.Ideal.J
open Go Go.Ideal
theorem C_cabotagelaw22_JudgeChecks : compileFunc Go.Proofs.Try.prog Go.Proofs.Try.f3 = some (stripF f_cabotagelaw22_JudgeChecks) := by kernel_rfl
theorem C_judge_Weak : compileFunc Go.Proofs.Try.prog Go.Proofs.Try.f11 = some (stripF f_judge_Weak) := by kernel_rfl
theorem C_cabotageref22_Weak : compileFunc Go.Proofs.Try.prog Go.Proofs.Try.f12 = some (stripF f_cabotageref22_Weak) := by kernel_rfl
theorem C_judge_Check : compileFunc Go.Proofs.Try.prog Go.Proofs.Try.f13 = some (stripF f_judge_Check) := by kernel_rfl
theorem C_cabotageref22_Check : compileFunc Go.Proofs.Try.prog Go.Proofs.Try.f14 = some (stripF f_cabotageref22_Check) := by kernel_rfl
theorem C_cabotageref22_SameGraph : compileFunc Go.Proofs.Try.prog Go.Proofs.Try.f15 = some (stripF f_cabotageref22_SameGraph) := by kernel_rfl
theorem C_judge_Tells : compileFunc Go.Proofs.Try.prog Go.Proofs.Try.f17 = some (stripF f_judge_Tells) := by kernel_rfl
theorem C_cabotageref22_SameFormula : compileFunc Go.Proofs.Try.prog Go.Proofs.Try.f19 = some (stripF f_cabotageref22_SameFormula) := by kernel_rfl
theorem C_judge_Alike : compileFunc Go.Proofs.Try.prog Go.Proofs.Try.f20 = some (stripF f_judge_Alike) := by kernel_rfl
theorem C_judge_Classes : compileFunc Go.Proofs.Try.prog Go.Proofs.Try.f26 = some (stripF f_judge_Classes) := by kernel_rfl
theorem C_cabotageref03_SameInts : compileFunc Go.Proofs.Try.prog Go.Proofs.Try.f30 = some (stripF f_cabotageref03_SameInts) := by kernel_rfl
theorem C_judge_weak : compileFunc Go.Proofs.Try.prog Go.Proofs.Try.f31 = some (stripF f_judge_weak) := by kernel_rfl
theorem C_cabotageref22_silent : compileFunc Go.Proofs.Try.prog Go.Proofs.Try.f32 = some (stripF f_cabotageref22_silent) := by kernel_rfl
theorem C_judge_compare : compileFunc Go.Proofs.Try.prog Go.Proofs.Try.f33 = some (stripF f_judge_compare) := by kernel_rfl
theorem C_cabotageref22_less : compileFunc Go.Proofs.Try.prog Go.Proofs.Try.f34 = some (stripF f_cabotageref22_less) := by kernel_rfl
theorem C_cabotagelaw22_edges : compileFunc Go.Proofs.Try.prog Go.Proofs.Try.f35 = some (stripF f_cabotagelaw22_edges) := by kernel_rfl
theorem C_cabotageref22_Both : compileFunc Go.Proofs.Try.prog Go.Proofs.Try.f36 = some (stripF f_cabotageref22_Both) := by kernel_rfl
theorem C_judge_isState : compileFunc Go.Proofs.Try.prog Go.Proofs.Try.f37 = some (stripF f_judge_isState) := by kernel_rfl
theorem C_judge_apart : compileFunc Go.Proofs.Try.prog Go.Proofs.Try.f38 = some (stripF f_judge_apart) := by kernel_rfl
theorem C_judge_teller_size : compileFunc Go.Proofs.Try.prog Go.Proofs.Try.f39 = some (stripF f_judge_teller_size) := by kernel_rfl
theorem C_judge_teller_formula : compileFunc Go.Proofs.Try.prog Go.Proofs.Try.f40 = some (stripF f_judge_teller_formula) := by kernel_rfl
theorem C_judge_both : compileFunc Go.Proofs.Try.prog Go.Proofs.Try.f44 = some (stripF f_judge_both) := by kernel_rfl
theorem C_judge_alike : compileFunc Go.Proofs.Try.prog Go.Proofs.Try.f45 = some (stripF f_judge_alike) := by kernel_rfl
theorem C_judge_classes : compileFunc Go.Proofs.Try.prog Go.Proofs.Try.f52 = some (stripF f_judge_classes) := by kernel_rfl
theorem C_judge_steps : compileFunc Go.Proofs.Try.prog Go.Proofs.Try.f54 = some (stripF f_judge_steps) := by kernel_rfl
theorem C_slices_Contains_int_int_ : compileFunc Go.Proofs.Try.prog Go.Proofs.Try.f55 = some (stripF f_slices_Contains_int_int_) := by kernel_rfl
theorem C_cmp_Compare_int_ : compileFunc Go.Proofs.Try.prog Go.Proofs.Try.f57 = some (stripF f_cmp_Compare_int_) := by kernel_rfl
theorem C_judge_silent : compileFunc Go.Proofs.Try.prog Go.Proofs.Try.f62 = some (stripF f_judge_silent) := by kernel_rfl
theorem C_cmp_Or_int_ : compileFunc Go.Proofs.Try.prog Go.Proofs.Try.f63 = some (stripF f_cmp_Or_int_) := by kernel_rfl
theorem C_judge_rounds_first : compileFunc Go.Proofs.Try.prog Go.Proofs.Try.f64 = some (stripF f_judge_rounds_first) := by kernel_rfl
theorem C_judge_leads : compileFunc Go.Proofs.Try.prog Go.Proofs.Try.f65 = some (stripF f_judge_leads) := by kernel_rfl
theorem C_slices_Clone_api_JudgeEdge_api_JudgeEdge_ : compileFunc Go.Proofs.Try.prog Go.Proofs.Try.f68 = some (stripF f_slices_Clone_api_JudgeEdge_api_JudgeEdge_) := by kernel_rfl
theorem C_judge_steps_1 : compileFunc Go.Proofs.Try.prog Go.Proofs.Try.f69 = some (stripF f_judge_steps_1) := by kernel_rfl
theorem C_slices_BinarySearchFunc_api_JudgeEdge_api_JudgeEdge_int_ : compileFunc Go.Proofs.Try.prog Go.Proofs.Try.f70 = some (stripF f_slices_BinarySearchFunc_api_JudgeEdge_api_JudgeEdge_int_) := by kernel_rfl
theorem C_judge_steps_1_1 : compileFunc Go.Proofs.Try.prog Go.Proofs.Try.f71 = some (stripF f_judge_steps_1_1) := by kernel_rfl
theorem C_slices_Index_int_int_ : compileFunc Go.Proofs.Try.prog Go.Proofs.Try.f72 = some (stripF f_slices_Index_int_int_) := by kernel_rfl
theorem C_cmp_isNaN_int_ : compileFunc Go.Proofs.Try.prog Go.Proofs.Try.f75 = some (stripF f_cmp_isNaN_int_) := by kernel_rfl
theorem C_judge_rounds_told : compileFunc Go.Proofs.Try.prog Go.Proofs.Try.f80 = some (stripF f_judge_rounds_told) := by kernel_rfl
theorem C_judge_leads_1 : compileFunc Go.Proofs.Try.prog Go.Proofs.Try.f81 = some (stripF f_judge_leads_1) := by kernel_rfl
theorem okF (hk : FnOk Go.Proofs.Try.prog n_cabotagelaw22_known (primF true)) : ∀ p ∈ tabF, FnOk Go.Proofs.Try.prog p.1 p.2 :=
  (List.forall_mem_cons.2 ⟨(.inl ⟨Go.Proofs.Try.f3, Go.Proofs.Try.func3, C_cabotagelaw22_JudgeChecks⟩), (List.forall_mem_cons.2 ⟨(.inl ⟨Go.Proofs.Try.f11, Go.Proofs.Try.func11, C_judge_Weak⟩), (List.forall_mem_cons.2 ⟨(.inl ⟨Go.Proofs.Try.f12, Go.Proofs.Try.func12, C_cabotageref22_Weak⟩), (List.forall_mem_cons.2 ⟨(.inl ⟨Go.Proofs.Try.f13, Go.Proofs.Try.func13, C_judge_Check⟩), (List.forall_mem_cons.2 ⟨(.inl ⟨Go.Proofs.Try.f14, Go.Proofs.Try.func14, C_cabotageref22_Check⟩), (List.forall_mem_cons.2 ⟨(.inl ⟨Go.Proofs.Try.f15, Go.Proofs.Try.func15, C_cabotageref22_SameGraph⟩), (List.forall_mem_cons.2 ⟨(hk), (List.forall_mem_cons.2 ⟨(.inl ⟨Go.Proofs.Try.f17, Go.Proofs.Try.func17, C_judge_Tells⟩), (List.forall_mem_cons.2 ⟨(.inl ⟨Go.Proofs.Try.f19, Go.Proofs.Try.func19, C_cabotageref22_SameFormula⟩), (List.forall_mem_cons.2 ⟨(.inl ⟨Go.Proofs.Try.f20, Go.Proofs.Try.func20, C_judge_Alike⟩), (List.forall_mem_cons.2 ⟨(.inl ⟨Go.Proofs.Try.f26, Go.Proofs.Try.func26, C_judge_Classes⟩), (List.forall_mem_cons.2 ⟨(.inl ⟨Go.Proofs.Try.f30, Go.Proofs.Try.func30, C_cabotageref03_SameInts⟩), (List.forall_mem_cons.2 ⟨(.inl ⟨Go.Proofs.Try.f31, Go.Proofs.Try.func31, C_judge_weak⟩), (List.forall_mem_cons.2 ⟨(.inl ⟨Go.Proofs.Try.f32, Go.Proofs.Try.func32, C_cabotageref22_silent⟩), (List.forall_mem_cons.2 ⟨(.inl ⟨Go.Proofs.Try.f33, Go.Proofs.Try.func33, C_judge_compare⟩), (List.forall_mem_cons.2 ⟨(.inl ⟨Go.Proofs.Try.f34, Go.Proofs.Try.func34, C_cabotageref22_less⟩), (List.forall_mem_cons.2 ⟨(.inl ⟨Go.Proofs.Try.f35, Go.Proofs.Try.func35, C_cabotagelaw22_edges⟩), (List.forall_mem_cons.2 ⟨(.inl ⟨Go.Proofs.Try.f36, Go.Proofs.Try.func36, C_cabotageref22_Both⟩), (List.forall_mem_cons.2 ⟨(.inl ⟨Go.Proofs.Try.f37, Go.Proofs.Try.func37, C_judge_isState⟩), (List.forall_mem_cons.2 ⟨(.inl ⟨Go.Proofs.Try.f38, Go.Proofs.Try.func38, C_judge_apart⟩), (List.forall_mem_cons.2 ⟨(.inl ⟨Go.Proofs.Try.f39, Go.Proofs.Try.func39, C_judge_teller_size⟩), (List.forall_mem_cons.2 ⟨(.inl ⟨Go.Proofs.Try.f40, Go.Proofs.Try.func40, C_judge_teller_formula⟩), (List.forall_mem_cons.2 ⟨(.inl ⟨Go.Proofs.Try.f44, Go.Proofs.Try.func44, C_judge_both⟩), (List.forall_mem_cons.2 ⟨(.inl ⟨Go.Proofs.Try.f45, Go.Proofs.Try.func45, C_judge_alike⟩), (List.forall_mem_cons.2 ⟨(.inl ⟨Go.Proofs.Try.f52, Go.Proofs.Try.func52, C_judge_classes⟩), (List.forall_mem_cons.2 ⟨(.inl ⟨Go.Proofs.Try.f54, Go.Proofs.Try.func54, C_judge_steps⟩), (List.forall_mem_cons.2 ⟨(.inl ⟨Go.Proofs.Try.f55, Go.Proofs.Try.func55, C_slices_Contains_int_int_⟩), (List.forall_mem_cons.2 ⟨(.inl ⟨Go.Proofs.Try.f57, Go.Proofs.Try.func57, C_cmp_Compare_int_⟩), (List.forall_mem_cons.2 ⟨(.inl ⟨Go.Proofs.Try.f62, Go.Proofs.Try.func62, C_judge_silent⟩), (List.forall_mem_cons.2 ⟨(.inl ⟨Go.Proofs.Try.f63, Go.Proofs.Try.func63, C_cmp_Or_int_⟩), (List.forall_mem_cons.2 ⟨(.inl ⟨Go.Proofs.Try.f64, Go.Proofs.Try.func64, C_judge_rounds_first⟩), (List.forall_mem_cons.2 ⟨(.inl ⟨Go.Proofs.Try.f65, Go.Proofs.Try.func65, C_judge_leads⟩), (List.forall_mem_cons.2 ⟨(.inl ⟨Go.Proofs.Try.f68, Go.Proofs.Try.func68, C_slices_Clone_api_JudgeEdge_api_JudgeEdge_⟩), (List.forall_mem_cons.2 ⟨(.inl ⟨Go.Proofs.Try.f69, Go.Proofs.Try.func69, C_judge_steps_1⟩), (List.forall_mem_cons.2 ⟨(.inl ⟨Go.Proofs.Try.f70, Go.Proofs.Try.func70, C_slices_BinarySearchFunc_api_JudgeEdge_api_JudgeEdge_int_⟩), (List.forall_mem_cons.2 ⟨(.inl ⟨Go.Proofs.Try.f71, Go.Proofs.Try.func71, C_judge_steps_1_1⟩), (List.forall_mem_cons.2 ⟨(.inl ⟨Go.Proofs.Try.f72, Go.Proofs.Try.func72, C_slices_Index_int_int_⟩), (List.forall_mem_cons.2 ⟨(.inl ⟨Go.Proofs.Try.f75, Go.Proofs.Try.func75, C_cmp_isNaN_int_⟩), (List.forall_mem_cons.2 ⟨(.inl ⟨Go.Proofs.Try.f80, Go.Proofs.Try.func80, C_judge_rounds_told⟩), (List.forall_mem_cons.2 ⟨(.inl ⟨Go.Proofs.Try.f81, Go.Proofs.Try.func81, C_judge_leads_1⟩), (fun _ h => by cases h)⟩)⟩)⟩)⟩)⟩)⟩)⟩)⟩)⟩)⟩)⟩)⟩)⟩)⟩)⟩)⟩)⟩)⟩)⟩)⟩)⟩)⟩)⟩)⟩)⟩)⟩)⟩)⟩)⟩)⟩)⟩)⟩)⟩)⟩)⟩)⟩)⟩)⟩)⟩)⟩)
theorem okFs : ∀ g cf, F g = some cf → FnOk Go.Proofs.Try.prog g cf := fun g cf h => by obtain ⟨p, hp, rfl, rfl⟩ := lookF_mem h; exact okF Go.Ideal.X.knownOk p hp
end Go.Ideal.J
end
/- JudgeChecks: for every graph the law answers true: Check and Weak of the program and of the reference answer alike, and the chapter's examples hold. No condition. -/
set_option maxRecDepth 100000
set_option maxHeartbeats 4000000
set_option linter.unusedVariables false
namespace Go.Proofs.Ytanaepeilcjhcaa
open Go.ChangeShapes Go.WideShapes Go.ChangeAt Go.RowKit Go.Ideal Go.Ideal.J
theorem Try.own : ownKnob Try.prog.godebug = none := by kernel_rfl
theorem Try.laidOut : laidOutB Try.prog = true := by kernel_rfl
/-- a graph that came in. -/
theorem graph_in {H : Type} {enc : TypeId × Value → H} {W : World} {base b : Nat} {r : Reach} {spare : Nat → Bool} {held : Bool} {v : Value} {d : DataW H} {ps : List MemPlace} (hval : Value.okWide Try.prog W r base 24 v) (hd : DataW.Trod enc Try.prog W b spare held 24 v d ps) :
    ∃ (st lb : Int) (sl : Value) (es : List Ed), v = gV st lb sl ∧ okArg W v = true ∧ Row (impH W) 3 sl (es.map edL) := by
  unfold Value.okWide at hval
  rw [Try.underlying24] at hval
  obtain ⟨cs, rfl, hsz, ts, hts, _, hcell⟩ := hval
  obtain ⟨fuel, hd⟩ := hd
  have hcs : (Value.agg cs).cells.toList = cs.toList := rfl
  rw [hcs] at hd
  obtain ⟨xs, n, _, _, hl, hlen, hf⟩ := DataW.trod_struct Try.underlying24 hd
  have h3 : Try.prog.cellsOf 24 = 3 := by kernel_rfl
  have hi1 : Try.prog.cellsOf 3 = 1 := by kernel_rfl
  have hs1 : Try.prog.cellsOf 22 = 1 := by kernel_rfl
  have hE3 : Try.prog.cellsOf 58 = 3 := by kernel_rfl
  have hty : Try.prog.cellTypes Try.prog.depth 24 = some [3, 3, 22] := by kernel_rfl
  rw [hty] at hts
  cases hts
  rw [h3] at hl
  obtain ⟨c0, c1, c2, hc⟩ : ∃ c0 c1 c2, cs.toList = [c0, c1, c2] := by
    match cs.toList, hl with
    | [c0, c1, c2], _ => exact ⟨c0, c1, c2, rfl⟩
  rw [hc] at hf
  have e0 : DataW.trod enc Try.prog W b spare held n 3 (([c0, c1, c2].drop 0).take (Try.prog.cellsOf 3)) = xs[0]? := hf 0 _ rfl
  have e1 : DataW.trod enc Try.prog W b spare held n 3 (([c0, c1, c2].drop 1).take (Try.prog.cellsOf 3)) = xs[1]? := hf 1 _ rfl
  have e2 : DataW.trod enc Try.prog W b spare held n 22 (([c0, c1, c2].drop 2).take (Try.prog.cellsOf 22)) = xs[2]? := hf 2 _ rfl
  rw [hi1] at e0 e1
  rw [hs1] at e2
  obtain ⟨y0, y1, y2, rfl⟩ : ∃ y0 y1 y2, xs = [y0, y1, y2] := by
    match xs, hlen with
    | [y0, y1, y2], _ => exact ⟨y0, y1, y2, rfl⟩
  obtain ⟨st, rfl, _⟩ := int_of_trod Try.underlying3 (show DataW.trod enc Try.prog W b spare held n 3 [c0] = some y0 from e0)
  obtain ⟨lb, rfl, _⟩ := int_of_trod Try.underlying3 (show DataW.trod enc Try.prog W b spare held n 3 [c1] = some y1 from e1)
  have hcs' : cs = #[.int .i64 st, .int .i64 lb, c2] := by rw [← Array.toList_inj, hc]
  subst hcs'
  obtain ⟨u, hu, hok⟩ := hcell 2 c2 rfl
  cases hu
  obtain ⟨hokv, es, hrow⟩ := row_of_trod (α := Ed) (f := edL) (sz := 3) Try.underlying22 hE3 (by omega) (fun _ => rfl) (fun _ => rfl) (fun a v hv => by
      simp only [List.mem_cons, List.not_mem_nil, or_false] at hv
      rcases hv with rfl | rfl | rfl <;> rfl)
    (fun fuel cs y h => by
      obtain ⟨p, q, s, rfl⟩ := ints3_of_trod Try.underlying58 ⟨rfl, rfl⟩ ⟨rfl, rfl⟩ ⟨rfl, rfl⟩ Try.underlying3 Try.underlying3 Try.underlying3 hi1 hi1 hi1 hE3 h
      exact ⟨(p, q, s), rfl⟩) (slice_ok Try.underlying22 hok) (show DataW.trod enc Try.prog W b spare held n 22 [c2] = some y2 from e2)
  refine ⟨st, lb, c2, es, rfl, ?_, hrow⟩
  show ([.int .i64 st, .int .i64 lb, c2] : List Value).all (okV W) = true
  simp only [List.all_cons, List.all_nil, hokv, Bool.and_true]
  rfl

theorem checks_calls {W : World} {v : Value} {st lb : Int} {sl : Value} {es : List Ed} (hv : v = gV st lb sl) (ho : okArg W v = true) (hrow : Row (impH W) 3 sl (es.map edL)) : Calls Try.prog 3 #[v] W fun e W' => e = .returned (.bool true) ∧ Same W W' := by
  obtain ⟨u, h', he, rfl, hf⟩ := checks_ok st lb es sl (impH W) hrow
  subst hv
  exact calls_import Go.Ideal.X.hmix okFs (fun v hv => by
    simp only [List.mem_cons, List.not_mem_nil, or_false] at hv
    subst hv; exact ho) he (fun i hi => hf.get i hi)

theorem checks_lifted (os : Os) (started : os.Started) (H : Type) (enc : TypeId × Value → H) :
    ReturnsInHanded {} Try.checked os 3 .any (Rows.judgeChecksSpec.pre6 enc Try.prog Try.f3 Rows.judgeChecksRow.domain false) (Rows.judgeChecksSpec.post enc Try.prog Try.f3 false true false false) := by
  refine returnsInHanded_of_change (C := Try.checked) Try.own started (by kernel_rfl) Try.func3
    (ChangeSpec.witness6 (enc := enc) (C := Try.checked) false ⟨#[], #[.agg #[.int .i64 0, .int .i64 0, .slice none 0 0]], []⟩ 8 (by kernel_rfl) (by kernel_rfl) (by kernel_rfl) (by kernel_rfl)) ?_
  intro W base args ds gs before hval0 hW hcnd _
  have hval : ∀ (j : Nat) t v, Try.f3.params[j]? = some t → args[j]? = some v → Value.okWide Try.prog W .any base t v := hval0
  have hW' := hW
  obtain ⟨p, q, hA0, hV, rfl, hfz, hnd⟩ := hW
  have hA : DataW.TrodAll enc Try.prog W 0 (fun _ => true) true Try.f3.params.toList args.toList ds p := hA0
  rw [Try.params3] at hA hval
  obtain ⟨v0, d0, rfl, rfl, h0⟩ := trodAll_one hA
  obtain ⟨st, lb, sl, es, hv, ho, hrow⟩ := graph_in (hval 0 24 v0 rfl rfl) h0
  obtain ⟨rfl, rfl⟩ := trodVars_none hV
  refine (checks_calls hv ho hrow).mono fun e W' ⟨he, hs⟩ => ⟨_, he, ?_⟩
  exact law_post hW' rfl rfl (t := 4) (by kernel_rfl) Try.underlying4 hs Try.laidOut (fun t ht => by
    rw [Try.params3] at ht
    simp only [List.mem_cons, List.not_mem_nil, or_false] at ht
    subst ht
    exact ⟨by kernel_rfl, of_decide_eq_true (by kernel_rfl)⟩)
theorem checks_holds : Rows.JudgeChecksSaid :=
  OpenClaim.holds_of_wide 3 Try.f3 rfl rfl rfl rfl rfl rfl rfl ⟨rfl, rfl, rfl, rfl, rfl⟩ rfl rfl rfl rfl rfl (by kernel_rfl) Try.func3 (by kernel_rfl)
    (of_decide_eq_true (by kernel_rfl)) (by unfold Func.isWrapper; first | (rw [if_pos (by decide +kernel)]; kernel_rfl) | (rw [if_neg (by decide +kernel)]; exact ⟨rfl, rfl⟩))
    (fun os started H enc _ => checks_lifted os started H enc)
end Go.Proofs.Ytanaepeilcjhcaa
