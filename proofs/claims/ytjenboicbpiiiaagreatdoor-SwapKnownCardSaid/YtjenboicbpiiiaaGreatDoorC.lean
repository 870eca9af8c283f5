/- A part of the proof: the ideal machine, and what the functions of the program answer over it. -/
import Derived.RowKit
import Derived.OpenShut
import Derived.WideKeyArgs
import Derived.ChangeSame
import Derived.Test.YtjenboicbpiiiaaGreatDoorProg
import Derived.WalkKit
import Derived.LaidEql
import Derived.Stop.Asserts
import Derived.RowKitTokens
import Derived.Test.YtjenboicbpiiiaaGreatDoorB
set_option linter.unusedSimpArgs false
set_option linter.unusedVariables false
set_option linter.unusedSectionVars false
/- From the ideal machine to the given statements: the world that a law is called in, as the ideal machine sees it; what the law's answer leaves. -/
namespace Go.Ideal
noncomputable section
variable {P : Program}

/-! ### The world as the ideal machine sees it -/
def isCells (W : World) (b : Nat) : Bool := match W.heap[b]? with
  | some (.cells _ _ _) => true
  | _ => false
def okV (W : World) : Value → Bool
  | .bool _ => true
  | .int _ _ => true
  | .string _ => true
  | .nilFunc => true
  | .pointer none => true
  | .map none => true
  | .slice none 0 0 => true
  | .slice (some a) len cap => a.spot.isNone && (decide (len ≤ cap) && (decide (cap < openCap) && isCells W a.block))
  | .pointer (some a) => a.spot.isNone && isCells W a.block
  | _ => false
/-- a slice without room that points nowhere. -/
def isDang : Value → Bool
  | .slice (some _) 0 0 => true
  | _ => false
/-- what stands for it. -/
def dang (W : World) : Value := .slice (some ⟨W.heap.size, 0, none⟩) 0 0
def impV (W : World) (v : Value) : Value := if okV W v then v else if isDang v then dang W else poison
def impObj (W : World) : Obj → Option IObj
  | .cells c _ _ => some (.cells (c.toList.map (impV W)) roE)
  | _ => none
open Classical in
/-- the block that is said to be where such a slice points. -/
def dangR (W : World) : Option RB := if h : ∃ b, isCells W b = true then some ⟨Classical.choose h, 0, 0, 0, 1, none⟩ else none
def impRho (W : World) (i : Nat) : Option RB := if i = W.heap.size then dangR W else (W.heap[i]?).bind fun o => match o with
  | .cells c _ _ => some ⟨i, 0, c.size, roE, c.size, some o⟩
  | _ => none
def impMem (W : World) (n : Nat) : PT IObj := Nat.rec (motive := fun _ => PT IObj) .nil (fun i t => match (W.heap[i]?).bind (impObj W) with | some o => t.set (bits i) o | none => t) n
def impH (W : World) : H := ⟨W.heap.size + 1, impMem W W.heap.size⟩

theorem impMem_get (W : World) : ∀ (n j : Nat), (impMem W n).get (bits j) = if j < n then (W.heap[j]?).bind (impObj W) else none
  | 0, j => by rw [if_neg (by omega)]; exact PT.get_nil _
  | n + 1, j => by
    have e : impMem W (n + 1) = match (W.heap[n]?).bind (impObj W) with | some o => (impMem W n).set (bits n) o | none => impMem W n := rfl
    rw [e]
    cases ho : (W.heap[n]?).bind (impObj W) with
    | none =>
      rw [impMem_get W n j]
      by_cases h : j < n
      · rw [if_pos h, if_pos (by omega)]
      · rw [if_neg h]
        by_cases e : j = n
        · subst e; rw [if_pos (by omega), ho]
        · rw [if_neg (by omega)]
    | some o =>
      dsimp only
      rw [PT.get_set_bits, impMem_get W n j]
      by_cases e : n = j
      · subst e; rw [if_pos rfl, if_pos (by omega), ho]
      · rw [if_neg e]
        by_cases h : j < n
        · rw [if_pos h, if_pos (by omega)]
        · rw [if_neg h, if_neg (by omega)]
theorem impH_get (W : World) (j : Nat) : (impH W).get j = (W.heap[j]?).bind (impObj W) := by
  show (impMem W W.heap.size).get (bits j) = _
  rw [impMem_get]
  by_cases h : j < W.heap.size
  · rw [if_pos h]
  · rw [if_neg h, Array.getElem?_eq_none (by omega)]; rfl
theorem impH_cells {W : World} {b : Nat} {c : Array Value} {t : TypeId} {fr : Nat × Nat} (h : W.heap[b]? = some (.cells c t fr)) : (impH W).get b = some (.cells (c.toList.map (impV W)) roE) := by rw [impH_get, h]; rfl
theorem impH_next (W : World) : (impH W).next = W.heap.size + 1 := rfl

theorem isCells_lt {W : World} {b : Nat} (h : isCells W b = true) : b < W.heap.size := by
  unfold isCells at h
  split at h
  · rename_i hb; exact (Array.getElem?_eq_some_iff.1 hb).1
  · cases h
theorem impRho_lt {W : World} {i : Nat} (h : i < W.heap.size) : impRho W i = (W.heap[i]?).bind fun o => match o with | .cells c _ _ => some ⟨i, 0, c.size, roE, c.size, some o⟩ | _ => none := by
  unfold impRho; rw [if_neg (by omega)]
theorem impRho_cells {W : World} {b : Nat} (h : isCells W b = true) : ∃ R, impRho W b = some R ∧ R.blk = b ∧ R.base = 0 := by
  have hlt := isCells_lt h
  unfold isCells at h
  split at h
  · rename_i c t fr hb
    exact ⟨_, by rw [impRho_lt hlt, hb]; rfl, rfl, rfl⟩
  · cases h
theorem okV_rel {W : World} {v : Value} (h : okV W v = true) : VR (impRho W) v v := by
  unfold okV at h
  split at h
  · exact .bool _
  · exact .int _ _
  · exact .str _
  · exact .nilFunc
  · exact .ptrNil
  · exact .mapNil
  · exact .sliceNil
  · rename_i a len cap
    simp only [Bool.and_eq_true, Option.isNone_iff_eq_none, decide_eq_true_eq] at h
    obtain ⟨h1, h2, h3, h4⟩ := h
    obtain ⟨R, hR, hb, h0⟩ := impRho_cells h4
    obtain ⟨b, o, sp⟩ := a
    simp only at h1 hR hb
    subst h1
    have := VR.slice (o := o) (len := len) hR h3 h2
    rw [hb, h0, Nat.zero_add] at this
    exact this
  · rename_i a
    simp only [Bool.and_eq_true, Option.isNone_iff_eq_none] at h
    obtain ⟨h1, h4⟩ := h
    obtain ⟨R, hR, hb, h0⟩ := impRho_cells h4
    obtain ⟨b, o, sp⟩ := a
    simp only at h1 hR hb
    subst h1
    have := VR.ptr (o := o) hR
    rw [hb, h0, Nat.zero_add] at this
    exact this
  · cases h

theorem impRho_some {W : World} {i : Nat} {R : RB} (h : impRho W i = some R) : (i ≠ W.heap.size ∧ ∃ c t fr, W.heap[i]? = some (.cells c t fr) ∧ R = ⟨i, 0, c.size, roE, c.size, some (.cells c t fr)⟩) ∨ (i = W.heap.size ∧ isCells W R.blk = true) := by
  unfold impRho at h
  split at h
  · rename_i e
    refine .inr ⟨e, ?_⟩
    unfold dangR at h
    split at h
    · rename_i hx; cases h; exact Classical.choose_spec hx
    · cases h
  · rename_i e
    obtain ⟨o, ho, h⟩ := aof h
    cases o with
    | cells c t fr => cases h; exact .inl ⟨e, c, t, fr, ho, rfl⟩
    | _ => cases h
theorem impRho_obj {W : World} {i : Nat} {R : RB} {o : IObj} (h : impRho W i = some R) (ho : (impH W).get i = some o) : ∃ c t fr, W.heap[i]? = some (.cells c t fr) ∧ R = ⟨i, 0, c.size, roE, c.size, some (.cells c t fr)⟩ := by
  rcases impRho_some h with ⟨-, h⟩ | ⟨rfl, -⟩
  · exact h
  · rw [impH_get, Array.getElem?_eq_none (Nat.le_refl _)] at ho; cases ho
/-- a slice without room that points nowhere. -/
theorem dang_rel {W : World} {v : Value} {b : Nat} (hb : isCells W b = true) (h : isDang v = true) : VR (impRho W) (dang W) v := by
  unfold isDang at h
  split at h
  · refine .sliceD (R := ⟨Classical.choose (⟨b, hb⟩ : ∃ b, isCells W b = true), 0, 0, 0, 1, none⟩) ?_ (by show 0 < 1; omega)
    unfold impRho; rw [if_pos rfl]; unfold dangR; rw [dif_pos ⟨b, hb⟩]
  · cases h

theorem imp_HR (W : World) : HR P (impRho W) (impH W) W where
  obj := fun i R o hi ho => by
    obtain ⟨c, t, fr, hb, rfl⟩ := impRho_obj hi ho
    rw [impH_cells hb] at ho; cases ho
    refine ⟨rfl, by simp, c, t, fr, hb, .inr ⟨rfl, rfl⟩, rfl, by simp, fun j v hj => ?_⟩
    rw [List.getElem?_map] at hj
    obtain ⟨x, hx, rfl⟩ := Option.map_eq_some_iff.1 hj
    refine ⟨x, by rw [Array.getElem?_toList] at hx; simpa using hx, ?_⟩
    unfold impV
    by_cases hok : okV W x = true
    · rw [if_pos hok]; exact .inr (okV_rel hok)
    · rw [if_neg hok]
      by_cases hd : isDang x = true
      · rw [if_pos hd]; exact .inr (dang_rel (b := i) (by unfold isCells; rw [hb]) hd)
      · rw [if_neg hd]; exact .inl rfl
  nxt := fun i hi => by
    have hi' : W.heap.size + 1 ≤ i := hi
    have hn : W.heap[i]? = none := Array.getElem?_eq_none (by omega)
    exact ⟨by unfold impRho; rw [if_neg (by omega), hn]; rfl, by rw [impH_get, hn]; rfl⟩
  sep := fun i j R S hi hj ai aj e => by
    obtain ⟨o, ho, -⟩ := ai
    obtain ⟨o', ho', -⟩ := aj
    obtain ⟨_, _, _, _, rfl⟩ := impRho_obj hi ho
    obtain ⟨_, _, _, _, rfl⟩ := impRho_obj hj ho'
    exact e
  blk := fun i R hi => by
    rcases impRho_some hi with ⟨-, _, _, _, hb, rfl⟩ | ⟨-, hc⟩
    · exact (Array.getElem?_eq_some_iff.1 hb).1
    · exact isCells_lt hc
  glb := fun i b x hi => by
    rw [impH_get] at hi
    obtain ⟨o, -, ho⟩ := aof hi
    cases o <;> cases ho

/-- an argument of which all is known. -/
def okArg (W : World) : Value → Bool
  | .agg cs => cs.toList.all (okV W)
  | v => okV W v
theorem okArg_rel {W : World} {v : Value} (h : okArg W v = true) : VR (impRho W) v v := by
  unfold okArg at h
  split at h
  · rename_i cs
    have : VRL (impRho W) cs.toList cs.toList := ⟨rfl, fun j x y hx hy => by rw [hx] at hy; cases hy; exact okV_rel (List.all_eq_true.1 h x (List.mem_of_getElem? hx))⟩
    exact VR.agg_of this
  · exact okV_rel h

/-- what the ideal machine answers over the world that came in, the given one answers, and leaves that world as it was. -/
theorem calls_import {F : FuncId → Option CFunc} (hmix : P.follows .mixedOrders = true) (hF : ∀ g cf, F g = some cf → FnOk P g cf) {g : FuncId} {args : Array Value} {W : World} (hargs : ∀ v ∈ args.toList, okArg W v = true)
    {b : Bool} {n : Nat} {h' : H} (hn : E F n (.call (.func (.func g) #[] #[]) args.toList (impH W)) = some (.val (.bool b) h')) (hfr : ∀ i, i < W.heap.size → h'.get i = (impH W).get i) :
    Calls P g args W fun e W' => e = .returned (.bool b) ∧ Same W W' := by
  have ra : VRL (impRho W) args.toList args.toList := ⟨rfl, fun j x y hx hy => by rw [hx] at hy; cases hy; exact okArg_rel (hargs x (List.mem_of_getElem? hx))⟩
  refine (calls_of_E hmix hF hn ra (imp_HR W)).mono ?_
  rintro e W' ⟨v', σ, rfl, hv, hr, hx⟩
  refine ⟨by rw [hv.inv_bool], hx.os, hx.out, fun B hB => ?_, hx.froz, hx.td, hx.size⟩
  by_cases hc : isCells W B = true
  · obtain ⟨R, hR, hb, h0⟩ := impRho_cells hc
    obtain ⟨-, c, t, fr, hWB, rfl⟩ := (impRho_some hR).resolve_right (fun h => by omega)
    have ho := hr.obj B _ _ (hx.le _ _ hR) (by rw [hfr B hB]; exact impH_cells hWB)
    obtain ⟨_, _, c', t', fr', q1, q2, _⟩ := ho
    rcases q2 with ⟨q2, _⟩ | ⟨q2, _⟩
    · cases q2
    · rw [q1, hWB]; exact (q2.symm ▸ rfl : some (Obj.cells c' t' fr') = some (Obj.cells c t fr))
  · refine hx.frame B hB fun i R hi e => ?_
    rcases impRho_some hi with ⟨-, c, t, fr, hWB, rfl⟩ | ⟨-, hcc⟩
    · have e : i = B := e
      subst e
      exact hc (by unfold isCells; rw [hWB])
    · rw [e] at hcc; exact hc hcc

/-- a function that answers a truth by the kernel's word is a closed one. -/
theorem prim_of {F : FuncId → Option CFunc} (hmix : P.follows .mixedOrders = true) (hF : ∀ g cf, F g = some cf → FnOk P g cf) {g : FuncId} {fn : Func} {cf0 : CFunc} (hfn : P.funcs[g]? = some fn) (hcf : compileFunc P fn = some (stripF cf0)) {b : Bool} {n : Nat} {h' : H}
    (he : E F n (.call (.func (.func g) #[] #[]) [] .empty) = some (.val (.bool b) h')) : FnOk P g (primF b) := by
  refine .inr (.inl ⟨fn, cf0, b, hfn, hcf, rfl, fun w => ?_⟩)
  have hr : HR P (fun _ => none) H.empty w := ⟨fun _ _ _ h => (by cases h), fun i _ => ⟨rfl, PT.get_nil _⟩, fun _ _ _ _ h => (by cases h), fun _ _ h => (by cases h), fun i _ _ h => by rw [H.get_empty] at h; cases h⟩
  refine (calls_of_E hmix hF he (args' := #[]) ⟨rfl, fun j x y hx => by simp at hx⟩ hr).mono ?_
  rintro e w' ⟨v', σ, rfl, hv, -, hx⟩
  exact ⟨by rw [hv.inv_bool], hx.os, hx.out, fun B hB => hx.frame B hB fun _ _ h => (by cases h), hx.froz, hx.td, hx.size⟩

/-- the variable of a package, and nothing else. -/
def globH (b : Nat) (x : Value) : H := H.empty.new (.glob b x)
def globRho (b : Nat) (o : Obj) (i : Nat) : Option RB := if i = 0 then some ⟨b, 0, 0, 0, 0, some o⟩ else none
theorem glob_HR {b : Nat} {x : Value} {W : World} {c : Array Value} {t : TypeId} {fr : Nat × Nat} (hW : W.heap[b]? = some (.cells c t fr)) (hx : c[0]? = some x) : HR P (globRho b (.cells c t fr)) (globH b x) W where
  obj := fun i R o hi ho => by
    unfold globRho at hi
    split at hi
    · rename_i e; subst e; cases hi
      have ho : (globH b x).get 0 = some o := ho
      rw [show (globH b x).get 0 = some (.glob b x) from by unfold globH; rw [H.get_new]; exact if_pos rfl] at ho
      cases ho
      exact ⟨rfl, c, t, fr, rfl, hW, hx⟩
    · cases hi
  nxt := fun i hi => by
    have hi : 1 ≤ i := hi
    refine ⟨by unfold globRho; rw [if_neg (by omega)], ?_⟩
    unfold globH; rw [H.get_new, if_neg (by show ¬ (0 = i); omega)]; exact PT.get_nil _
  sep := fun i j R S hi hj _ _ _ => by
    unfold globRho at hi hj
    split at hi
    · split at hj
      · rename_i a b; rw [a, b]
      · cases hj
    · cases hi
  blk := fun i R hi => by
    unfold globRho at hi
    split at hi
    · cases hi; exact (Array.getElem?_eq_some_iff.1 hW).1
    · cases hi
  glb := fun i b' x' hi => by
    unfold globH at hi
    rw [H.get_new] at hi
    by_cases e : H.empty.next = i
    · subst e; exact ⟨_, rfl⟩
    · rw [if_neg e, H.get_empty] at hi; cases hi
/-- a closed law that reads a variable of a package. -/
theorem calls_glob {F : FuncId → Option CFunc} (hmix : P.follows .mixedOrders = true) (hF : ∀ g cf, F g = some cf → FnOk P g cf) {g : FuncId} {b n : Nat} {x : Value} {h' : H} {t : Bool}
    (he : E F n (.call (.func (.func g) #[] #[]) [] (globH b x)) = some (.val (.bool t) h')) (hg : h'.get 0 = some (.glob b x)) {W : World} (hW : W.cell? ⟨b, 0, none⟩ = some x) : Calls P g #[] W fun e W' => e = .returned (.bool t) ∧ Same W W' := by
  obtain ⟨c, ty, fr, hb, hx⟩ : ∃ c t fr, W.heap[b]? = some (.cells c t fr) ∧ c[0]? = some x := by
    unfold World.cell? at hW
    dsimp only at hW
    split at hW
    · rename_i hb; exact ⟨_, _, _, hb, hW⟩
    · cases hW
  refine (calls_of_E hmix hF he (args' := #[]) ⟨rfl, fun j x y hx => by simp at hx⟩ (glob_HR hb hx)).mono ?_
  rintro e w' ⟨v', σ, rfl, hv, hr, hx'⟩
  refine ⟨by rw [hv.inv_bool], hx'.os, hx'.out, fun B hB => ?_, hx'.froz, hx'.td, hx'.size⟩
  have h0 : globRho b (.cells c ty fr) 0 = some ⟨b, 0, 0, 0, 0, some (.cells c ty fr)⟩ := rfl
  by_cases e : B = b
  · subst e
    obtain ⟨-, c', t', fr', q1, q2, -⟩ := hr.obj 0 _ _ (hx'.le _ _ h0) hg
    rw [q2, hb, ← q1]
  · refine hx'.frame B hB fun i R hi e' => ?_
    unfold globRho at hi
    split at hi
    · cases hi; exact e e'.symm
    · cases hi

section
open Go.ChangeShapes Go.WideShapes Go.RowKit
variable {H : Type} {enc : TypeId × Value → H}

theorem Same.kept {W W' : World} (h : Same W W') (may : MemPlace → Prop) : W.keptBut W' may := by
  refine ⟨h.os, h.out, fun i hi => ?_⟩
  rw [h.heap i hi]
  cases ho : W.heap[i]? with
  | none => trivial
  | some o =>
    cases o with
    | cells c t fr => exact ⟨rfl, rfl, rfl, fun _ _ => rfl⟩
    | map es c => exact .inr ⟨rfl, rfl⟩
    | _ => rfl
theorem Same.at {W W' : World} (h : Same W W') {p : MemPlace} (hp : p.block < W.heap.size) : W.sameAt W' p := by
  cases p with
  | cell b off =>
    show W'.cell? ⟨b, off, none⟩ = W.cell? ⟨b, off, none⟩
    have := h.heap b hp
    simp only [World.cell?, this]
  | map b => exact h.heap b hp

theorem trodAll_stays (hl : laidOutB P = true) {W W' : World} {sp' : Nat → Bool} (hs : Same W W') : ∀ {ts : List TypeId} {vs : List Value} {ds : List (DataW H)} {ps : List MemPlace}, (∀ t ∈ ts, P.readableRec t = true ∧ t < P.types.size) →
    DataW.TrodAll enc P W 0 (fun _ => true) true ts vs ds ps → (∀ p ∈ ps, p.block < W.heap.size) → (∀ p ∈ ps, sp' p.block = true) → DataW.TrodAll enc P W' 0 sp' true ts vs ds ps
  | [], vs, ds, ps, _, h, _, _ => by
    obtain ⟨rfl, rfl, rfl⟩ := trodAll_nil h
    exact trodAll_mk0
  | t :: ts, vs, ds, ps, ht, h, hlt, hsp => by
    obtain ⟨v, vs', d, ds', p, q, rfl, rfl, rfl, h1, h2⟩ := trodAll_cons h
    obtain ⟨r1, r2⟩ := ht t (by simp)
    exact trodAll_cons_mk (WideElems.Trod_stays hl r1 r2 h1 (fun x hx => hs.at (hlt x (by simp [hx]))) (fun x hx => hsp x (by simp [hx])))
      (trodAll_stays hl hs (fun t ht' => ht t (by simp [ht'])) h2 (fun x hx => hlt x (by simp [hx])) (fun x hx => hsp x (by simp [hx])))

/-- the post, where the world that came in is as it was. -/
theorem post_kept {f : Func} {s : ChangeSpec} {apart fresh handsOn again : Bool} {W W' : World} {args : Array Value} {v : Value} {ds gs : List (DataW H)} {before pa pv : List MemPlace}
    (hW : DataW.Whole enc P f.params.toList s.vars apart W args.toList ds gs before)
    (hres : ∀ (b : Nat) (sp : Nat → Bool) (hd : Bool), DataW.TrodAll enc P W' b sp hd f.resultTypes.toList (v.resultList f.resultTypes.size) (s.fn H (ds ++ gs)).results [])
    (hargs : ∀ sp : Nat → Bool, (∀ p ∈ before, sp p.block = true) → DataW.TrodAll enc P W' 0 sp true f.params.toList args.toList (s.fn H (ds ++ gs)).args pa)
    (hvars : ∀ sp : Nat → Bool, (∀ p ∈ before, sp p.block = true) → DataW.TrodVars enc P W' sp s.vars (s.fn H (ds ++ gs)).vars pv)
    (hps : before = pa ++ pv) (hk : W.keptBut W' (· ∈ before)) (hfz : ∀ a : Addr, a.block < W.heap.size → W'.frozen? a = W.frozen? a)
    (hok : ∀ (j : Nat) (t : TypeId) (r : Value), f.resultTypes[j]? = some t → (v.resultList f.resultTypes.size)[j]? = some r → Value.okWide P W' .any 0 t r) :
    s.post enc P f apart fresh handsOn again W args v W' := by
  refine ⟨ds, gs, before, [], pa, pv, hW, hres _ _ _, hargs _ fun p hp => by simpa using hW.lt p hp, hvars _ fun p hp => by simpa using hW.lt p hp, World.keptBut_mono (fun p hp => ⟨hp, ?_⟩) hk, fun _ => ?_⟩
  · rw [hps, List.mem_append] at hp
    exact Or.inr hp
  · have hlt := hW.lt
    obtain ⟨_, _, _, _, _, hz, hn⟩ := hW
    refine ⟨hok, _, _, ([] ++ pa) ++ pv, ⟨[] ++ pa, pv, trodAll_append (hargs _ (fun _ _ => rfl)) (hres _ _ _), hvars _ (fun _ _ => rfl), rfl, fun b off hp => ?_, fun ha => ?_⟩, fun p hp _ => ?_⟩
    · have hb : MemPlace.cell b off ∈ before := by rw [hps]; simpa using hp
      rw [hfz ⟨b, off, none⟩ (hlt _ hb)]
      exact hz b off hb
    · have := hn ha
      rw [hps] at this
      simpa using this
    · rw [hps]
      simpa using hp
/-- the statement of a law: it answers true, and nothing has turned. -/
theorem law_post {s : ChangeSpec} {fn : Func} {apart fresh handsOn again : Bool} {W W' : World} {args : Array Value} {ds gs : List (DataW H)} {before : List MemPlace} {t : TypeId} (hW : DataW.Whole enc P fn.params.toList s.vars apart W args.toList ds gs before)
    (hvars : s.vars = []) (hspec : s.fn H (ds ++ gs) = { results := [.lit (.bool true)], args := ds }) (hres : fn.resultTypes = #[t]) (ht : P.underlying t = some .bool) (hsame : Same W W') (hl : laidOutB P = true) (hr : ∀ t ∈ fn.params.toList, P.readableRec t = true ∧ t < P.types.size) :
    s.post enc P fn apart fresh handsOn again W args (.bool true) W' := by
  have hW' := hW
  obtain ⟨p, q, hA, hV, rfl, hfz, hnd⟩ := hW
  rw [hvars] at hV
  obtain ⟨rfl, rfl⟩ := trodVars_none hV
  refine post_kept (pa := p) (pv := []) hW' (fun b sp hd => ?_) (fun sp hsp => ?_) (fun sp hsp => ?_) rfl (hsame.kept _) hsame.froz ?_
  · rw [hspec, hres]
    exact trodAll_mk1 (shut_bool ht true)
  · rw [hspec]
    exact trodAll_stays hl hsame hr hA (fun x hx => hW'.lt x (by simp [hx])) (fun x hx => hsp x (by simp [hx]))
  · rw [hspec, hvars]; rfl
  · exact ok_one hres rfl (okWide_bool_mk ht true)
end
end
end Go.Ideal
/- A run in pieces: a call whose run is known stands for itself in a greater run. -/
namespace Go.Ideal
noncomputable section
variable {P : Program}

/-! ### Values alike -/
def allEq {α : Type} (f : α → α → Bool) : List α → List α → Bool
  | [], [] => true
  | a :: l, b :: m => f a b && allEq f l m
  | _, _ => false
theorem allEq_eq {α : Type} {f : α → α → Bool} (hf : ∀ a b, f a b = true → a = b) : ∀ {l m : List α}, allEq f l m = true → l = m
  | [], [], _ => rfl
  | [], _ :: _, h => by cases h
  | _ :: _, [], h => by cases h
  | a :: l, b :: m, h => by
    simp only [allEq, Bool.and_eq_true] at h
    rw [hf _ _ h.1, allEq_eq hf h.2]
def eqX : Nat → Value → Value → Bool
  | n + 1, .agg a, .agg b => allEq (eqX n) a.toList b.toList
  | n + 1, .tuple a, .tuple b => allEq (eqX n) a.toList b.toList
  | n + 1, .iface t a, .iface u b => Nat.beq t u && eqX n a b
  | _, .nilIface, .nilIface => true
  | _, .func (.func f) a b, .func (.func g) c d => Nat.beq f g && (a.isEmpty && b.isEmpty && (c.isEmpty && d.isEmpty))
  | _, a, b => eqCell a b
theorem eqX_eq : ∀ (n : Nat) (a b : Value), eqX n a b = true → a = b := by
  intro n
  induction n with
  | zero =>
    intro a b h
    unfold eqX at h
    split at h
    · rename_i e; exact absurd e (by simp)
    · rename_i e; exact absurd e (by simp)
    · rename_i e; exact absurd e (by simp)
    · rfl
    · simp only [Bool.and_eq_true, Array.isEmpty_iff] at h
      obtain ⟨h1, ⟨h2, h3⟩, h4, h5⟩ := h
      rw [Nat.eq_of_beq_eq_true h1, h2, h3, h4, h5]
    · exact eqCell_eq h
  | succ n ih =>
    intro a b h
    unfold eqX at h
    split at h
    · rename_i e; cases e; rw [Array.toList_inj.1 (allEq_eq ih h)]
    · rename_i e; cases e; rw [Array.toList_inj.1 (allEq_eq ih h)]
    · rename_i e; cases e; rw [Bool.and_eq_true] at h; rw [Nat.eq_of_beq_eq_true h.1, ih _ _ h.2]
    · rfl
    · simp only [Bool.and_eq_true, Array.isEmpty_iff] at h
      obtain ⟨h1, ⟨h2, h3⟩, h4, h5⟩ := h
      rw [Nat.eq_of_beq_eq_true h1, h2, h3, h4, h5]
    · exact eqCell_eq h
def eqEnt (a b : Value × Value × Nat) : Bool := eqX 4 a.1 b.1 && (eqX 4 a.2.1 b.2.1 && Nat.beq a.2.2 b.2.2)
theorem eqEnt_eq (a b : Value × Value × Nat) (h : eqEnt a b = true) : a = b := by
  simp only [eqEnt, Bool.and_eq_true] at h
  obtain ⟨a1, a2, a3⟩ := a
  obtain ⟨b1, b2, b3⟩ := b
  have h1 := eqX_eq _ _ _ h.1
  have h2 := eqX_eq _ _ _ h.2.1
  have h3 := Nat.eq_of_beq_eq_true h.2.2
  simp only at h1 h2 h3
  rw [h1, h2, h3]
def eqObj : IObj → IObj → Bool
  | .cells a e, .cells b f => Nat.beq e f && allEq (eqX 4) a b
  | .map a c, .map b d => Nat.beq c d && allEq eqEnt a b
  | .glob b x, .glob c y => Nat.beq b c && eqX 4 x y
  | .dead, .dead => true
  | _, _ => false
theorem eqObj_eq {a b : IObj} (h : eqObj a b = true) : a = b := by
  unfold eqObj at h
  split at h
  · rw [Bool.and_eq_true] at h; rw [Nat.eq_of_beq_eq_true h.1, allEq_eq (eqX_eq 4) h.2]
  · rw [Bool.and_eq_true] at h; rw [Nat.eq_of_beq_eq_true h.1, allEq_eq eqEnt_eq h.2]
  · rw [Bool.and_eq_true] at h; rw [Nat.eq_of_beq_eq_true h.1, eqX_eq _ _ _ h.2]
  · rfl
  · cases h
def liveO : IObj → Bool
  | .dead => false
  | _ => true

/-! ### What a value names -/
def refF (S : Nat → Bool) : Nat → Value → Bool
  | n + 1, .agg a => a.toList.all (refF S n)
  | n + 1, .tuple a => a.toList.all (refF S n)
  | n + 1, .iface _ v => refF S n v
  | _, .pointer (some a) => S a.block
  | _, .slice (some a) _ _ => S a.block
  | _, .map (some i) => S i
  | _, .func (.func _) a b => a.isEmpty && b.isEmpty
  | _, .bool _ => true
  | _, .int _ _ => true
  | _, .string _ => true
  | _, .pointer none => true
  | _, .slice none _ _ => true
  | _, .map none => true
  | _, .nilFunc => true
  | _, .nilIface => true
  | _, .complex _ _ _ => true
  | _, _ => false
theorem VR.agree {ρ σ : Rho} {S : Nat → Bool} (hS : ∀ i, S i = true → σ i = ρ i) : ∀ (n : Nat) {v v' : Value}, VR ρ v v' → refF S n v = true → VR σ v v' := by
  intro n
  induction n with
  | zero =>
    intro v v' h hv
    cases h with
    | bool b => exact .bool b
    | int k n => exact .int k n
    | str s => exact .str s
    | ptrNil => exact .ptrNil
    | ptr h => exact .ptr ((hS _ hv).trans h)
    | sliceNil => exact .sliceNil
    | slice h hc hl => exact .slice ((hS _ hv).trans h) hc hl
    | sliceO h he hl hs hb => exact .sliceO ((hS _ hv).trans h) he hl hs hb
    | sliceE h he hb => exact .sliceE ((hS _ hv).trans h) he hb
    | sliceD h hm => exact .sliceD ((hS _ hv).trans h) hm
    | mapNil => exact .mapNil
    | map h => exact .map ((hS _ hv).trans h)
    | func f ha hb ra rb =>
      have hv : (Array.isEmpty _ && Array.isEmpty _) = true := hv
      simp only [Bool.and_eq_true, Array.isEmpty_iff] at hv
      obtain ⟨rfl, rfl⟩ := hv
      exact .func f ha hb (fun j x y hx => by simp at hx) (fun j x y hx => by simp at hx)
    | yield h => cases hv
    | nilFunc => exact .nilFunc
    | nilIface => exact .nilIface
    | iface t h => cases hv
    | agg ha ra => cases hv
    | tuple ha ra => cases hv
  | succ n ih =>
    intro v v' h hv
    cases h with
    | bool b => exact .bool b
    | int k n => exact .int k n
    | str s => exact .str s
    | ptrNil => exact .ptrNil
    | ptr h => exact .ptr ((hS _ hv).trans h)
    | sliceNil => exact .sliceNil
    | slice h hc hl => exact .slice ((hS _ hv).trans h) hc hl
    | sliceO h he hl hs hb => exact .sliceO ((hS _ hv).trans h) he hl hs hb
    | sliceE h he hb => exact .sliceE ((hS _ hv).trans h) he hb
    | sliceD h hm => exact .sliceD ((hS _ hv).trans h) hm
    | mapNil => exact .mapNil
    | map h => exact .map ((hS _ hv).trans h)
    | func f ha hb ra rb =>
      have hv : (Array.isEmpty _ && Array.isEmpty _) = true := hv
      simp only [Bool.and_eq_true, Array.isEmpty_iff] at hv
      obtain ⟨rfl, rfl⟩ := hv
      exact .func f ha hb (fun j x y hx => by simp at hx) (fun j x y hx => by simp at hx)
    | yield h => cases hv
    | nilFunc => exact .nilFunc
    | nilIface => exact .nilIface
    | iface t h => exact .iface t (ih h hv)
    | agg ha ra =>
      exact .agg ha (fun j x y hx hy => ih (ra j x y hx hy) (List.all_eq_true.1 (show (Array.toList _).all (refF S n) = true from hv) x (Array.mem_toList_iff.2 (Array.mem_of_getElem? hx))))
    | tuple ha ra =>
      exact .tuple ha (fun j x y hx hy => ih (ra j x y hx hy) (List.all_eq_true.1 (show (Array.toList _).all (refF S n) = true from hv) x (Array.mem_toList_iff.2 (Array.mem_of_getElem? hx))))
def refO (S : Nat → Bool) : IObj → Bool
  | .cells cs _ => cs.all (refF S 4)
  | .map es _ => es.all fun e => refF S 4 e.1 && refF S 4 e.2.1
  | .glob _ _ => true
  | .dead => true
  | .loop _ _ _ _ => false
theorem OR.agree {ρ σ : Rho} {S : Nat → Bool} (hS : ∀ i, S i = true → σ i = ρ i) {w : World} {R : RB} {o : IObj} (h : OR P ρ w R o) (ho : refO S o = true) : OR P σ w R o := by
  cases o with
  | cells cs esz =>
    obtain ⟨h1, h2, c, t, fr, h3, h7, h4, h5, h6⟩ := h
    exact ⟨h1, h2, c, t, fr, h3, h7, h4, h5, fun j v hj => let ⟨v', a, b⟩ := h6 j v hj; ⟨v', a, b.imp id (fun b => b.agree hS 4 (List.all_eq_true.1 ho v (List.mem_of_getElem? hj)))⟩⟩
  | map es clock =>
    obtain ⟨es', h1, h2, h3⟩ := h
    refine ⟨es', h1, h2, fun j e hj => ?_⟩
    obtain ⟨e', a, b, c, d⟩ := h3 j e hj
    have := List.all_eq_true.1 ho e (List.mem_of_getElem? hj)
    rw [Bool.and_eq_true] at this
    exact ⟨e', a, b.agree hS 4 this.1, c.agree hS 4 this.2, d⟩
  | glob b x => exact h
  | loop _ _ _ _ => cases ho
  | dead => trivial
theorem VRL.agree {ρ σ : Rho} {S : Nat → Bool} (hS : ∀ i, S i = true → σ i = ρ i) {xs ys : List Value} (h : VRL ρ xs ys) (hx : xs.all (refF S 4) = true) : VRL σ xs ys :=
  ⟨h.1, fun j x y h1 h2 => (h.2 j x y h1 h2).agree hS 4 (List.all_eq_true.1 hx x (List.mem_of_getElem? h1))⟩

/-! ### Pieces -/
structure Piece where
  args : List Value
  next : Nat
  pre : List (Nat × IObj)
  val : Value
  next' : Nat
  post : List (Nat × IObj)
def setAll (l : List (Nat × IObj)) (t : PT IObj) : PT IObj := List.rec (motive := fun _ => PT IObj) t (fun x _ ih => ih.set (bits x.1) x.2) l
def matchH (h : H) (l : List (Nat × IObj)) : Bool := l.all fun x => match h.get x.1 with
  | some o => eqObj o x.2
  | none => false
def hasId (l : List (Nat × IObj)) (i : Nat) : Bool := l.any fun x => Nat.beq x.1 i
def Piece.fits (p : Piece) (args : List Value) (h : H) : Bool := Nat.beq h.next p.next && (allEq (eqX 4) args p.args && matchH h p.pre)
def Piece.out (p : Piece) (h : H) : Value × H := (p.val, ⟨p.next', setAll p.post h.mem⟩)
def piecesV (l : List Piece) (args : List Value) (h : H) : Option (Value × H) :=
  List.rec (motive := fun _ => Option (Value × H)) none (fun p _ ih => match p.fits args h with | true => some (p.out h) | false => ih) l
def Piece.start (p : Piece) : H := ⟨p.next, setAll p.pre .nil⟩
/-- the run comes to what is printed. -/
def Piece.ends (p : Piece) : Option Out → Bool
  | some (.val v h) => eqX 4 v p.val && (Nat.beq h.next p.next' && matchH h p.post)
  | _ => false
def Piece.runs (F : FuncId → Option CFunc) (n : Nat) (g : FuncId) (p : Piece) : Bool := p.ends (E F n (.call (.func (.func g) #[] #[]) p.args p.start))
/-- what is printed names only what is printed. -/
def Piece.good (p : Piece) : Bool :=
  Nat.ble p.next p.next' && (p.pre.all (fun x => Nat.blt x.1 p.next && hasId p.post x.1) && (p.post.all (fun x => hasId p.pre x.1 || (Nat.ble p.next x.1 && Nat.blt x.1 p.next')) &&
  (p.args.all (refF (hasId p.pre) 4) && (p.pre.all (fun x => liveO x.2 && refO (hasId p.pre) x.2) && (refF (hasId p.post) 4 p.val && p.post.all (fun x => refO (hasId p.post) x.2))))))

theorem hasId_iff {l : List (Nat × IObj)} {i : Nat} : hasId l i = true ↔ ∃ o, (i, o) ∈ l := by
  unfold hasId
  rw [List.any_eq_true]
  constructor
  · rintro ⟨⟨j, o⟩, h1, h2⟩; exact ⟨o, by rw [← Nat.eq_of_beq_eq_true h2]; exact h1⟩
  · rintro ⟨o, h⟩; exact ⟨(i, o), h, Nat.beq_refl i⟩
theorem setAll_out {l : List (Nat × IObj)} {t : PT IObj} {i : Nat} (h : hasId l i = false) : (setAll l t).get (bits i) = t.get (bits i) := by
  induction l with
  | nil => rfl
  | cons x l ih =>
    have h' : (Nat.beq x.1 i || hasId l i) = false := h
    rw [Bool.or_eq_false_iff] at h'
    show ((setAll l t).set (bits x.1) x.2).get (bits i) = _
    rw [PT.get_set_bits, if_neg (by rintro rfl; rw [Nat.beq_refl] at h'; cases h'.1), ih h'.2]
theorem setAll_in {l : List (Nat × IObj)} {t : PT IObj} {i : Nat} (h : hasId l i = true) : ∃ o, (i, o) ∈ l ∧ (setAll l t).get (bits i) = some o := by
  induction l with
  | nil => cases h
  | cons x l ih =>
    have e : (setAll (x :: l) t).get (bits i) = if x.1 = i then some x.2 else (setAll l t).get (bits i) := PT.get_set_bits _ _ _ _
    rw [e]
    by_cases hi : x.1 = i
    · rw [if_pos hi]; exact ⟨x.2, by subst hi; simp, rfl⟩
    · rw [if_neg hi]
      have h' : (Nat.beq x.1 i || hasId l i) = true := h
      rw [Bool.or_eq_true] at h'
      obtain ⟨o, h1, h2⟩ := ih (h'.resolve_left fun e => hi (Nat.eq_of_beq_eq_true e))
      exact ⟨o, by simp [h1], h2⟩
theorem matchH_mem {h : H} {l : List (Nat × IObj)} (hm : matchH h l = true) {i : Nat} {o : IObj} (hi : (i, o) ∈ l) : h.get i = some o := by
  have := List.all_eq_true.1 hm _ hi
  dsimp only at this
  split at this
  · rename_i o' ho; have e := eqObj_eq this; subst e; exact ho
  · cases this

theorem piece_calls {F : FuncId → Option CFunc} (hmix : P.follows .mixedOrders = true) (hF : ∀ g cf, F g = some cf → FnOk P g cf) {n : Nat} {g : FuncId} {p : Piece} (hg : p.good = true) (hrun : p.runs F n g = true)
    {args : List Value} {h : H} (hfit : p.fits args h = true) {ρ : Rho} {args' : Array Value} {w : World} (ra : VRL ρ args args'.toList) (hr : HR P ρ h w) :
    Calls P g args' w (VPost P ρ w (.val (p.out h).1 (p.out h).2)) := by
  simp only [Piece.good, Bool.and_eq_true] at hg
  obtain ⟨g1, g2, g3, g4, g5, g6, g7⟩ := hg
  simp only [Piece.fits, Bool.and_eq_true] at hfit
  obtain ⟨f1, f2, f3⟩ := hfit
  have f2 := allEq_eq (eqX_eq 4) f2
  subst f2
  have f1 := Nat.eq_of_beq_eq_true f1
  have g1 := Nat.le_of_ble_eq_true g1
  have preLt : ∀ i, hasId p.pre i = true → i < p.next ∧ hasId p.post i = true := fun i hi => by
    obtain ⟨o, ho⟩ := hasId_iff.1 hi
    have := List.all_eq_true.1 g2 _ ho
    rw [Bool.and_eq_true] at this
    exact ⟨Nat.le_of_ble_eq_true this.1, this.2⟩
  have postIn : ∀ i, hasId p.post i = true → hasId p.pre i = true ∨ (p.next ≤ i ∧ i < p.next') := fun i hi => by
    obtain ⟨o, ho⟩ := hasId_iff.1 hi
    have := List.all_eq_true.1 g3 _ ho
    rw [Bool.or_eq_true, Bool.and_eq_true] at this
    exact this.imp id fun h => ⟨Nat.le_of_ble_eq_true h.1, Nat.le_of_ble_eq_true h.2⟩
  have preGet : ∀ i, hasId p.pre i = true → ∃ o, h.get i = some o ∧ o ≠ .dead ∧ p.start.get i = some o ∧ refO (hasId p.pre) o = true := fun i hi => by
    obtain ⟨o, h1, h2⟩ := setAll_in (t := .nil) hi
    have q1 := matchH_mem f3 h1
    have q4 := List.all_eq_true.1 g5 _ h1
    rw [Bool.and_eq_true] at q4
    exact ⟨o, q1, by rintro rfl; exact Bool.false_ne_true q4.1, h2, q4.2⟩
  have preNo : ∀ i, hasId p.pre i = false → p.start.get i = none := fun i hi => (setAll_out hi).trans (PT.get_nil _)
  -- the relation cut to what the piece needs
  obtain ⟨ρ', hρ'⟩ : ∃ ρ' : Rho, ∀ i, ρ' i = if hasId p.pre i = true then ρ i else none := ⟨_, fun _ => rfl⟩
  have agr : ∀ i, hasId p.pre i = true → ρ' i = ρ i := fun i hi => by rw [hρ', if_pos hi]
  have sub : ∀ i R, ρ' i = some R → hasId p.pre i = true ∧ ρ i = some R := fun i R hi => by
    rw [hρ'] at hi
    split at hi
    · rename_i hc; exact ⟨hc, hi⟩
    · cases hi
  have hr' : HR P ρ' p.start w := {
    obj := fun i R o hi ho => by
      obtain ⟨hc, hi⟩ := sub i R hi
      obtain ⟨o', q1, q2, q3, q4⟩ := preGet i hc
      have e : o' = o := Option.some.inj (q3.symm.trans ho)
      subst e
      exact (hr.obj i R o' hi q1).agree agr q4
    nxt := fun i hi => by
      have hi : p.next ≤ i := hi
      have hc : hasId p.pre i = false := by
        rw [Bool.eq_false_iff]; intro hc; have := (preLt i hc).1; omega
      exact ⟨by rw [hρ', if_neg (by rw [hc]; simp)], preNo i hc⟩
    sep := fun i j R S hi hj _ _ e => by
      obtain ⟨hc, hi⟩ := sub i R hi
      obtain ⟨hd, hj⟩ := sub j S hj
      obtain ⟨o, q1, q2, -, -⟩ := preGet i hc
      obtain ⟨o', r1, r2, -, -⟩ := preGet j hd
      exact hr.sep i j R S hi hj ⟨o, q1, q2⟩ ⟨o', r1, r2⟩ e
    blk := fun i R hi => hr.blk i R (sub i R hi).2
    glb := fun i b x hi => by
      cases hc : hasId p.pre i with
      | false => rw [preNo i hc] at hi; cases hi
      | true =>
        obtain ⟨o', q1, -, q3, -⟩ := preGet i hc
        have e : o' = .glob b x := Option.some.inj (q3.symm.trans hi)
        subst e
        obtain ⟨R, hR⟩ := hr.glb i b x q1
        exact ⟨R, (agr i hc).trans hR⟩ }
  have ra' : VRL ρ' p.args args'.toList := ra.agree agr g4
  unfold Piece.runs at hrun
  generalize he : E F n (.call (.func (.func g) #[] #[]) p.args p.start) = out at hrun
  unfold Piece.ends at hrun
  split at hrun
  · rename_i v h2
    simp only [Bool.and_eq_true] at hrun
    obtain ⟨e1, e2, e3⟩ := hrun
    obtain rfl := eqX_eq _ _ _ e1
    have e2 := Nat.eq_of_beq_eq_true e2
    refine (calls_of_E hmix hF he ra' hr').mono ?_
    rintro e w' ⟨v', σ2, rfl, hv, hr2, hx⟩
    obtain ⟨σ, hσ⟩ : ∃ σ : Rho, ∀ i, σ i = if hasId p.post i = true then σ2 i else ρ i := ⟨_, fun _ => rfl⟩
    have agr2 : ∀ i, hasId p.post i = true → σ i = σ2 i := fun i hi => by rw [hσ, if_pos hi]
    have oth : ∀ i, hasId p.post i = false → σ i = ρ i := fun i hi => by rw [hσ, if_neg (by rw [hi]; simp)]
    have le : RhoLe ρ σ := fun i R hi => by
      cases hc : hasId p.post i with
      | false => rw [oth i hc]; exact hi
      | true =>
        rw [agr2 i hc]
        rcases postIn i hc with hp | ⟨hp, -⟩
        · exact hx.le i R ((agr i hp).trans hi)
        · have := (hr.nxt i (by omega)).1; rw [hi] at this; cases this
    have postGet : ∀ i, hasId p.post i = true → ∃ o, h2.get i = some o ∧ (p.out h).2.get i = some o ∧ refO (hasId p.post) o = true := fun i hi => by
      obtain ⟨o, h1, h3⟩ := setAll_in (t := h.mem) hi
      have q1 := matchH_mem e3 h1
      exact ⟨o, q1, h3, List.all_eq_true.1 g7 _ h1⟩
    have postNo : ∀ i, hasId p.post i = false → (p.out h).2.get i = h.get i := fun i hi => setAll_out hi
    -- what is not of the piece stands apart
    have apart : ∀ i R j S, hasId p.post i = true → σ2 i = some R → hasId p.post j = false → ρ j = some S → alive h j → R.blk ≠ S.blk := fun i R j S hi hiR hj hjS aj e => by
      rcases hx.fresh i R hiR with ⟨k, T, hk, hT⟩ | hb
      · obtain ⟨hc, hk⟩ := sub k T hk
        obtain ⟨o, q1, q2, -, -⟩ := preGet k hc
        have := hr.sep k j T S hk hjS ⟨o, q1, q2⟩ aj (hT.trans e)
        subst this
        rw [(preLt k hc).2] at hj; cases hj
      · have := hr.blk j S hjS; omega
    have hrN : HR P σ (p.out h).2 w' := {
      obj := fun i R o hi ho => by
        cases hc : hasId p.post i with
        | true =>
          rw [agr2 i hc] at hi
          obtain ⟨o', q1, q3, q4⟩ := postGet i hc
          have e : o' = o := Option.some.inj (q3.symm.trans ho)
          subst e
          exact (hr2.obj i R o' hi q1).agree agr2 q4
        | false =>
          rw [oth i hc] at hi
          rw [postNo i hc] at ho
          by_cases hd : o = .dead
          · subst hd; trivial
          · refine (hr.obj i R o hi ho).mono le (hx.frame _ (hr.blk i R hi) fun j S hj e => ?_)
            obtain ⟨hp, hj⟩ := sub j S hj
            obtain ⟨o', q1, q2, -, -⟩ := preGet j hp
            have := hr.sep j i S R hj hi ⟨o', q1, q2⟩ ⟨o, ho, hd⟩ e
            subst this
            rw [(preLt j hp).2] at hc; cases hc
      nxt := fun i hi => by
        have hi : p.next' ≤ i := hi
        have hc : hasId p.post i = false := by
          rw [Bool.eq_false_iff]; intro hc
          rcases postIn i hc with hp | hp
          · have := (preLt i hp).1; omega
          · omega
        rw [oth i hc, postNo i hc]
        exact hr.nxt i (by omega)
      sep := fun i j R S hi hj ai aj e => by
        have al : ∀ k, hasId p.post k = true → alive (p.out h).2 k → alive h2 k := fun k hk ⟨o, h1, h3⟩ => by
          obtain ⟨o', q1, q2, -⟩ := postGet k hk
          have e : o' = o := Option.some.inj (q2.symm.trans h1)
          subst e; exact ⟨o', q1, h3⟩
        have al' : ∀ k, hasId p.post k = false → alive (p.out h).2 k → alive h k := fun k hk ⟨o, h1, h3⟩ => ⟨o, (postNo k hk).symm.trans h1, h3⟩
        cases hc : hasId p.post i with
        | true =>
          rw [agr2 i hc] at hi
          cases hd : hasId p.post j with
          | true => rw [agr2 j hd] at hj; exact hr2.sep i j R S hi hj (al i hc ai) (al j hd aj) e
          | false => rw [oth j hd] at hj; exact absurd e (apart i R j S hc hi hd hj (al' j hd aj))
        | false =>
          rw [oth i hc] at hi
          cases hd : hasId p.post j with
          | true => rw [agr2 j hd] at hj; exact absurd e.symm (apart j S i R hd hj hc hi (al' i hc ai))
          | false => rw [oth j hd] at hj; exact hr.sep i j R S hi hj (al' i hc ai) (al' j hd aj) e
      blk := fun i R hi => by
        cases hc : hasId p.post i with
        | true => rw [agr2 i hc] at hi; exact hr2.blk i R hi
        | false => rw [oth i hc] at hi; exact Nat.lt_of_lt_of_le (hr.blk i R hi) hx.size
      glb := fun i b x hi => by
        cases hc : hasId p.post i with
        | true =>
          obtain ⟨o', q1, q3, -⟩ := postGet i hc
          have e : o' = .glob b x := Option.some.inj (q3.symm.trans hi)
          subst e
          obtain ⟨R, hR⟩ := hr2.glb i b x q1
          exact ⟨R, (agr2 i hc).trans hR⟩
        | false =>
          rw [postNo i hc] at hi
          obtain ⟨R, hR⟩ := hr.glb i b x hi
          exact ⟨R, (oth i hc).trans hR⟩ }
    refine ⟨_, _, v', σ, rfl, rfl, hv.agree agr2 4 g6, hrN, le, hx.size, fun i R hi => ?_, fun B hB hn => hx.frame B hB fun i R hi => hn i R (sub i R hi).2, hx.loops, hx.os, hx.out, hx.froz, hx.td⟩
    cases hc : hasId p.post i with
    | true =>
      rw [agr2 i hc] at hi
      rcases hx.fresh i R hi with ⟨j, S, hj, e⟩ | hb
      · exact .inl ⟨j, S, (sub j S hj).2, e⟩
      · exact .inr hb
    | false => rw [oth i hc] at hi; exact .inl ⟨i, R, hi, rfl⟩
  · cases hrun

/-- the calls of a function of which all are printed. -/
theorem pieces_ok (hmix : P.follows .mixedOrders = true) {g : FuncId} {fn : Func} {cf0 : CFunc} (hfn : P.funcs[g]? = some fn) (hcf : compileFunc P fn = some (stripF cf0))
    {l : List Piece} (hl : ∀ p ∈ l, p.good = true ∧ ∃ F n, (∀ g cf, F g = some cf → FnOk P g cf) ∧ p.runs F n g = true) : FnOk P g (primW (piecesV l) cf0) := by
  refine .inr (.inr (.inr ⟨_, fn, cf0, rfl, ⟨fun args w => ?_, fun args h v h' hp ρ args' w ra hr => ?_⟩, hfn, hcf⟩))
  · obtain ⟨hname, c, hbody, -⟩ := compileFunc_some hcf
    have hne : ¬ fn.name = "runtime.NumGoroutine" := by simpa using hname
    simp [callFunc, hfn, hne, hbody]
  · induction l with
    | nil => cases hp
    | cons p l ih =>
      have hp : (match p.fits args h with | true => some (p.out h) | false => piecesV l args h) = some (v, h') := hp
      split at hp
      · rename_i hfit
        obtain ⟨q1, F, n, hF, q2⟩ := hl p (by simp)
        have e : p.out h = (v, h') := Option.some.inj hp
        have := piece_calls hmix hF q1 q2 hfit ra hr
        rw [e] at this; exact this
      · exact ih (fun p hp => hl p (by simp [hp])) hp

/-! ### Tables -/
def lookE (l : List (Nat × CFunc)) (g : Nat) : Option CFunc := List.rec (motive := fun _ => Option CFunc) none (fun p _ ih => match Nat.beq p.1 g with | true => some p.2 | false => ih) l
theorem lookE_mem : ∀ {t : List (Nat × CFunc)} {g : Nat} {cf : CFunc}, lookE t g = some cf → ∃ p ∈ t, p.1 = g ∧ p.2 = cf
  | [], g, x, h => by cases h
  | p :: t, g, x, h => by
    have h : (match Nat.beq p.1 g with | true => some p.2 | false => lookE t g) = some x := h
    split at h
    · rename_i e; cases h; exact ⟨p, by simp, Nat.eq_of_beq_eq_true e, rfl⟩
    · obtain ⟨q, hq, e⟩ := lookE_mem h; exact ⟨q, by simp [hq], e⟩
def overF (l : List (Nat × CFunc)) (F : FuncId → Option CFunc) : FuncId → Option CFunc := fun g => match lookE l g with
  | some cf => some cf
  | none => F g
theorem over_ok {l : List (Nat × CFunc)} {F : FuncId → Option CFunc} (hl : ∀ p ∈ l, FnOk P p.1 p.2) (hF : ∀ g cf, F g = some cf → FnOk P g cf) : ∀ g cf, overF l F g = some cf → FnOk P g cf := by
  intro g cf h
  unfold overF at h
  split at h
  · rename_i c hc; cases h; obtain ⟨p, hp, rfl, rfl⟩ := lookE_mem hc; exact hl p hp
  · exact hF g cf h
theorem look_ok {l : List (Nat × CFunc)} (hl : ∀ p ∈ l, FnOk P p.1 p.2) : ∀ g cf, lookE l g = some cf → FnOk P g cf := fun g cf h => by
  obtain ⟨p, hp, rfl, rfl⟩ := lookE_mem h; exact hl p hp
/-- a closed run answers true, and the variable of a package is as it was. -/
def endsT (x : Value) : Option Out → Bool
  | some (.val (.bool true) h) => (match h.get 0 with | some o => eqObj o (.glob 0 x) | none => false)
  | _ => false
theorem endsT_some {x : Value} {o : Option Out} (h : endsT x o = true) : ∃ h', o = some (.val (.bool true) h') ∧ h'.get 0 = some (.glob 0 x) := by
  unfold endsT at h
  split at h
  · rename_i h'
    split at h
    · rename_i o ho; exact ⟨_, rfl, by rw [ho, eqObj_eq h]⟩
    · cases h
  · cases h
def endsTrue : Option Out → Bool
  | some (.val (.bool true) _) => true
  | _ => false
theorem endsTrue_some {o : Option Out} (h : endsTrue o = true) : ∃ h', o = some (.val (.bool true) h') := by
  unfold endsTrue at h
  split at h
  · exact ⟨_, rfl⟩
  · cases h
end
end Go.Ideal
/- errors.As at the one target of this program: Go's own text is walked. -/
set_option maxRecDepth 100000
namespace Go.Proofs.YtjenboicbpiiiaaGreatDoor
open Go.RowKit Go.Extern.Stop Go.Stop Go.Extern

theorem as_nil (t : Value) (w : World) :
    Calls Tryz.prog 25 #[.nilIface, t] w fun e w' => e = .returned (.bool false) ∧ w' = w := by
  go_enter Tryz.func25, Tryz.ntmps25
  go_wp2
  go_ret
  exact ⟨rfl, rfl⟩

/-! closed facts on the model's entries for internal/reflectlite: 100: the error's type · 102: its pointer · 93: error · 202: reflectlite's rtype · 1: how many package-level variables there are -/
theorem valueOf102 (t : Addr) (w : World) : (ReflectliteValue.unpack (.iface 102 (.pointer (some t)))).run Tryz.prog w
    = .ok (.agg #[.pointer (some ⟨1, 102, none⟩), .pointer (some ⟨w.heap.size, 0, none⟩), .int .u64 150]) (w.alloc (.cells #[.pointer (some t)] 102)) := by kernel_rfl
theorem type102 (a : Addr) (w : World) : (ReflectliteValue.methodAny (ReflectliteValue.valueError "reflectlite.Value.Type" 0) (fun t _ _ _ => ReflectliteType.toType t) #[.agg #[.pointer (some ⟨1, 102, none⟩), .pointer (some a), .int .u64 150]]).run Tryz.prog w
    = .ok (.iface 202 (.agg #[.pointer (some ⟨1, 102, none⟩)])) w := by kernel_rfl
theorem methodKind (h : Value) (w : World) : (Go.method 424 202 (.agg #[h]) "Kind").run Tryz.prog w = .ok (178, h) w := by kernel_rfl
theorem kind102 (w : World) : ((ReflectliteType.abiMethod fun t => (fun a : Nat => Value.int IntKind.u8 (a : Int)) <$> Rtype.kind t) #[.pointer (some ⟨1, 102, none⟩)]).run Tryz.prog w = .ok (.int .u8 22) w := by kernel_rfl
theorem kind100 (w : World) : ((ReflectliteType.abiMethod fun t => (fun a : Nat => Value.int IntKind.u8 (a : Int)) <$> Rtype.kind t) #[.pointer (some ⟨1, 100, none⟩)]).run Tryz.prog w = .ok (.int .u8 25) w := by kernel_rfl

theorem rlm (z : Sem Value) (f : TypeId → Addr → Nat → Nat → Sem Value) (v : Value) :
    ReflectliteValue.method z f #[v] = (do match ← ReflectliteValue.parts v with | none => z | some (t, a, fl) => f t a fl (fl % 32)) := rfl
theorem parts102 (a : Addr) (w : World) : (ReflectliteValue.parts (.agg #[.pointer (some ⟨1, 102, none⟩), .pointer (some a), .int .u64 150])).run Tryz.prog w = .ok (some (102, a, 150)) w := by kernel_rfl
theorem isNil102 (a p : Addr) (W : World) (ha : W.cell? a = some (.pointer (some p))) :
    (ReflectliteValue.method (ReflectliteValue.valueError "reflectlite.Value.IsNil" 0) ReflectliteValue.isNil #[.agg #[.pointer (some ⟨1, 102, none⟩), .pointer (some a), .int .u64 150]]).run Tryz.prog W = .ok (.bool false) W := by
  rw [rlm]
  simp only [Sem.run_bind, parts102, Result.andThen]
  simp [ReflectliteValue.isNil, loadVar, isAgg, underlying, Tryz.underlying102, ha, Result.andThen]

theorem methodElem (h : Value) (w : World) : (Go.method 424 202 (.agg #[h]) "Elem").run Tryz.prog w = .ok (188, .agg #[h]) w := by kernel_rfl
theorem methodImplements (h : Value) (w : World) : (Go.method 424 202 (.agg #[h]) "Implements").run Tryz.prog w = .ok (189, .agg #[h]) w := by kernel_rfl
theorem methodAssignableTo (h : Value) (w : World) : (Go.method 424 202 (.agg #[h]) "AssignableTo").run Tryz.prog w = .ok (186, .agg #[h]) w := by kernel_rfl
theorem elem102 (w : World) : (ReflectliteType.method ReflectliteType.elem #[.agg #[.pointer (some ⟨1, 102, none⟩)]]).run Tryz.prog w = .ok (.iface 202 (.agg #[.pointer (some ⟨1, 100, none⟩)])) w := by kernel_rfl
theorem implements100 (w : World) : (ReflectliteType.relation "Implements" ReflectliteType.implements_ #[.agg #[.pointer (some ⟨1, 100, none⟩)], .iface 202 (.agg #[.pointer (some ⟨1, 93, none⟩)])]).run Tryz.prog w = .ok (.bool true) w := by kernel_rfl
theorem typeOf100 (v : Value) (w : World) : (ReflectliteType.typeOf #[.iface 100 v]).run Tryz.prog w = .ok (.iface 202 (.agg #[.pointer (some ⟨1, 100, none⟩)])) w := by kernel_rfl
theorem assignable100 (w : World) : (ReflectliteType.relation "AssignableTo" ReflectliteType.assignableTo #[.agg #[.pointer (some ⟨1, 100, none⟩)], .iface 202 (.agg #[.pointer (some ⟨1, 100, none⟩)])]).run Tryz.prog w = .ok (.bool true) w := by kernel_rfl
theorem valueOf100 (s : ByteArray) (w : World) : (ReflectliteValue.unpack (.iface 100 (.agg #[.string s]))).run Tryz.prog w
    = .ok (.agg #[.pointer (some ⟨1, 100, none⟩), .pointer (some ⟨w.heap.size, 0, none⟩), .int .u64 153]) (w.alloc (.cells #[.string s] 100)) := by kernel_rfl

theorem elemOf102 (w : World) : (Rtype.elem? 102).run Tryz.prog w = .ok (some 100) w := by kernel_rfl
theorem mk100 (p : Addr) (w : World) : (ReflectliteValue.mk 100 p ReflectliteValue.flagAddr).run Tryz.prog w = .ok (.agg #[.pointer (some ⟨1, 100, none⟩), .pointer (some p), .int .u64 409]) w := by kernel_rfl
theorem elemV102 (a p : Addr) (W : World) (ha : W.cell? a = some (.pointer (some p))) :
    (ReflectliteValue.method (ReflectliteValue.valueError "reflectlite.Value.Elem" 0) ReflectliteValue.elem #[.agg #[.pointer (some ⟨1, 102, none⟩), .pointer (some a), .int .u64 150]]).run Tryz.prog W
      = .ok (.agg #[.pointer (some ⟨1, 100, none⟩), .pointer (some p), .int .u64 409]) W := by
  rw [rlm]
  simp only [Sem.run_bind, parts102, Result.andThen]
  simp [ReflectliteValue.elem, loadVar, isAgg, underlying, Tryz.underlying102, ha, Result.andThen, elemOf102, mk100]
theorem rls (v x : Value) : ReflectliteValue.set #[v, x] = (do
    let (some (dst, a, fl), some (src, b, _)) := (← ReflectliteValue.parts v, ← ReflectliteValue.parts x)
      | unsupported (.noEntry "extern/(internal/reflectlite.Value).Set.zeroValue")
    if fl / ReflectliteValue.flagAddr % 2 == 0 then unsupported (.noEntry "extern/(internal/reflectlite.Value).Set.unaddressable")
    let val ← loadVar src b
    if ← Rtype.directlyAssignable dst src then storeVar dst a val
    else if ← Rtype.implements dst src then
      if (← Rtype.kind src) == 20 then
        match val with
        | .nilIface => unsupported (.noEntry "extern/reflectlite: a nil value of one interface type handed on as a value of another")
        | _ => storeVar dst a val
      else storeVar dst a (.iface src val)
    else panicString ("reflectlite.Set: value of type " ++ (← Rtype.spelt src) ++ " is not assignable to type " ++ (← Rtype.spelt dst))
    pure (.tuple #[])) := rfl
theorem parts100a (a : Addr) (w : World) : (ReflectliteValue.parts (.agg #[.pointer (some ⟨1, 100, none⟩), .pointer (some a), .int .u64 409])).run Tryz.prog w = .ok (some (100, a, 409)) w := by kernel_rfl
theorem parts100 (a : Addr) (w : World) : (ReflectliteValue.parts (.agg #[.pointer (some ⟨1, 100, none⟩), .pointer (some a), .int .u64 153])).run Tryz.prog w = .ok (some (100, a, 153)) w := by kernel_rfl
theorem direct100 (w : World) : (Rtype.directlyAssignable 100 100).run Tryz.prog w = .ok true w := by kernel_rfl
theorem size100 (w : World) : (sizeOf 100).run Tryz.prog w = .ok 1 w := by kernel_rfl
theorem load100 (b : Addr) (s : ByteArray) (W : World) (hb : W.cell? b = some (.string s)) : (loadVar 100 b).run Tryz.prog W = .ok (.agg #[.string s]) W := by
  simp [loadVar, isAgg, underlying, Tryz.underlying100, size100, loadCells, loadCellsFrom, Addr.add, hb, Result.andThen]
theorem set100 (ta b : Addr) (s : ByteArray) (W W' : World) (hb : W.cell? b = some (.string s)) (hst : (storeCells ta [.string s]).run Tryz.prog W = .ok () W') :
    (ReflectliteValue.set #[.agg #[.pointer (some ⟨1, 100, none⟩), .pointer (some ta), .int .u64 409], .agg #[.pointer (some ⟨1, 100, none⟩), .pointer (some b), .int .u64 153]]).run Tryz.prog W
      = .ok (.tuple #[]) W' := by
  rw [rls]
  simp only [Sem.run_bind, parts100a, parts100, Result.andThen]
  simp [ReflectliteValue.flagAddr, load100 b s W hb, Result.andThen, direct100, storeVar, Value.cells, size100, hst]
end Go.Proofs.YtjenboicbpiiiaaGreatDoor
/- errors.As at the one target of this program: where it finds the error; as a primitive of the ideal machine. -/
set_option maxRecDepth 100000
namespace Go.Proofs.YtjenboicbpiiiaaGreatDoor
open Go.RowKit Go.Extern.Stop Go.Stop Go.Extern
/-- the world at which the error is stored. -/
def asWorld (w : World) (t : Addr) (s : ByteArray) : World := (((w.alloc (.cells #[.pointer (some t)] 102)).alloc (.cells #[.pointer (some ⟨1, 102, none⟩), .pointer (some ⟨w.heap.size, 0, none⟩), .int .u64 150] 148)).alloc (.cells #[.pointer (some ⟨1, 102, none⟩), .pointer (some ⟨w.heap.size, 0, none⟩), .int .u64 150] 148)).alloc (.cells #[.string s] 100)
set_option maxHeartbeats 4000000 in
theorem as_hit (s : ByteArray) (t : Addr) (w w' : World) (hg : w.cell? ⟨0, 0, none⟩ = some (.iface 202 (.agg #[.pointer (some ⟨1, 93, none⟩)]))) (hst : (storeCells t [.string s]).run Tryz.prog (asWorld w t s) = .ok () w') :
    Calls Tryz.prog 25 #[.iface 100 (.agg #[.string s]), .iface 102 (.pointer (some t))] w fun ev w2 => ev = .returned (.bool true) ∧ w2 = w' := by
  have h6 := @run_callFunc_extern Tryz.prog 50 _ (fun args => ReflectliteValue.unpack (args.getD 0 (.tuple #[]))) Tryz.func50 (by kernel_rfl) (by kernel_rfl) (by kernel_rfl) (by kernel_rfl)
  have h7 := @run_callFunc_extern Tryz.prog 51 _ (ReflectliteValue.methodAny (ReflectliteValue.valueError "reflectlite.Value.Type" 0) (fun t _ _ _ => ReflectliteType.toType t)) Tryz.func51 (by kernel_rfl) (by kernel_rfl) (by kernel_rfl) (by kernel_rfl)
  have h8 := @run_callFunc_extern Tryz.prog 52 _ (ReflectliteValue.method (ReflectliteValue.valueError "reflectlite.Value.IsNil" 0) ReflectliteValue.isNil) Tryz.func52 (by kernel_rfl) (by kernel_rfl) (by kernel_rfl) (by kernel_rfl)
  have h27 := @run_callFunc_extern Tryz.prog 178 _ (ReflectliteType.abiMethod fun t => do pure (.int .u8 (← Rtype.kind t))) Tryz.func178 (by kernel_rfl) (by kernel_rfl) (by kernel_rfl) (by kernel_rfl)
  have h37 := @run_callFunc_extern Tryz.prog 188 _ (ReflectliteType.method ReflectliteType.elem) Tryz.func188 (by kernel_rfl) (by kernel_rfl) (by kernel_rfl) (by kernel_rfl)
  have h38 := @run_callFunc_extern Tryz.prog 189 _ (ReflectliteType.relation "Implements" ReflectliteType.implements_) Tryz.func189 (by kernel_rfl) (by kernel_rfl) (by kernel_rfl) (by kernel_rfl)
  have h10 := @run_callFunc_extern Tryz.prog 88 _ ReflectliteType.typeOf Tryz.func88 (by kernel_rfl) (by kernel_rfl) (by kernel_rfl) (by kernel_rfl)
  have h35 := @run_callFunc_extern Tryz.prog 186 _ (ReflectliteType.relation "AssignableTo" ReflectliteType.assignableTo) Tryz.func186 (by kernel_rfl) (by kernel_rfl) (by kernel_rfl) (by kernel_rfl)
  have h11 := @run_callFunc_extern Tryz.prog 89 _ (ReflectliteValue.method (ReflectliteValue.valueError "reflectlite.Value.Elem" 0) ReflectliteValue.elem) Tryz.func89 (by kernel_rfl) (by kernel_rfl) (by kernel_rfl) (by kernel_rfl)
  have h12 := @run_callFunc_extern Tryz.prog 90 _ ReflectliteValue.set Tryz.func90 (by kernel_rfl) (by kernel_rfl) (by kernel_rfl) (by kernel_rfl)
  have tO := typeOf100
  have mA := methodAssignableTo
  have a25 := assignable100
  have v25 := valueOf100
  have f6 := valueOf102
  have f7 := type102
  have mK := methodKind
  have mE := methodElem
  have mI := methodImplements
  have k27 := kind102
  have k25 := kind100
  have e27 := elem102
  have i25 := implements100
  have n8 := isNil102 ⟨w.heap.size, 0, none⟩ t ((w.alloc (.cells #[.pointer (some t)] 102)).alloc (.cells #[.pointer (some ⟨1, 102, none⟩), .pointer (some ⟨w.heap.size, 0, none⟩), .int .u64 150] 148)) (by simp)
  have hlt : 0 < w.heap.size := by
    rcases Nat.eq_zero_or_pos w.heap.size with h0 | h
    · simp [World.cell?, h0] at hg
    · exact h
  have hg2 : ((w.alloc (.cells #[.pointer (some t)] 102)).alloc (.cells #[.pointer (some ⟨1, 102, none⟩), .pointer (some ⟨w.heap.size, 0, none⟩), .int .u64 150] 148)).cell? ⟨0, 0, none⟩ = some (.iface 202 (.agg #[.pointer (some ⟨1, 93, none⟩)])) := by
    rw [World.cell?_alloc_lt _ _ ⟨0, 0, none⟩ (by simp), World.cell?_alloc_lt _ _ ⟨0, 0, none⟩ hlt]; exact hg
  have el := elemV102 ⟨w.heap.size, 0, none⟩ t (((w.alloc (.cells #[.pointer (some t)] 102)).alloc (.cells #[.pointer (some ⟨1, 102, none⟩), .pointer (some ⟨w.heap.size, 0, none⟩), .int .u64 150] 148)).alloc (.cells #[.pointer (some ⟨1, 102, none⟩), .pointer (some ⟨w.heap.size, 0, none⟩), .int .u64 150] 148)) (by rw [World.cell?_alloc_lt _ _ ⟨w.heap.size, 0, none⟩ (by simp; omega)]; simp)
  have st := set100 t ⟨w.heap.size + 1 + 1 + 1, 0, none⟩ s (asWorld w t s) w' (by unfold asWorld; rw [World.cell?_alloc_at _ _ _ _ (by simp)]; rfl) hst
  unfold asWorld at st
  go_enter Tryz.func25, Tryz.ntmps25
  go_wp2
  refine wp_loop_rounds 1 ?_
  rw [rounds_succ]
  go_wp2
  go_ret
  exact ⟨rfl, rfl⟩
open Go.Ideal
/-- errors.As of this program. -/
noncomputable def asE : List Value → H → Option (Value × H) := asP 202 93 1 102 100 1
theorem str1 {v : Value} (h : isStr1 v = true) : ∃ s, v = .agg #[.string s] := by
  unfold isStr1 at h
  split at h
  · rename_i cs
    split at h
    · rename_i s hs
      exact ⟨s, by rw [← Array.toArray_toList (xs := cs), hs]⟩
    · cases h
  · cases h
theorem errT {x : Value} (h : isErrT 202 93 1 x = true) : x = .iface 202 (.agg #[.pointer (some ⟨1, 93, none⟩)]) := by
  unfold isErrT at h
  split at h
  · rename_i r cs
    rw [Bool.and_eq_true] at h
    obtain ⟨h1, h2⟩ := h
    split at h2
    · rename_i a hs
      simp only [Bool.and_eq_true, Option.isNone_iff_eq_none] at h2
      obtain ⟨g1, g2, g3⟩ := h2
      obtain ⟨b, o, sp⟩ := a
      have e1 : b = 1 := Nat.eq_of_beq_eq_true g1
      have e2 : o = 93 := Nat.eq_of_beq_eq_true g2
      have e3 : sp = none := g3
      subst e1 e2 e3
      rw [Nat.eq_of_beq_eq_true h1, ← Array.toArray_toList (xs := cs), hs]
    · cases h2
  · cases h
theorem VRL.two {ρ : Rho} {x y : Value} {args : Array Value} (h : VRL ρ [x, y] args.toList) : ∃ x' y', args = #[x', y'] ∧ VR ρ x x' ∧ VR ρ y y' := by
  obtain ⟨x', l, e, h1, h2⟩ := h.cons_left
  obtain ⟨y', l2, rfl, h3, h4⟩ := h2.cons_left
  rw [h4.nil_left] at e
  exact ⟨x', y', by rw [← Array.toArray_toList (xs := args), e], h1, h3⟩
theorem asOk : FnOk Tryz.prog 25 (primP asE) := by
  refine .inr (.inr (.inl ⟨_, rfl, fun args w => ?_, fun args h v h' hp ρ args' w ra hr => ?_⟩))
  · have hb : Tryz.f25.body ≠ none := by rw [show (Tryz.f25.body ≠ none) = (Tryz.f25.body.isSome = true) from by simp [Option.isSome_iff_ne_none]]; kernel_rfl
    have hn : ¬ Tryz.f25.name = "runtime.NumGoroutine" := by decide +kernel
    simp [callFunc, Tryz.func25, hb, hn]
  · unfold asE asP at hp
    split at hp
    · cases hp
      obtain ⟨x', y', rfl, r1, r2⟩ := VRL.two ra
      obtain rfl := r1.inv_nilIface
      refine (as_nil y' w).mono ?_
      rintro e w' ⟨rfl, rfl⟩
      exact ⟨_, _, _, ρ, rfl, rfl, .bool _, hr, .refl _ _⟩
    · rename_i t v0 u a
      split at hp
      · rename_i hc
        rw [Bool.and_eq_true] at hc
        obtain rfl := Nat.eq_of_beq_eq_true hc.1
        obtain rfl := Nat.eq_of_beq_eq_true hc.2
        obtain ⟨o, ho, hp⟩ := aof hp
        unfold asIn at hp
        split at hp
        · rename_i b x
          split at hp
          · rename_i hcc
            simp only [Bool.and_eq_true, Option.isNone_iff_eq_none] at hcc
            obtain ⟨c1, c2, c3, c4, c5⟩ := hcc
            obtain rfl := Nat.eq_of_beq_eq_true c1
            obtain rfl := errT c2
            obtain ⟨s, rfl⟩ := str1 c3
            obtain ⟨hh, hw, hp⟩ := amf hp
            cases hp
            obtain ⟨x', y', rfl, r1, r2⟩ := VRL.two ra
            obtain ⟨e', rfl, r3⟩ := r1.inv_iface
            obtain ⟨ys, rfl, r4⟩ := r3.inv_agg
            obtain ⟨p', rfl, r5⟩ := r2.inv_iface
            obtain ⟨blk, off, sp⟩ := a
            simp only at c5
            subst c5
            obtain ⟨R, hR, rfl⟩ := r5.inv_ptr
            have es : ys = #[.string s] := by
              obtain ⟨z, l, e, h1, h2⟩ := r4.cons_left
              rw [h2.nil_left, h1.inv_str] at e
              rw [← Array.toArray_toList (xs := ys), e]
            subst es
            have hg : w.cell? ⟨0, 0, none⟩ = some (.iface 202 (.agg #[.pointer (some ⟨1, 93, none⟩)])) := by
              obtain ⟨R0, hR0⟩ := hr.glb 0 _ _ ho
              obtain ⟨g1, cc, ty, fr, -, g2, g3⟩ := hr.obj 0 R0 _ hR0 ho
              unfold World.cell?
              rw [g1] at g2
              rw [g2]; exact g3
            obtain ⟨a1, x1⟩ := hr.garbage (calm_cells #[.pointer (some ⟨R.blk, R.base + off, none⟩)] 102)
            obtain ⟨a2, x2⟩ := a1.garbage (calm_cells #[.pointer (some ⟨1, 102, none⟩), .pointer (some ⟨w.heap.size, 0, none⟩), .int .u64 150] 148)
            obtain ⟨a3, x3⟩ := a2.garbage (calm_cells #[.pointer (some ⟨1, 102, none⟩), .pointer (some ⟨w.heap.size, 0, none⟩), .int .u64 150] 148)
            obtain ⟨a4, x4⟩ := a3.garbage (calm_cells #[.string s] 100)
            obtain ⟨w', hrun, q1, q2⟩ := write_sim a4 hR (vs := [.string s]) (ws := [.string s]) (.cons (.str s) (.nil _)) (by simp) hw
            refine (as_hit s ⟨R.blk, R.base + off, none⟩ w w' hg hrun).mono ?_
            rintro e w2 ⟨rfl, rfl⟩
            exact ⟨_, _, _, ρ, rfl, rfl, .bool _, q1, (((x1.trans x2).trans x3).trans x4).trans q2⟩
          · cases hp
        · cases hp
      · cases hp
    · cases hp
end Go.Proofs.YtjenboicbpiiiaaGreatDoor
set_option maxRecDepth 100000
set_option maxHeartbeats 4000000
set_option linter.unusedVariables false
noncomputable section
namespace Go.Ideal.X
open Go Go.Ideal
abbrev oo (p : List Bool) (x : COp) : CI := ⟨some p, x, none, 0⟩
abbrev on (x : COp) : CI := ⟨none, x, none, 0⟩
abbrev og (p : List Bool) (x : COp) (q : List Bool) (b : Bool) : CI := ⟨some p, x, some (q, b), 0⟩
abbrev oC : Nat := openCap
abbrev iI (n : Int) : Value := .int .i64 n
abbrev pT (b o : Nat) : Value := .pointer (some ⟨b, o, none⟩)
abbrev sL (b o l c : Nat) : Value := .slice (some ⟨b, o, none⟩) l c
abbrev cL (cs : List Value) (e : Nat) : IObj := .cells cs e
abbrev p0 : List Bool := []
abbrev p1 : List Bool := [true]
abbrev p2 : List Bool := [false, true]
abbrev p3 : List Bool := [true, true]
abbrev p4 : List Bool := [false, false, true]
abbrev p5 : List Bool := [true, false, true]
abbrev p6 : List Bool := [false, true, true]
abbrev p7 : List Bool := [true, true, true]
abbrev p8 : List Bool := [false, false, false, true]
abbrev p9 : List Bool := [true, false, false, true]
abbrev p10 : List Bool := [false, true, false, true]
abbrev p11 : List Bool := [true, true, false, true]
abbrev p12 : List Bool := [false, false, true, true]
abbrev p13 : List Bool := [true, false, true, true]
abbrev p14 : List Bool := [false, true, true, true]
abbrev p15 : List Bool := [true, true, true, true]
abbrev p16 : List Bool := [false, false, false, false, true]
abbrev p17 : List Bool := [true, false, false, false, true]
abbrev p18 : List Bool := [false, true, false, false, true]
abbrev p19 : List Bool := [true, true, false, false, true]
abbrev p20 : List Bool := [false, false, true, false, true]
abbrev p21 : List Bool := [true, false, true, false, true]
abbrev p22 : List Bool := [false, true, true, false, true]
abbrev p23 : List Bool := [true, true, true, false, true]
abbrev p24 : List Bool := [false, false, false, true, true]
abbrev p25 : List Bool := [true, false, false, true, true]
abbrev p26 : List Bool := [false, true, false, true, true]
abbrev p27 : List Bool := [true, true, false, true, true]
abbrev p28 : List Bool := [false, false, true, true, true]
abbrev p29 : List Bool := [true, false, true, true, true]
abbrev p30 : List Bool := [false, true, true, true, true]
abbrev p31 : List Bool := [true, true, true, true, true]
abbrev p32 : List Bool := [false, false, false, false, false, true]
abbrev p33 : List Bool := [true, false, false, false, false, true]
abbrev p34 : List Bool := [false, true, false, false, false, true]
abbrev p35 : List Bool := [true, true, false, false, false, true]
abbrev p36 : List Bool := [false, false, true, false, false, true]
abbrev p37 : List Bool := [true, false, true, false, false, true]
abbrev p38 : List Bool := [false, true, true, false, false, true]
abbrev p39 : List Bool := [true, true, true, false, false, true]
abbrev p40 : List Bool := [false, false, false, true, false, true]
abbrev p41 : List Bool := [true, false, false, true, false, true]
abbrev p42 : List Bool := [false, true, false, true, false, true]
abbrev p43 : List Bool := [true, true, false, true, false, true]
abbrev p44 : List Bool := [false, false, true, true, false, true]
abbrev p45 : List Bool := [true, false, true, true, false, true]
abbrev p46 : List Bool := [false, true, true, true, false, true]
abbrev p47 : List Bool := [true, true, true, true, false, true]
abbrev p48 : List Bool := [false, false, false, false, true, true]
abbrev p49 : List Bool := [true, false, false, false, true, true]
abbrev p50 : List Bool := [false, true, false, false, true, true]
abbrev p51 : List Bool := [true, true, false, false, true, true]
abbrev p52 : List Bool := [false, false, true, false, true, true]
abbrev p53 : List Bool := [true, false, true, false, true, true]
abbrev p54 : List Bool := [false, true, true, false, true, true]
abbrev p55 : List Bool := [true, true, true, false, true, true]
abbrev p56 : List Bool := [false, false, false, true, true, true]
abbrev p57 : List Bool := [true, false, false, true, true, true]
abbrev p58 : List Bool := [false, true, false, true, true, true]
abbrev p59 : List Bool := [true, true, false, true, true, true]
abbrev p60 : List Bool := [false, false, true, true, true, true]
abbrev p61 : List Bool := [true, false, true, true, true, true]
abbrev p62 : List Bool := [false, true, true, true, true, true]
abbrev p63 : List Bool := [true, true, true, true, true, true]
abbrev p64 : List Bool := [false, false, false, false, false, false, true]
abbrev p65 : List Bool := [true, false, false, false, false, false, true]
abbrev p66 : List Bool := [false, true, false, false, false, false, true]
abbrev p67 : List Bool := [true, true, false, false, false, false, true]
abbrev p68 : List Bool := [false, false, true, false, false, false, true]
abbrev p69 : List Bool := [true, false, true, false, false, false, true]
abbrev p70 : List Bool := [false, true, true, false, false, false, true]
abbrev p71 : List Bool := [true, true, true, false, false, false, true]
abbrev p72 : List Bool := [false, false, false, true, false, false, true]
abbrev p73 : List Bool := [true, false, false, true, false, false, true]
abbrev p74 : List Bool := [false, true, false, true, false, false, true]
abbrev p75 : List Bool := [true, true, false, true, false, false, true]
abbrev p76 : List Bool := [false, false, true, true, false, false, true]
abbrev p77 : List Bool := [true, false, true, true, false, false, true]
abbrev p78 : List Bool := [false, true, true, true, false, false, true]
abbrev p79 : List Bool := [true, true, true, true, false, false, true]
abbrev p80 : List Bool := [false, false, false, false, true, false, true]
abbrev p81 : List Bool := [true, false, false, false, true, false, true]
abbrev p82 : List Bool := [false, true, false, false, true, false, true]
abbrev p83 : List Bool := [true, true, false, false, true, false, true]
abbrev p84 : List Bool := [false, false, true, false, true, false, true]
abbrev p85 : List Bool := [true, false, true, false, true, false, true]
abbrev p86 : List Bool := [false, true, true, false, true, false, true]
abbrev p87 : List Bool := [true, true, true, false, true, false, true]
abbrev p88 : List Bool := [false, false, false, true, true, false, true]
abbrev p89 : List Bool := [true, false, false, true, true, false, true]
abbrev p90 : List Bool := [false, true, false, true, true, false, true]
abbrev p91 : List Bool := [true, true, false, true, true, false, true]
abbrev p92 : List Bool := [false, false, true, true, true, false, true]
abbrev p93 : List Bool := [true, false, true, true, true, false, true]
abbrev p94 : List Bool := [false, true, true, true, true, false, true]
abbrev p95 : List Bool := [true, true, true, true, true, false, true]
abbrev p96 : List Bool := [false, false, false, false, false, true, true]
abbrev p97 : List Bool := [true, false, false, false, false, true, true]
abbrev p98 : List Bool := [false, true, false, false, false, true, true]
abbrev p99 : List Bool := [true, true, false, false, false, true, true]
abbrev p100 : List Bool := [false, false, true, false, false, true, true]
abbrev p101 : List Bool := [true, false, true, false, false, true, true]
abbrev p102 : List Bool := [false, true, true, false, false, true, true]
abbrev p103 : List Bool := [true, true, true, false, false, true, true]
abbrev p104 : List Bool := [false, false, false, true, false, true, true]
abbrev p105 : List Bool := [true, false, false, true, false, true, true]
abbrev p106 : List Bool := [false, true, false, true, false, true, true]
abbrev p107 : List Bool := [true, true, false, true, false, true, true]
abbrev p108 : List Bool := [false, false, true, true, false, true, true]
abbrev p109 : List Bool := [true, false, true, true, false, true, true]
abbrev p110 : List Bool := [false, true, true, true, false, true, true]
abbrev p111 : List Bool := [true, true, true, true, false, true, true]
abbrev p112 : List Bool := [false, false, false, false, true, true, true]
abbrev p113 : List Bool := [true, false, false, false, true, true, true]
abbrev p114 : List Bool := [false, true, false, false, true, true, true]
abbrev p115 : List Bool := [true, true, false, false, true, true, true]
abbrev p116 : List Bool := [false, false, true, false, true, true, true]
abbrev p117 : List Bool := [true, false, true, false, true, true, true]
abbrev p118 : List Bool := [false, true, true, false, true, true, true]
abbrev p119 : List Bool := [true, true, true, false, true, true, true]
abbrev p120 : List Bool := [false, false, false, true, true, true, true]
abbrev p121 : List Bool := [true, false, false, true, true, true, true]
abbrev p122 : List Bool := [false, true, false, true, true, true, true]
abbrev p123 : List Bool := [true, true, false, true, true, true, true]
abbrev p124 : List Bool := [false, false, true, true, true, true, true]
abbrev p125 : List Bool := [true, false, true, true, true, true, true]
abbrev p126 : List Bool := [false, true, true, true, true, true, true]
abbrev p127 : List Bool := [true, true, true, true, true, true, true]
abbrev p128 : List Bool := [false, false, false, false, false, false, false, true]
abbrev p129 : List Bool := [true, false, false, false, false, false, false, true]
abbrev p130 : List Bool := [false, true, false, false, false, false, false, true]
abbrev p131 : List Bool := [true, true, false, false, false, false, false, true]
abbrev p132 : List Bool := [false, false, true, false, false, false, false, true]
abbrev p133 : List Bool := [true, false, true, false, false, false, false, true]
abbrev p134 : List Bool := [false, true, true, false, false, false, false, true]
abbrev p135 : List Bool := [true, true, true, false, false, false, false, true]
abbrev p136 : List Bool := [false, false, false, true, false, false, false, true]
abbrev p137 : List Bool := [true, false, false, true, false, false, false, true]
abbrev p138 : List Bool := [false, true, false, true, false, false, false, true]
abbrev p139 : List Bool := [true, true, false, true, false, false, false, true]
abbrev p140 : List Bool := [false, false, true, true, false, false, false, true]
abbrev p141 : List Bool := [true, false, true, true, false, false, false, true]
abbrev p142 : List Bool := [false, true, true, true, false, false, false, true]
abbrev p143 : List Bool := [true, true, true, true, false, false, false, true]
abbrev p144 : List Bool := [false, false, false, false, true, false, false, true]
abbrev p145 : List Bool := [true, false, false, false, true, false, false, true]
abbrev p146 : List Bool := [false, true, false, false, true, false, false, true]
abbrev p147 : List Bool := [true, true, false, false, true, false, false, true]
abbrev p148 : List Bool := [false, false, true, false, true, false, false, true]
abbrev p149 : List Bool := [true, false, true, false, true, false, false, true]
abbrev p150 : List Bool := [false, true, true, false, true, false, false, true]
abbrev p151 : List Bool := [true, true, true, false, true, false, false, true]
abbrev p152 : List Bool := [false, false, false, true, true, false, false, true]
abbrev p153 : List Bool := [true, false, false, true, true, false, false, true]
abbrev p154 : List Bool := [false, true, false, true, true, false, false, true]
abbrev p155 : List Bool := [true, true, false, true, true, false, false, true]
abbrev p156 : List Bool := [false, false, true, true, true, false, false, true]
abbrev p157 : List Bool := [true, false, true, true, true, false, false, true]
abbrev p158 : List Bool := [false, true, true, true, true, false, false, true]
abbrev p159 : List Bool := [true, true, true, true, true, false, false, true]
abbrev p160 : List Bool := [false, false, false, false, false, true, false, true]
abbrev p161 : List Bool := [true, false, false, false, false, true, false, true]
abbrev p162 : List Bool := [false, true, false, false, false, true, false, true]
abbrev p163 : List Bool := [true, true, false, false, false, true, false, true]
abbrev p164 : List Bool := [false, false, true, false, false, true, false, true]
abbrev p165 : List Bool := [true, false, true, false, false, true, false, true]
abbrev p166 : List Bool := [false, true, true, false, false, true, false, true]
abbrev p167 : List Bool := [true, true, true, false, false, true, false, true]
abbrev p168 : List Bool := [false, false, false, true, false, true, false, true]
abbrev p169 : List Bool := [true, false, false, true, false, true, false, true]
abbrev p170 : List Bool := [false, true, false, true, false, true, false, true]
abbrev p171 : List Bool := [true, true, false, true, false, true, false, true]
abbrev p172 : List Bool := [false, false, true, true, false, true, false, true]
abbrev p173 : List Bool := [true, false, true, true, false, true, false, true]
abbrev p174 : List Bool := [false, true, true, true, false, true, false, true]
abbrev p175 : List Bool := [true, true, true, true, false, true, false, true]
abbrev p176 : List Bool := [false, false, false, false, true, true, false, true]
abbrev p177 : List Bool := [true, false, false, false, true, true, false, true]
abbrev p178 : List Bool := [false, true, false, false, true, true, false, true]
abbrev p179 : List Bool := [true, true, false, false, true, true, false, true]
abbrev p180 : List Bool := [false, false, true, false, true, true, false, true]
abbrev p181 : List Bool := [true, false, true, false, true, true, false, true]
abbrev p182 : List Bool := [false, true, true, false, true, true, false, true]
abbrev p183 : List Bool := [true, true, true, false, true, true, false, true]
abbrev p184 : List Bool := [false, false, false, true, true, true, false, true]
abbrev p185 : List Bool := [true, false, false, true, true, true, false, true]
abbrev p186 : List Bool := [false, true, false, true, true, true, false, true]
abbrev p187 : List Bool := [true, true, false, true, true, true, false, true]
abbrev p188 : List Bool := [false, false, true, true, true, true, false, true]
abbrev p189 : List Bool := [true, false, true, true, true, true, false, true]
abbrev p190 : List Bool := [false, true, true, true, true, true, false, true]
abbrev p191 : List Bool := [true, true, true, true, true, true, false, true]
abbrev p192 : List Bool := [false, false, false, false, false, false, true, true]
abbrev p193 : List Bool := [true, false, false, false, false, false, true, true]
abbrev p194 : List Bool := [false, true, false, false, false, false, true, true]
abbrev p195 : List Bool := [true, true, false, false, false, false, true, true]
abbrev p196 : List Bool := [false, false, true, false, false, false, true, true]
abbrev p197 : List Bool := [true, false, true, false, false, false, true, true]
abbrev p198 : List Bool := [false, true, true, false, false, false, true, true]
abbrev p199 : List Bool := [true, true, true, false, false, false, true, true]
abbrev p200 : List Bool := [false, false, false, true, false, false, true, true]
abbrev p201 : List Bool := [true, false, false, true, false, false, true, true]
abbrev p202 : List Bool := [false, true, false, true, false, false, true, true]
abbrev p203 : List Bool := [true, true, false, true, false, false, true, true]
abbrev p204 : List Bool := [false, false, true, true, false, false, true, true]
abbrev p205 : List Bool := [true, false, true, true, false, false, true, true]
abbrev p206 : List Bool := [false, true, true, true, false, false, true, true]
abbrev p207 : List Bool := [true, true, true, true, false, false, true, true]
abbrev p208 : List Bool := [false, false, false, false, true, false, true, true]
abbrev p209 : List Bool := [true, false, false, false, true, false, true, true]
abbrev p210 : List Bool := [false, true, false, false, true, false, true, true]
abbrev p211 : List Bool := [true, true, false, false, true, false, true, true]
abbrev p212 : List Bool := [false, false, true, false, true, false, true, true]
abbrev p213 : List Bool := [true, false, true, false, true, false, true, true]
abbrev p214 : List Bool := [false, true, true, false, true, false, true, true]
abbrev p215 : List Bool := [true, true, true, false, true, false, true, true]
abbrev p216 : List Bool := [false, false, false, true, true, false, true, true]
abbrev p217 : List Bool := [true, false, false, true, true, false, true, true]
abbrev p218 : List Bool := [false, true, false, true, true, false, true, true]
abbrev p219 : List Bool := [true, true, false, true, true, false, true, true]
abbrev p220 : List Bool := [false, false, true, true, true, false, true, true]
abbrev p221 : List Bool := [true, false, true, true, true, false, true, true]
abbrev p222 : List Bool := [false, true, true, true, true, false, true, true]
abbrev p223 : List Bool := [true, true, true, true, true, false, true, true]
abbrev p224 : List Bool := [false, false, false, false, false, true, true, true]
abbrev p225 : List Bool := [true, false, false, false, false, true, true, true]
abbrev p226 : List Bool := [false, true, false, false, false, true, true, true]
abbrev p227 : List Bool := [true, true, false, false, false, true, true, true]
abbrev p228 : List Bool := [false, false, true, false, false, true, true, true]
abbrev p229 : List Bool := [true, false, true, false, false, true, true, true]
abbrev p230 : List Bool := [false, true, true, false, false, true, true, true]
abbrev p231 : List Bool := [true, true, true, false, false, true, true, true]
abbrev p232 : List Bool := [false, false, false, true, false, true, true, true]
abbrev p233 : List Bool := [true, false, false, true, false, true, true, true]
abbrev p234 : List Bool := [false, true, false, true, false, true, true, true]
abbrev p235 : List Bool := [true, true, false, true, false, true, true, true]
abbrev p236 : List Bool := [false, false, true, true, false, true, true, true]
abbrev p237 : List Bool := [true, false, true, true, false, true, true, true]
abbrev p238 : List Bool := [false, true, true, true, false, true, true, true]
abbrev p239 : List Bool := [true, true, true, true, false, true, true, true]
abbrev p240 : List Bool := [false, false, false, false, true, true, true, true]
abbrev p241 : List Bool := [true, false, false, false, true, true, true, true]
abbrev p242 : List Bool := [false, true, false, false, true, true, true, true]
abbrev p243 : List Bool := [true, true, false, false, true, true, true, true]
abbrev p244 : List Bool := [false, false, true, false, true, true, true, true]
abbrev p245 : List Bool := [true, false, true, false, true, true, true, true]
abbrev p246 : List Bool := [false, true, true, false, true, true, true, true]
abbrev p247 : List Bool := [true, true, true, false, true, true, true, true]
abbrev p248 : List Bool := [false, false, false, true, true, true, true, true]
abbrev p249 : List Bool := [true, false, false, true, true, true, true, true]
abbrev p250 : List Bool := [false, true, false, true, true, true, true, true]
abbrev p251 : List Bool := [true, true, false, true, true, true, true, true]
abbrev p252 : List Bool := [false, false, true, true, true, true, true, true]
abbrev p253 : List Bool := [true, false, true, true, true, true, true, true]
abbrev p254 : List Bool := [false, true, true, true, true, true, true, true]
abbrev p255 : List Bool := [true, true, true, true, true, true, true, true]
abbrev p256 : List Bool := [false, false, false, false, false, false, false, false, true]
abbrev p257 : List Bool := [true, false, false, false, false, false, false, false, true]
abbrev p258 : List Bool := [false, true, false, false, false, false, false, false, true]
abbrev p259 : List Bool := [true, true, false, false, false, false, false, false, true]
abbrev p260 : List Bool := [false, false, true, false, false, false, false, false, true]
abbrev p261 : List Bool := [true, false, true, false, false, false, false, false, true]
abbrev p262 : List Bool := [false, true, true, false, false, false, false, false, true]
abbrev p263 : List Bool := [true, true, true, false, false, false, false, false, true]
abbrev p264 : List Bool := [false, false, false, true, false, false, false, false, true]
abbrev p265 : List Bool := [true, false, false, true, false, false, false, false, true]
abbrev p266 : List Bool := [false, true, false, true, false, false, false, false, true]
abbrev p267 : List Bool := [true, true, false, true, false, false, false, false, true]
abbrev p268 : List Bool := [false, false, true, true, false, false, false, false, true]
abbrev p269 : List Bool := [true, false, true, true, false, false, false, false, true]
abbrev p270 : List Bool := [false, true, true, true, false, false, false, false, true]
abbrev p271 : List Bool := [true, true, true, true, false, false, false, false, true]
abbrev p272 : List Bool := [false, false, false, false, true, false, false, false, true]
abbrev p273 : List Bool := [true, false, false, false, true, false, false, false, true]
abbrev p274 : List Bool := [false, true, false, false, true, false, false, false, true]
abbrev p275 : List Bool := [true, true, false, false, true, false, false, false, true]
abbrev p276 : List Bool := [false, false, true, false, true, false, false, false, true]
abbrev p277 : List Bool := [true, false, true, false, true, false, false, false, true]
abbrev p278 : List Bool := [false, true, true, false, true, false, false, false, true]
abbrev p279 : List Bool := [true, true, true, false, true, false, false, false, true]
abbrev p280 : List Bool := [false, false, false, true, true, false, false, false, true]
abbrev p281 : List Bool := [true, false, false, true, true, false, false, false, true]
abbrev p282 : List Bool := [false, true, false, true, true, false, false, false, true]
abbrev p283 : List Bool := [true, true, false, true, true, false, false, false, true]
abbrev p284 : List Bool := [false, false, true, true, true, false, false, false, true]
abbrev p285 : List Bool := [true, false, true, true, true, false, false, false, true]
abbrev p286 : List Bool := [false, true, true, true, true, false, false, false, true]
abbrev p287 : List Bool := [true, true, true, true, true, false, false, false, true]
abbrev p288 : List Bool := [false, false, false, false, false, true, false, false, true]
abbrev p289 : List Bool := [true, false, false, false, false, true, false, false, true]
abbrev p290 : List Bool := [false, true, false, false, false, true, false, false, true]
abbrev p291 : List Bool := [true, true, false, false, false, true, false, false, true]
abbrev p292 : List Bool := [false, false, true, false, false, true, false, false, true]
abbrev p293 : List Bool := [true, false, true, false, false, true, false, false, true]
abbrev p294 : List Bool := [false, true, true, false, false, true, false, false, true]
abbrev p295 : List Bool := [true, true, true, false, false, true, false, false, true]
abbrev p296 : List Bool := [false, false, false, true, false, true, false, false, true]
abbrev p297 : List Bool := [true, false, false, true, false, true, false, false, true]
abbrev p298 : List Bool := [false, true, false, true, false, true, false, false, true]
abbrev p299 : List Bool := [true, true, false, true, false, true, false, false, true]
abbrev p300 : List Bool := [false, false, true, true, false, true, false, false, true]
abbrev p301 : List Bool := [true, false, true, true, false, true, false, false, true]
abbrev p302 : List Bool := [false, true, true, true, false, true, false, false, true]
abbrev p303 : List Bool := [true, true, true, true, false, true, false, false, true]
abbrev p304 : List Bool := [false, false, false, false, true, true, false, false, true]
abbrev p305 : List Bool := [true, false, false, false, true, true, false, false, true]
abbrev p306 : List Bool := [false, true, false, false, true, true, false, false, true]
abbrev p307 : List Bool := [true, true, false, false, true, true, false, false, true]
abbrev p308 : List Bool := [false, false, true, false, true, true, false, false, true]
abbrev p309 : List Bool := [true, false, true, false, true, true, false, false, true]
abbrev p310 : List Bool := [false, true, true, false, true, true, false, false, true]
abbrev p311 : List Bool := [true, true, true, false, true, true, false, false, true]
abbrev p312 : List Bool := [false, false, false, true, true, true, false, false, true]
abbrev p313 : List Bool := [true, false, false, true, true, true, false, false, true]
abbrev p314 : List Bool := [false, true, false, true, true, true, false, false, true]
abbrev p315 : List Bool := [true, true, false, true, true, true, false, false, true]
abbrev p316 : List Bool := [false, false, true, true, true, true, false, false, true]
abbrev p317 : List Bool := [true, false, true, true, true, true, false, false, true]
abbrev p318 : List Bool := [false, true, true, true, true, true, false, false, true]
abbrev p319 : List Bool := [true, true, true, true, true, true, false, false, true]
abbrev p320 : List Bool := [false, false, false, false, false, false, true, false, true]
abbrev p321 : List Bool := [true, false, false, false, false, false, true, false, true]
abbrev p322 : List Bool := [false, true, false, false, false, false, true, false, true]
abbrev p323 : List Bool := [true, true, false, false, false, false, true, false, true]
abbrev p324 : List Bool := [false, false, true, false, false, false, true, false, true]
abbrev p325 : List Bool := [true, false, true, false, false, false, true, false, true]
abbrev p326 : List Bool := [false, true, true, false, false, false, true, false, true]
abbrev p327 : List Bool := [true, true, true, false, false, false, true, false, true]
abbrev p328 : List Bool := [false, false, false, true, false, false, true, false, true]
abbrev p329 : List Bool := [true, false, false, true, false, false, true, false, true]
abbrev p330 : List Bool := [false, true, false, true, false, false, true, false, true]
abbrev p331 : List Bool := [true, true, false, true, false, false, true, false, true]
abbrev p332 : List Bool := [false, false, true, true, false, false, true, false, true]
abbrev p333 : List Bool := [true, false, true, true, false, false, true, false, true]
abbrev p334 : List Bool := [false, true, true, true, false, false, true, false, true]
abbrev p335 : List Bool := [true, true, true, true, false, false, true, false, true]
abbrev p336 : List Bool := [false, false, false, false, true, false, true, false, true]
abbrev p337 : List Bool := [true, false, false, false, true, false, true, false, true]
abbrev p338 : List Bool := [false, true, false, false, true, false, true, false, true]
abbrev p339 : List Bool := [true, true, false, false, true, false, true, false, true]
abbrev p340 : List Bool := [false, false, true, false, true, false, true, false, true]
abbrev p341 : List Bool := [true, false, true, false, true, false, true, false, true]
abbrev p342 : List Bool := [false, true, true, false, true, false, true, false, true]
abbrev p343 : List Bool := [true, true, true, false, true, false, true, false, true]
abbrev p344 : List Bool := [false, false, false, true, true, false, true, false, true]
abbrev p345 : List Bool := [true, false, false, true, true, false, true, false, true]
abbrev p346 : List Bool := [false, true, false, true, true, false, true, false, true]
abbrev p347 : List Bool := [true, true, false, true, true, false, true, false, true]
abbrev p348 : List Bool := [false, false, true, true, true, false, true, false, true]
abbrev p349 : List Bool := [true, false, true, true, true, false, true, false, true]
abbrev p350 : List Bool := [false, true, true, true, true, false, true, false, true]
abbrev p351 : List Bool := [true, true, true, true, true, false, true, false, true]
abbrev p352 : List Bool := [false, false, false, false, false, true, true, false, true]
abbrev p353 : List Bool := [true, false, false, false, false, true, true, false, true]
abbrev p354 : List Bool := [false, true, false, false, false, true, true, false, true]
abbrev p355 : List Bool := [true, true, false, false, false, true, true, false, true]
abbrev p356 : List Bool := [false, false, true, false, false, true, true, false, true]
abbrev p357 : List Bool := [true, false, true, false, false, true, true, false, true]
abbrev p358 : List Bool := [false, true, true, false, false, true, true, false, true]
abbrev p359 : List Bool := [true, true, true, false, false, true, true, false, true]
abbrev p360 : List Bool := [false, false, false, true, false, true, true, false, true]
abbrev p361 : List Bool := [true, false, false, true, false, true, true, false, true]
abbrev p362 : List Bool := [false, true, false, true, false, true, true, false, true]
abbrev p363 : List Bool := [true, true, false, true, false, true, true, false, true]
abbrev p364 : List Bool := [false, false, true, true, false, true, true, false, true]
abbrev p365 : List Bool := [true, false, true, true, false, true, true, false, true]
abbrev p366 : List Bool := [false, true, true, true, false, true, true, false, true]
abbrev p367 : List Bool := [true, true, true, true, false, true, true, false, true]
abbrev p368 : List Bool := [false, false, false, false, true, true, true, false, true]
def f96 : CFunc := ⟨6, [], (.seq (.ops [oo p2 (.mv (.t p0)), oo p3 (.un .not (.t p2))]) [] (.cond (.t p3) (.ops [oo p4 (.build [(iI 0)] [(0, 1, (.c (iI 2)))]), oo p5 (.mkI 223 (.t p4)), on (.panic (.t p5))]) .skip)), none, none⟩
def f103 : CFunc := ⟨5, [], (.seq (.ops [oo p2 (.mv (.t p0)), oo p3 (.un .not (.t p2))]) [] (.cond (.t p3) (.ops [oo p4 (.call (.c (.func (.func 113) #[] #[])) [(.c (iI 2))])]) .skip)), none, none⟩
def f19 : CFunc := ⟨8, [.tmp p2], (.seq (.ops [oo p2 (.mv (.c (.slice none 0 0)))]) [] (.seq (.seq (.ops [oo p3 (.mv (.t p0)), oo p4 (.bin .eql .slice (.t p3) (.c (.slice none 0 0)))]) [] (.cond (.t p4) (.seq (.ops [oo p2 (.mv (.c (.slice none 0 0)))]) [] .ret) .skip)) [] (.seq (.ops [oo p5 (.buildSlice 0 4 [(iI 0), (iI 0), (iI 0), (iI 0)] []), oo p6 (.mv (.t p0)), oo p7 (.blt (.append 4 32) [(.t p5), (.t p6)]), oo p2 (.mv (.t p7))]) [] .ret))), none, none⟩
def f98 : CFunc := ⟨231, [], (.seq (.ops [oo p18 (.mv (.t p1)), oo p19 (.bin .geq .other (.t p18) (.c (iI 0))), oo p20 (.mv (.t p19)), og p21 (.mv (.t p1)) p20 true, og p22 (.mv (.t p0)) p20 true, og p23 (.nilCheck (.t p22)) p20 true, og p24 (.fieldAddr 0 (.t p23)) p20 true, og p25 (.fieldAddr 1 (.t p24)) p20 true, og p26 (.load1 (.t p25)) p20 true, og p27 (.blt .len [(.t p26)]) p20 true, og p28 (.bin .lss .other (.t p21) (.t p27)) p20 true, oo p29 (.pick (.t p20) (.t p28) (.c (.bool false))), oo p30 (.mv (.t p29)), og p31 (.mv (.t p0)) p30 true, og p32 (.nilCheck (.t p31)) p30 true, og p33 (.fieldAddr 5 (.t p32)) p30 true, og p34 (.load1 (.t p33)) p30 true, og p35 (.mv (.t p1)) p30 true, og p36 (.indexAddr 1 (.t p34) (.t p35)) p30 true, og p37 (.load1 (.t p36)) p30 true, og p38 (.un .not (.t p37)) p30 true, oo p39 (.pick (.t p30) (.t p38) (.c (.bool false))), oo p40 (.call (.c (.func (.func 96) #[] #[])) [(.t p39)])]) [] (.seq (.draw [oo p41 (.mv (.t p0)), oo p42 (.nilCheck (.t p41)), oo p43 (.fieldAddr 5 (.t p42)), oo p44 (.load1 (.t p43)), oo p45 (.mv (.t p1)), oo p46 (.mv (.t p0)), oo p47 (.nilCheck (.t p46)), oo p48 (.fieldAddr 4 (.t p47)), oo p49 (.load1 (.t p48)), oo p52 (.indexAddr 1 (.t p44) (.t p45)), on (.store 1 (.t p52) (.c (.bool true))), oo p50 (.mv (.t p1)), oo p51 (.mv (.t p2)), ⟨(some p53), .indexAddr 1 (.t p49) (.t p50), none, 1⟩, ⟨none, .store 1 (.t p53) (.t p51), none, 1⟩]) [] (.seq (.ops [oo p54 (.mv (.t p0)), oo p55 (.nilCheck (.t p54)), oo p56 (.fieldAddr 0 (.t p55)), oo p57 (.fieldAddr 1 (.t p56)), oo p58 (.load1 (.t p57)), oo p59 (.mv (.t p1)), oo p60 (.indexAddr 4 (.t p58) (.t p59)), oo p61 (.loadN 4 (.t p60)), oo p6 (.alloc [(iI 0), (iI 0), (.slice none 0 0), (.slice none 0 0)]), on (.store 4 (.t p6) (.t p61))]) [] (.seq (.ops [oo p62 (.fieldAddr 0 (.t p6)), oo p63 (.load1 (.t p62)), oo p64 (.call (.c (.func (.func 129) #[] #[])) [(.t p63)]), oo p7 (.mv (.t p64))]) [] (.seq (.draw [oo p65 (.mv (.t p7)), oo p66 (.bin .neq (.iface true) (.t p65) (.c .nilIface)), oo p67 (.mv (.t p66)), og p71 (.mv (.t p7)) p67 true, og p72 (.invoke [(261, 196), (262, 197), (263, 198), (264, 199), (289, 200)] (.t p71) []) p67 true, og p68 (.fieldAddr 3 (.t p6)) p67 true, og p69 (.load1 (.t p68)) p67 true, og p70 (.blt .len [(.t p69)]) p67 true, ⟨(some p73), .bin .eql .other (.t p70) (.t p72), (some (p67, true)), 1⟩, ⟨(some p74), .pick (.t p67) (.t p73) (.c (.bool false)), none, 1⟩, ⟨(some p75), .call (.c (.func (.func 96) #[] #[])) [(.t p74)], none, 1⟩]) [] (.seq (.ops [oo p8 (.mv (.c (iI 0)))]) [] (.seq (.seq (.ops [oo p76 (.mv (.t p7))]) [] (.block 0 (.seq (.ops [oo p81 (.assertT 261 (.agg ⟨[]⟩) true (.t p76)), oo p82 (.extract (.t p81) 1), oo p83 (.extract (.t p81) 0)]) [] (.cond (.t p82) (.seq (.ops [oo p84 (.fieldAddr 2 (.t p6)), oo p85 (.load1 (.t p84)), oo p86 (.blt .len [(.t p85)]), oo p87 (.blt .min [(.t p86), (.c (iI 3))]), oo p8 (.mv (.t p87))]) [] (.ops [oo p88 (.fieldAddr 1 (.t p6)), oo p89 (.load1 (.t p88)), oo p90 (.bin .geq .other (.t p89) (.c (iI 0))), oo p91 (.mv (.t p90)), og p92 (.fieldAddr 1 (.t p6)) p91 true, og p93 (.load1 (.t p92)) p91 true, og p94 (.mv (.t p2)) p91 true, og p95 (.bin .lss .other (.t p93) (.t p94)) p91 true, oo p96 (.pick (.t p91) (.t p95) (.c (.bool false))), oo p97 (.call (.c (.func (.func 96) #[] #[])) [(.t p96)])])) (.seq (.ops [oo p98 (.assertT 262 (.agg ⟨[]⟩) true (.t p76)), oo p99 (.extract (.t p98) 1), oo p100 (.extract (.t p98) 0)]) [] (.cond (.t p99) (.ops [oo p101 (.fieldAddr 1 (.t p6)), oo p102 (.load1 (.t p101)), oo p103 (.bin .geq .other (.t p102) (.c (iI 0))), oo p104 (.mv (.t p103)), og p105 (.fieldAddr 1 (.t p6)) p104 true, og p106 (.load1 (.t p105)) p104 true, og p107 (.mv (.t p2)) p104 true, og p108 (.bin .lss .other (.t p106) (.t p107)) p104 true, oo p109 (.pick (.t p104) (.t p108) (.c (.bool false))), oo p110 (.call (.c (.func (.func 96) #[] #[])) [(.t p109)])]) (.seq (.ops [oo p111 (.assertT 263 (.agg ⟨[]⟩) true (.t p76)), oo p112 (.extract (.t p111) 1), oo p113 (.extract (.t p111) 0)]) [] (.cond (.t p112) (.draw [oo p114 (.fieldAddr 1 (.t p6)), oo p115 (.load1 (.t p114)), oo p116 (.bin .geq .other (.t p115) (.c (iI 0))), oo p117 (.mv (.t p116)), og p118 (.fieldAddr 1 (.t p6)) p117 true, og p119 (.load1 (.t p118)) p117 true, og p120 (.mv (.t p0)) p117 true, og p121 (.nilCheck (.t p120)) p117 true, og p122 (.fieldAddr 0 (.t p121)) p117 true, og p123 (.fieldAddr 2 (.t p122)) p117 true, og p124 (.load1 (.t p123)) p117 true, og p125 (.blt .len [(.t p124)]) p117 true, og p126 (.bin .lss .other (.t p119) (.t p125)) p117 true, oo p127 (.pick (.t p117) (.t p126) (.c (.bool false))), oo p128 (.mv (.t p127)), og p129 (.mv (.t p0)) p128 true, og p130 (.nilCheck (.t p129)) p128 true, og p131 (.fieldAddr 6 (.t p130)) p128 true, og p132 (.load1 (.t p131)) p128 true, og p133 (.fieldAddr 1 (.t p6)) p128 true, og p134 (.load1 (.t p133)) p128 true, og p135 (.indexAddr 1 (.t p132) (.t p134)) p128 true, og p136 (.load1 (.t p135)) p128 true, og p137 (.un .not (.t p136)) p128 true, oo p138 (.pick (.t p128) (.t p137) (.c (.bool false))), oo p139 (.call (.c (.func (.func 96) #[] #[])) [(.t p138)])]) (.seq (.ops [oo p140 (.assertT 264 (.agg ⟨[]⟩) true (.t p76)), oo p141 (.extract (.t p140) 1), oo p142 (.extract (.t p140) 0)]) [] (.cond (.t p141) (.seq (.ops [oo p8 (.mv (.c (iI 1)))]) [] (.ops [oo p143 (.fieldAddr 1 (.t p6)), oo p144 (.load1 (.t p143)), oo p145 (.bin .eql .other (.t p144) (.c (iI 0))), oo p146 (.call (.c (.func (.func 96) #[] #[])) [(.t p145)])])) (.ops [oo p77 (.fieldAddr 1 (.t p6)), oo p78 (.load1 (.t p77)), oo p79 (.bin .eql .other (.t p78) (.c (iI 0))), oo p80 (.call (.c (.func (.func 96) #[] #[])) [(.t p79)])]))))))))))) [] (.seq (.ops [oo p147 (.fieldAddr 2 (.t p6)), oo p148 (.load1 (.t p147)), oo p149 (.blt .len [(.t p148)]), oo p150 (.mv (.t p8)), oo p151 (.bin .eql .other (.t p149) (.t p150)), oo p152 (.call (.c (.func (.func 96) #[] #[])) [(.t p151)])]) [] (.seq (.seq (.ops [oo p153 (.fieldAddr 2 (.t p6)), oo p154 (.load1 (.t p153)), oo p155 (.blt .len [(.t p154)]), oo p156 (.mv (.c (iI 0)))]) [] (.block 1 (.loop [] (.seq (.ops [oo p157 (.bin .lss .other (.t p156) (.t p155))]) [] (.seq (.cond (.t p157) .skip (.exit 1)) [] (.seq (.block 2 (.seq (.ops [oo p158 (.indexAddr 3 (.t p154) (.t p156)), oo p159 (.loadN 3 (.t p158)), oo p10 (.alloc [(iI 0), (iI 0), (.slice none 0 0)]), on (.store 3 (.t p10) (.t p159))]) [] (.ops [oo p160 (.loadN 3 (.t p10)), oo p161 (.mv (.t p2)), oo p162 (.call (.c (.func (.func 130) #[] #[])) [(.t p160), (.t p161)])]))) [] (.ops [oo p163 (.bin .add .other (.t p156) (.c (iI 1))), oo p156 (.mv (.t p163))]))))))) [] (.seq (.seq (.ops [oo p164 (.fieldAddr 0 (.t p6)), oo p165 (.load1 (.t p164)), oo p166 (.bin .eql .other (.t p165) (.c (iI 4)))]) [] (.cond (.t p166) (.seq (.draw [oo p167 (.mv (.t p0)), oo p168 (.nilCheck (.t p167)), oo p169 (.fieldAddr 6 (.t p168)), oo p170 (.load1 (.t p169)), oo p171 (.fieldAddr 1 (.t p6)), oo p172 (.load1 (.t p171)), oo p173 (.indexAddr 1 (.t p170) (.t p172)), on (.store 1 (.t p173) (.c (.bool true)))]) [] (.seq (.draw [oo p174 (.mv (.t p0)), oo p175 (.nilCheck (.t p174)), oo p176 (.fieldAddr 0 (.t p175)), oo p177 (.fieldAddr 2 (.t p176)), oo p178 (.load1 (.t p177)), oo p179 (.fieldAddr 1 (.t p6)), oo p180 (.load1 (.t p179)), oo p181 (.indexAddr 3 (.t p178) (.t p180)), oo p182 (.loadN 3 (.t p181)), oo p11 (.alloc [(.slice none 0 0), (.slice none 0 0), (.slice none 0 0)]), on (.store 3 (.t p11) (.t p182))]) [] (.seq (.ops [oo p183 (.loadN 3 (.t p11)), oo p184 (.call (.c (.func (.func 131) #[] #[])) [(.t p183)])]) [] (.seq (.ops [oo p185 (.mv (.t p2)), oo p186 (.loadN 3 (.t p11)), oo p187 (.call (.c (.func (.func 132) #[] #[])) [(.t p186)]), oo p188 (.bin .add .other (.t p185) (.t p187)), oo p2 (.mv (.t p188))]) [] (.seq (.seq (.ops [oo p189 (.fieldAddr 2 (.t p11)), oo p190 (.load1 (.t p189)), oo p191 (.blt .len [(.t p190)]), oo p192 (.mv (.c (iI 0)))]) [] (.block 3 (.loop [] (.seq (.ops [oo p193 (.bin .lss .other (.t p192) (.t p191))]) [] (.seq (.cond (.t p193) .skip (.exit 3)) [] (.seq (.block 4 (.seq (.ops [oo p194 (.indexAddr 3 (.t p190) (.t p192)), oo p195 (.loadN 3 (.t p194)), oo p13 (.alloc [(iI 0), (.slice none 0 0), (iI 0)]), on (.store 3 (.t p13) (.t p195))]) [] (.draw [oo p200 (.loadN 3 (.t p11)), oo p201 (.loadN 3 (.t p13)), oo p202 (.call (.c (.func (.func 133) #[] #[])) [(.t p200), (.t p201)]), oo p196 (.mv (.t p0)), oo p197 (.fieldAddr 2 (.t p13)), oo p198 (.load1 (.t p197)), oo p199 (.mv (.t p2)), ⟨(some p203), .bin .add .other (.t p199) (.t p202), none, 1⟩, ⟨(some p204), .call (.c (.func (.func 98) #[] #[])) [(.t p196), (.t p198), (.t p203)], none, 1⟩]))) [] (.ops [oo p205 (.bin .add .other (.t p192) (.c (iI 1))), oo p192 (.mv (.t p205))]))))))) [] (.seq (.ops [oo p206 (.fieldAddr 1 (.t p11)), oo p207 (.load1 (.t p206)), oo p208 (.blt .len [(.t p207)]), oo p209 (.mv (.c (iI 0)))]) [] (.block 5 (.loop [] (.seq (.ops [oo p210 (.bin .lss .other (.t p209) (.t p208))]) [] (.seq (.cond (.t p210) .skip (.exit 5)) [] (.seq (.block 6 (.seq (.ops [oo p211 (.indexAddr 2 (.t p207) (.t p209)), oo p212 (.loadN 2 (.t p211)), oo p15 (.alloc [(iI 0), (iI 0)]), on (.store 2 (.t p15) (.t p212))]) [] (.ops [oo p213 (.mv (.t p0)), oo p214 (.fieldAddr 1 (.t p15)), oo p215 (.load1 (.t p214)), oo p216 (.mv (.t p2)), oo p217 (.call (.c (.func (.func 98) #[] #[])) [(.t p213), (.t p215), (.t p216)])]))) [] (.ops [oo p218 (.bin .add .other (.t p209) (.c (iI 1))), oo p209 (.mv (.t p218))])))))))))))) .skip)) [] (.seq (.ops [oo p219 (.fieldAddr 3 (.t p6)), oo p220 (.load1 (.t p219)), oo p221 (.blt .len [(.t p220)]), oo p222 (.mv (.c (iI 0)))]) [] (.block 7 (.loop [] (.seq (.ops [oo p223 (.bin .lss .other (.t p222) (.t p221))]) [] (.seq (.cond (.t p223) .skip (.exit 7)) [] (.seq (.block 8 (.seq (.ops [oo p224 (.indexAddr 1 (.t p220) (.t p222)), oo p225 (.load1 (.t p224)), oo p17 (.mv (.t p225))]) [] (.ops [oo p226 (.mv (.t p0)), oo p227 (.mv (.t p17)), oo p228 (.mv (.t p2)), oo p229 (.call (.c (.func (.func 98) #[] #[])) [(.t p226), (.t p227), (.t p228)])]))) [] (.ops [oo p230 (.bin .add .other (.t p222) (.c (iI 1))), oo p222 (.mv (.t p230))]))))))))))))))))), none, none⟩
def f129 : CFunc := ⟨28, [.tmp p2], (.seq (.ops [oo p2 (.mv (.c .nilIface))]) [] (.seq (.seq (.ops [oo p3 (.mv (.t p0))]) [] (.block 0 (.seq (.seq (.ops [oo p5 (.bin .eql .other (.t p3) (.c (iI 1))), oo p4 (.mv (.t p5))]) [] (.cond (.t p4) .skip (.ops [oo p6 (.bin .eql .other (.t p3) (.c (iI 7))), oo p4 (.mv (.t p6))]))) [] (.cond (.t p4) (.seq (.ops [oo p7 (.mkI 289 (.c (iI 0))), oo p2 (.mv (.t p7))]) [] .ret) (.seq (.ops [oo p9 (.bin .eql .other (.t p3) (.c (iI 3))), oo p8 (.mv (.t p9))]) [] (.cond (.t p8) (.seq (.ops [oo p10 (.mkI 289 (.c (iI 2))), oo p2 (.mv (.t p10))]) [] .ret) (.seq (.ops [oo p12 (.bin .eql .other (.t p3) (.c (iI 2))), oo p11 (.mv (.t p12))]) [] (.cond (.t p11) (.seq (.ops [oo p13 (.build [] []), oo p14 (.mkI 261 (.t p13)), oo p2 (.mv (.t p14))]) [] .ret) (.seq (.ops [oo p16 (.bin .eql .other (.t p3) (.c (iI 5))), oo p15 (.mv (.t p16))]) [] (.cond (.t p15) (.seq (.ops [oo p17 (.build [] []), oo p18 (.mkI 264 (.t p17)), oo p2 (.mv (.t p18))]) [] .ret) (.seq (.seq (.ops [oo p20 (.bin .eql .other (.t p3) (.c (iI 6))), oo p19 (.mv (.t p20))]) [] (.cond (.t p19) .skip (.ops [oo p21 (.bin .eql .other (.t p3) (.c (iI 8))), oo p19 (.mv (.t p21))]))) [] (.cond (.t p19) (.seq (.ops [oo p22 (.build [] []), oo p23 (.mkI 262 (.t p22)), oo p2 (.mv (.t p23))]) [] .ret) (.seq (.ops [oo p25 (.bin .eql .other (.t p3) (.c (iI 4))), oo p24 (.mv (.t p25))]) [] (.cond (.t p24) (.seq (.ops [oo p26 (.build [] []), oo p27 (.mkI 263 (.t p26)), oo p2 (.mv (.t p27))]) [] .ret) .skip)))))))))))))) [] (.seq (.ops [oo p2 (.mv (.c .nilIface))]) [] .ret))), none, none⟩
def f41 : CFunc := ⟨44, [], (.seq (.ops [oo p3 (.box (.t p0))]) [] (.seq (.ops [oo p9 (.load1 (.t p3)), oo p10 (.nilCheck (.t p9)), oo p11 (.fieldAddr 4 (.t p10)), oo p12 (.load1 (.t p11)), oo p13 (.mv (.t p1)), oo p14 (.mv (.t p2)), oo p15 (.indexAddr 1 (.t p12) (.t p13)), on (.store 1 (.t p15) (.t p14))]) [] (.seq (.seq (.ops [oo p16 (.load1 (.t p3)), oo p17 (.nilCheck (.t p16)), oo p18 (.fieldAddr 0 (.t p17)), oo p19 (.fieldAddr 1 (.t p18)), oo p20 (.load1 (.t p19)), oo p21 (.mv (.t p1)), oo p22 (.indexAddr 4 (.t p20) (.t p21)), oo p23 (.loadN 4 (.t p22)), oo p6 (.alloc [(iI 0), (iI 0), (.slice none 0 0), (.slice none 0 0)]), on (.store 4 (.t p6) (.t p23))]) [] (.seq (.ops [oo p24 (.fieldAddr 0 (.t p6)), oo p25 (.load1 (.t p24)), oo p26 (.bin .eql .other (.t p25) (.c (iI 4)))]) [] (.cond (.t p26) (.draw [oo p27 (.load1 (.t p3)), oo p28 (.nilCheck (.t p27)), oo p29 (.fieldAddr 5 (.t p28)), oo p30 (.load1 (.t p29)), oo p31 (.fieldAddr 1 (.t p6)), oo p32 (.load1 (.t p31)), oo p33 (.mv (.t p1)), oo p34 (.indexAddr 1 (.t p30) (.t p32)), on (.store 1 (.t p34) (.t p33))]) .skip))) [] (.seq (.ops [oo p35 (.load1 (.t p3)), oo p36 (.mv (.t p1)), oo p37 (.call (.c (.func (.func 75) #[] #[])) [(.t p35), (.t p36)])]) [] (.block 0 (.rangeFunc 0 [] (.t p37) [p38, p39] (.seq (.ops [oo p7 (.mv (.t p38))]) [] (.ops [oo p8 (.mv (.t p39))])) (.block 1 (.ops [oo p40 (.load1 (.t p3)), oo p41 (.mv (.t p7)), oo p42 (.mv (.t p8)), oo p43 (.call (.c (.func (.func 41) #[] #[])) [(.t p40), (.t p41), (.t p42)])])))))))), none, none⟩
def f75 : CFunc := ⟨6, [.tmp p4], (.seq (.ops [oo p2 (.box (.t p0)), oo p3 (.box (.t p1)), oo p4 (.mv (.c .nilFunc))]) [] (.seq (.ops [oo p5 (.makeFunc (.func 100) [] [(.t p2), (.t p3)]), oo p4 (.mv (.t p5))]) [] .ret)), none, none⟩
def f130 : CFunc := ⟨10, [], (.seq (.ops [oo p2 (.box (.t p0)), oo p3 (.box (.t p1))]) [] (.seq (.ops [oo p4 (.alloc [(iI 0)]), on (.store 1 (.t p4) (.c (iI 0)))]) [] (.seq (.ops [oo p5 (.alloc [.nilFunc])]) [] (.seq (.ops [oo p6 (.makeFunc (.func 155) [] [(.t p4), (.t p3), (.t p5)]), on (.store 1 (.t p5) (.t p6))]) [] (.ops [oo p7 (.load1 (.t p5)), oo p8 (.loadN 3 (.t p2)), oo p9 (.call (.t p7) [(.t p8), (.c (iI 1))])]))))), none, none⟩
def f196 : CFunc := ⟨3, [.tmp p2], (.seq (.ops [oo p1 (.box (.t p0)), oo p2 (.mv (.c (iI 0)))]) [] (.seq (.ops [oo p2 (.mv (.c (iI 0)))]) [] .ret)), none, none⟩
def f86 : CFunc := ⟨19, [.tmp p4], (.seq (.ops [oo p4 (.mv (.c (iI 0)))]) [] (.seq (.seq (.ops [oo p6 (.mv (.t p0)), oo p7 (.blt .len [(.t p6)]), oo p8 (.mv (.c (iI 0)))]) [] (.block 0 (.loop [] (.seq (.ops [oo p9 (.bin .lss .other (.t p8) (.t p7))]) [] (.seq (.cond (.t p9) .skip (.exit 0)) [] (.seq (.block 1 (.seq (.ops [oo p10 (.mv (.t p8)), oo p5 (.mv (.t p10))]) [] (.seq (.ops [oo p11 (.mv (.t p1)), oo p12 (.mv (.t p0)), oo p13 (.mv (.t p5)), oo p14 (.indexAddr 1 (.t p12) (.t p13)), oo p15 (.load1 (.t p14)), oo p16 (.bin .eql .other (.t p11) (.t p15))]) [] (.cond (.t p16) (.seq (.ops [oo p17 (.mv (.t p5)), oo p4 (.mv (.t p17))]) [] .ret) .skip)))) [] (.ops [oo p18 (.bin .add .other (.t p8) (.c (iI 1))), oo p8 (.mv (.t p18))]))))))) [] (.seq (.ops [oo p4 (.mv (.c (iI (-1))))]) [] .ret))), none, none⟩
def f99 : CFunc := ⟨9, [.tmp p4], (.seq (.ops [oo p4 (.mv (.c (.bool false)))]) [] (.seq (.ops [oo p5 (.mv (.t p0)), oo p6 (.mv (.t p1)), oo p7 (.call (.c (.func (.func 134) #[] #[])) [(.t p5), (.t p6)]), oo p8 (.bin .geq .other (.t p7) (.c (iI 0))), oo p4 (.mv (.t p8))]) [] .ret)), none, none⟩
def f134 : CFunc := ⟨19, [.tmp p4], (.seq (.ops [oo p4 (.mv (.c (iI 0)))]) [] (.seq (.seq (.ops [oo p6 (.mv (.t p0)), oo p7 (.blt .len [(.t p6)]), oo p8 (.mv (.c (iI 0)))]) [] (.block 0 (.loop [] (.seq (.ops [oo p9 (.bin .lss .other (.t p8) (.t p7))]) [] (.seq (.cond (.t p9) .skip (.exit 0)) [] (.seq (.block 1 (.seq (.ops [oo p10 (.mv (.t p8)), oo p5 (.mv (.t p10))]) [] (.seq (.ops [oo p11 (.mv (.t p1)), oo p12 (.mv (.t p0)), oo p13 (.mv (.t p5)), oo p14 (.indexAddr 1 (.t p12) (.t p13)), oo p15 (.load1 (.t p14)), oo p16 (.bin .eql .bool (.t p11) (.t p15))]) [] (.cond (.t p16) (.seq (.ops [oo p17 (.mv (.t p5)), oo p4 (.mv (.t p17))]) [] .ret) .skip)))) [] (.ops [oo p18 (.bin .add .other (.t p8) (.c (iI 1))), oo p8 (.mv (.t p18))]))))))) [] (.seq (.ops [oo p4 (.mv (.c (iI (-1))))]) [] .ret))), none, none⟩
def f136 : CFunc := ⟨12, [.tmp p4], (.seq (.ops [oo p4 (.mv (.c (iI 0)))]) [] (.seq (.ops [oo p5 (.mv (.t p0)), oo p6 (.nilCheck (.t p5)), oo p7 (.fieldAddr 4 (.t p6)), oo p8 (.load1 (.t p7)), oo p9 (.mv (.t p1)), oo p10 (.indexAddr 1 (.t p8) (.t p9)), oo p11 (.load1 (.t p10)), oo p4 (.mv (.t p11))]) [] .ret)), none, none⟩
def f143 : CFunc := ⟨49, [], (.seq (.ops [oo p3 (.box (.t p1))]) [] (.seq (.ops [oo p4 (.mv (.c (iI 0))), oo p5 (.mv (.c (iI 0)))]) [] (.seq (.seq (.ops [oo p6 (.fieldAddr 0 (.t p3)), oo p7 (.load1 (.t p6))]) [] (.block 0 (.seq (.ops [oo p10 (.bin .eql .other (.t p7) (.c (iI 1))), oo p9 (.mv (.t p10))]) [] (.cond (.t p9) (.ops [oo p4 (.mv (.c (iI (-1000000000)))), oo p5 (.mv (.c (iI 1000000000)))]) (.seq (.ops [oo p12 (.bin .eql .other (.t p7) (.c (iI 2))), oo p11 (.mv (.t p12))]) [] (.cond (.t p11) (.ops [oo p13 (.mv (.t p0)), oo p14 (.nilCheck (.t p13)), oo p15 (.fieldAddr 4 (.t p14)), oo p16 (.fieldAddr 0 (.t p15)), oo p17 (.load1 (.t p16)), oo p18 (.blt .len [(.t p17)]), oo p19 (.bin .sub .other (.t p18) (.c (iI 1))), oo p5 (.mv (.t p19))]) (.seq (.ops [oo p21 (.bin .eql .other (.t p7) (.c (iI 3))), oo p20 (.mv (.t p21))]) [] (.cond (.t p20) (.ops [oo p22 (.mv (.t p0)), oo p23 (.nilCheck (.t p22)), oo p24 (.fieldAddr 0 (.t p23)), oo p25 (.fieldAddr 2 (.t p24)), oo p26 (.load1 (.t p25)), oo p27 (.blt .len [(.t p26)]), oo p28 (.bin .sub .other (.t p27) (.c (iI 1))), oo p5 (.mv (.t p28))]) (.seq (.ops [oo p30 (.bin .eql .other (.t p7) (.c (iI 4))), oo p29 (.mv (.t p30))]) [] (.cond (.t p29) (.ops [oo p31 (.mv (.t p0)), oo p32 (.nilCheck (.t p31)), oo p33 (.fieldAddr 0 (.t p32)), oo p34 (.fieldAddr 0 (.t p33)), oo p35 (.load1 (.t p34)), oo p36 (.blt .len [(.t p35)]), oo p37 (.bin .sub .other (.t p36) (.c (iI 1))), oo p5 (.mv (.t p37))]) (.ops [oo p8 (.call (.c (.func (.func 113) #[] #[])) [(.c (iI 2))])]))))))))))) [] (.ops [oo p38 (.fieldAddr 1 (.t p3)), oo p39 (.load1 (.t p38)), oo p40 (.mv (.t p4)), oo p41 (.bin .geq .other (.t p39) (.t p40)), oo p42 (.mv (.t p41)), og p43 (.fieldAddr 1 (.t p3)) p42 true, og p44 (.load1 (.t p43)) p42 true, og p45 (.mv (.t p5)) p42 true, og p46 (.bin .leq .other (.t p44) (.t p45)) p42 true, oo p47 (.pick (.t p42) (.t p46) (.c (.bool false))), oo p48 (.call (.c (.func (.func 103) #[] #[])) [(.t p47)])])))), none, none⟩
def f146 : CFunc := ⟨4, [.cell (some 2) p2], (.seq (.ops [oo p1 (.box (.t p0)), oo p2 (.alloc [(iI 0), (iI 0)])]) [] (.seq (.ops [oo p3 (.loadN 2 (.t p1)), on (.store 2 (.t p2) (.t p3))]) [] .ret)), none, none⟩
def f157 : CFunc := ⟨9, [.tmp p4], (.seq (.ops [oo p4 (.mv (.c (.bool false)))]) [] (.seq (.ops [oo p5 (.mv (.t p0)), oo p6 (.mv (.t p1)), oo p7 (.call (.c (.func (.func 86) #[] #[])) [(.t p5), (.t p6)]), oo p8 (.bin .geq .other (.t p7) (.c (iI 0))), oo p4 (.mv (.t p8))]) [] .ret)), none, none⟩
def f14 : CFunc := ⟨6, [.tmp p2], (.seq (.ops [oo p2 (.mv (.c (.slice none 0 0)))]) [] (.seq (.ops [oo p3 (.mv (.t p0)), oo p4 (.build [(iI 0), (iI 0), (.slice none 0 0)] [(0, 1, (.c (iI 1))), (1, 1, (.t p3))]), oo p5 (.buildSlice 1 3 [(iI 0), (iI 0), (.slice none 0 0)] [(0, (.t p4))]), oo p2 (.mv (.t p5))]) [] .ret)), none, none⟩
def f44 : CFunc := ⟨37, [.tmp p6], (.seq (.ops [oo p6 (.mv (.c (.bool false)))]) [] (.seq (.ops [oo p10 (.makeMap), oo p7 (.mv (.t p10))]) [] (.seq (.seq (.ops [oo p11 (.mv (.t p0)), oo p12 (.blt .len [(.t p11)]), oo p13 (.mv (.c (iI 0)))]) [] (.block 0 (.loop [] (.seq (.ops [oo p14 (.bin .lss .other (.t p13) (.t p12))]) [] (.seq (.cond (.t p14) .skip (.exit 0)) [] (.seq (.block 1 (.seq (.ops [oo p15 (.indexAddr 1 (.t p11) (.t p13)), oo p16 (.load1 (.t p15)), oo p9 (.mv (.t p16))]) [] (.seq (.seq (.ops [oo p17 (.mv (.t p9)), oo p18 (.bin .lss .other (.t p17) (.c (iI (-1)))), oo p19 (.mv (.t p18)), og p20 (.mv (.t p9)) p19 false, og p21 (.mv (.t p1)) p19 false, og p22 (.bin .geq .other (.t p20) (.t p21)) p19 false, oo p23 (.pick (.t p19) (.c (.bool true)) (.t p22)), oo p24 (.mv (.t p23)), og p25 (.mv (.t p2)) p24 false, og p26 (.mv (.t p25)) p24 false, og p27 (.mv (.t p7)) p26 true, og p28 (.mv (.t p9)) p26 true, og p29 (.lookup .int (.bool false) false (.t p27) (.t p28)) p26 true, og p30 (.pick (.t p26) (.t p29) (.c (.bool false))) p24 false, oo p31 (.pick (.t p24) (.c (.bool true)) (.t p30))]) [] (.cond (.t p31) (.seq (.ops [oo p6 (.mv (.c (.bool false)))]) [] .ret) .skip)) [] (.ops [oo p32 (.mv (.t p7)), oo p33 (.mv (.t p9)), oo p34 (.mv (.t p9)), oo p35 (.bin .geq .other (.t p34) (.c (iI 0))), on (.mapUpdate .int (.t p32) (.t p33) (.t p35))])))) [] (.ops [oo p36 (.bin .add .other (.t p13) (.c (iI 1))), oo p13 (.mv (.t p36))]))))))) [] (.seq (.ops [oo p6 (.mv (.c (.bool true)))]) [] .ret)))), none, none⟩
def f111 : CFunc := ⟨23, [], (.seq (.ops [oo p8 (.mv (.t p1)), oo p9 (.blt .len [(.t p8)]), oo p10 (.mv (.t p2)), oo p11 (.bin .eql .other (.t p9) (.t p10)), oo p12 (.call (.c (.func (.func 103) #[] #[])) [(.t p11)])]) [] (.seq (.ops [oo p13 (.mv (.t p1)), oo p14 (.blt .len [(.t p13)]), oo p15 (.mv (.c (iI 0)))]) [] (.block 0 (.loop [] (.seq (.ops [oo p16 (.bin .lss .other (.t p15) (.t p14))]) [] (.seq (.cond (.t p16) .skip (.exit 0)) [] (.seq (.block 1 (.seq (.ops [oo p17 (.indexAddr 2 (.t p13) (.t p15)), oo p18 (.loadN 2 (.t p17)), oo p7 (.alloc [(iI 0), (iI 0)]), on (.store 2 (.t p7) (.t p18))]) [] (.ops [oo p19 (.mv (.t p0)), oo p20 (.loadN 2 (.t p7)), oo p21 (.call (.c (.func (.func 143) #[] #[])) [(.t p19), (.t p20)])]))) [] (.ops [oo p22 (.bin .add .other (.t p15) (.c (iI 1))), oo p15 (.mv (.t p22))])))))))), none, none⟩
def f118 : CFunc := ⟨5, [.tmp p2], (.seq (.ops [oo p2 (.mv (.c (.slice none 0 0)))]) [] (.seq (.ops [oo p3 (.mv (.t p0)), oo p4 (.call (.c (.func (.func 145) #[] #[])) [(.t p3), (.c (.func (.func 146) #[] #[]))]), oo p2 (.mv (.t p4))]) [] .ret)), none, none⟩
def f145 : CFunc := ⟨22, [.tmp p4], (.seq (.ops [oo p4 (.mv (.c (.slice none 0 0)))]) [] (.seq (.ops [oo p5 (.mv (.c (.slice none 0 0)))]) [] (.seq (.seq (.ops [oo p8 (.mv (.t p0)), oo p9 (.blt .len [(.t p8)]), oo p10 (.mv (.c (iI 0)))]) [] (.block 0 (.loop [] (.seq (.ops [oo p11 (.bin .lss .other (.t p10) (.t p9))]) [] (.seq (.cond (.t p11) .skip (.exit 0)) [] (.seq (.block 1 (.seq (.ops [oo p12 (.indexAddr 2 (.t p8) (.t p10)), oo p13 (.loadN 2 (.t p12)), oo p7 (.alloc [(iI 0), (iI 0)]), on (.store 2 (.t p7) (.t p13))]) [] (.ops [oo p14 (.mv (.t p5)), oo p15 (.mv (.t p1)), oo p16 (.loadN 2 (.t p7)), oo p17 (.call (.t p15) [(.t p16)]), oo p18 (.buildSlice 1 2 [(iI 0), (iI 0)] [(0, (.t p17))]), oo p19 (.blt (.append 2 16) [(.t p14), (.t p18)]), oo p5 (.mv (.t p19))]))) [] (.ops [oo p20 (.bin .add .other (.t p10) (.c (iI 1))), oo p10 (.mv (.t p20))]))))))) [] (.seq (.ops [oo p21 (.mv (.t p5)), oo p4 (.mv (.t p21))]) [] .ret)))), none, none⟩
def f74 : CFunc := ⟨87, [.tmp p2], (.seq (.ops [oo p1 (.box (.t p0)), oo p2 (.mv (.c (.pointer none)))]) [] (.seq (.ops [oo p6 (.fieldAddr 0 (.t p1)), oo p7 (.load1 (.t p6)), oo p8 (.blt .len [(.t p7)]), oo p9 (.bin .leq .other (.t p8) (.c (iI 12))), oo p10 (.mv (.t p9)), og p11 (.fieldAddr 1 (.t p1)) p10 true, og p12 (.load1 (.t p11)) p10 true, og p13 (.blt .len [(.t p12)]) p10 true, og p14 (.bin .leq .other (.t p13) (.c (iI 60))) p10 true, oo p15 (.pick (.t p10) (.t p14) (.c (.bool false))), oo p16 (.mv (.t p15)), og p17 (.fieldAddr 2 (.t p1)) p16 true, og p18 (.load1 (.t p17)) p16 true, og p19 (.blt .len [(.t p18)]) p16 true, og p20 (.bin .leq .other (.t p19) (.c (iI 12))) p16 true, oo p21 (.pick (.t p16) (.t p20) (.c (.bool false))), oo p22 (.call (.c (.func (.func 96) #[] #[])) [(.t p21)])]) [] (.seq (.seq (.ops [oo p23 (.fieldAddr 0 (.t p1)), oo p24 (.load1 (.t p23)), oo p25 (.blt .len [(.t p24)]), oo p26 (.mv (.c (iI 0)))]) [] (.block 0 (.loop [] (.seq (.ops [oo p27 (.bin .lss .other (.t p26) (.t p25))]) [] (.seq (.cond (.t p27) .skip (.exit 0)) [] (.seq (.block 1 (.seq (.ops [oo p28 (.mv (.t p26)), oo p29 (.indexAddr 1 (.t p24) (.t p26)), oo p30 (.load1 (.t p29)), oo p3 (.mv (.t p28)), oo p4 (.mv (.t p30))]) [] (.ops [oo p31 (.mv (.t p4)), oo p32 (.call (.c (.func (.func 97) #[] #[])) [(.t p31)]), oo p33 (.mv (.t p32)), og p34 (.mv (.t p3)) p33 true, og p35 (.bin .eql .other (.t p34) (.c (iI 0))) p33 true, og p36 (.mv (.t p35)) p33 true, og p37 (.fieldAddr 0 (.t p1)) p36 false, og p38 (.load1 (.t p37)) p36 false, og p39 (.mv (.t p3)) p36 false, og p40 (.bin .sub .other (.t p39) (.c (iI 1))) p36 false, og p41 (.indexAddr 1 (.t p38) (.t p40)) p36 false, og p42 (.load1 (.t p41)) p36 false, og p43 (.mv (.t p4)) p36 false, og p44 (.bin .lss .other (.t p42) (.t p43)) p36 false, og p45 (.pick (.t p36) (.c (.bool true)) (.t p44)) p33 true, oo p46 (.pick (.t p33) (.t p45) (.c (.bool false))), oo p47 (.call (.c (.func (.func 96) #[] #[])) [(.t p46)])]))) [] (.ops [oo p48 (.bin .add .other (.t p26) (.c (iI 1))), oo p26 (.mv (.t p48))]))))))) [] (.seq (.draw [oo p49 (.loadN 4 (.t p1)), oo p50 (.fieldAddr 1 (.t p1)), oo p51 (.load1 (.t p50)), oo p52 (.blt .len [(.t p51)]), oo p53 (.makeSlice 1 8 [(iI 0)] (.t p52) (.t p52)), oo p54 (.fieldAddr 1 (.t p1)), oo p55 (.load1 (.t p54)), oo p56 (.blt .len [(.t p55)]), oo p57 (.makeSlice 1 1 [(.bool false)] (.t p56) (.t p56)), oo p58 (.fieldAddr 2 (.t p1)), oo p59 (.load1 (.t p58)), oo p60 (.blt .len [(.t p59)]), oo p61 (.makeSlice 1 1 [(.bool false)] (.t p60) (.t p60)), oo p62 (.build [(.slice none 0 0), (.slice none 0 0), (.slice none 0 0), (iI 0), (.slice none 0 0), (.slice none 0 0), (.slice none 0 0)] [(0, 4, (.t p49)), (4, 1, (.t p53)), (5, 1, (.t p57)), (6, 1, (.t p61))]), oo p63 (.box (.t p62)), oo p5 (.mv (.t p63))]) [] (.seq (.ops [oo p64 (.mv (.t p5)), oo p65 (.fieldAddr 3 (.t p1)), oo p66 (.load1 (.t p65)), oo p67 (.fieldAddr 0 (.t p1)), oo p68 (.load1 (.t p67)), oo p69 (.blt .len [(.t p68)]), oo p70 (.call (.c (.func (.func 98) #[] #[])) [(.t p64), (.t p66), (.t p69)])]) [] (.seq (.ops [oo p71 (.mv (.t p5)), oo p72 (.nilCheck (.t p71)), oo p73 (.fieldAddr 5 (.t p72)), oo p74 (.load1 (.t p73)), oo p75 (.call (.c (.func (.func 99) #[] #[])) [(.t p74), (.c (.bool false))]), oo p76 (.un .not (.t p75)), oo p77 (.mv (.t p76)), og p78 (.mv (.t p5)) p77 true, og p79 (.nilCheck (.t p78)) p77 true, og p80 (.fieldAddr 6 (.t p79)) p77 true, og p81 (.load1 (.t p80)) p77 true, og p82 (.call (.c (.func (.func 99) #[] #[])) [(.t p81), (.c (.bool false))]) p77 true, og p83 (.un .not (.t p82)) p77 true, oo p84 (.pick (.t p77) (.t p83) (.c (.bool false))), oo p85 (.call (.c (.func (.func 96) #[] #[])) [(.t p84)])]) [] (.seq (.ops [oo p86 (.mv (.t p5)), oo p2 (.mv (.t p86))]) [] .ret))))))), none, none⟩
def f97 : CFunc := ⟨34, [.tmp p2], (.seq (.ops [oo p2 (.mv (.c (.bool false)))]) [] (.seq (.seq (.ops [oo p4 (.mv (.t p0)), oo p5 (.blt .lenStr [(.t p4)]), oo p6 (.mv (.c (iI 0)))]) [] (.block 0 (.loop [] (.seq (.ops [oo p7 (.bin .lss .other (.t p6) (.t p5))]) [] (.seq (.cond (.t p7) .skip (.exit 0)) [] (.seq (.block 1 (.seq (.ops [oo p8 (.mv (.t p6)), oo p3 (.mv (.t p8))]) [] (.seq (.ops [oo p9 (.mv (.t p0)), oo p10 (.mv (.t p3)), oo p11 (.strIdx (.t p9) (.t p10)), oo p12 (.bin .lss .other (.t p11) (.c (.int .u8 97))), oo p13 (.mv (.t p12)), og p14 (.mv (.t p0)) p13 false, og p15 (.mv (.t p3)) p13 false, og p16 (.strIdx (.t p14) (.t p15)) p13 false, og p17 (.bin .gtr .other (.t p16) (.c (.int .u8 122))) p13 false, oo p18 (.pick (.t p13) (.c (.bool true)) (.t p17))]) [] (.cond (.t p18) (.seq (.ops [oo p2 (.mv (.c (.bool false)))]) [] .ret) .skip)))) [] (.ops [oo p19 (.bin .add .other (.t p6) (.c (iI 1))), oo p6 (.mv (.t p19))]))))))) [] (.seq (.ops [oo p20 (.mv (.t p0)), oo p21 (.blt .lenStr [(.t p20)]), oo p22 (.bin .gtr .other (.t p21) (.c (iI 0))), oo p23 (.mv (.t p22)), og p24 (.mv (.t p0)) p23 true, og p25 (.blt .lenStr [(.t p24)]) p23 true, og p26 (.bin .leq .other (.t p25) (.c (iI 8))) p23 true, oo p27 (.pick (.t p23) (.t p26) (.c (.bool false))), oo p28 (.mv (.t p27)), og p29 (.call (.c (.func (.func 128) #[] #[])) []) p28 true, og p30 (.mv (.t p0)) p28 true, og p31 (.lookup .str (.bool false) false (.t p29) (.t p30)) p28 true, og p32 (.un .not (.t p31)) p28 true, oo p33 (.pick (.t p28) (.t p32) (.c (.bool false))), oo p2 (.mv (.t p33))]) [] .ret))), none, none⟩
def f127 : CFunc := ⟨249, [], (.seq (.seq (.ops [oo p13 (.mv (.t p1)), oo p14 (.bin .lss .other (.t p13) (.c (iI 0))), oo p15 (.mv (.t p14)), og p16 (.mv (.t p1)) p15 false, og p17 (.mv (.t p0)) p15 false, og p18 (.nilCheck (.t p17)) p15 false, og p19 (.fieldAddr 0 (.t p18)) p15 false, og p20 (.fieldAddr 1 (.t p19)) p15 false, og p21 (.load1 (.t p20)) p15 false, og p22 (.blt .len [(.t p21)]) p15 false, og p23 (.bin .geq .other (.t p16) (.t p22)) p15 false, oo p24 (.pick (.t p15) (.c (.bool true)) (.t p23)), oo p25 (.mv (.t p24)), og p26 (.mv (.t p0)) p25 false, og p27 (.nilCheck (.t p26)) p25 false, og p28 (.fieldAddr 5 (.t p27)) p25 false, og p29 (.load1 (.t p28)) p25 false, og p30 (.mv (.t p1)) p25 false, og p31 (.indexAddr 1 (.t p29) (.t p30)) p25 false, og p32 (.load1 (.t p31)) p25 false, og p33 (.bin .gtr .other (.t p32) (.c (iI 0))) p25 false, oo p34 (.pick (.t p25) (.c (.bool true)) (.t p33))]) [] (.cond (.t p34) (.seq (.ops [oo p35 (.mv (.t p0)), oo p36 (.nilCheck (.t p35)), oo p37 (.fieldAddr 7 (.t p36)), on (.store 1 (.t p37) (.c (.bool true)))]) [] .ret) .skip)) [] (.seq (.ops [oo p38 (.mv (.t p0)), oo p39 (.nilCheck (.t p38)), oo p40 (.fieldAddr 5 (.t p39)), oo p41 (.load1 (.t p40)), oo p42 (.mv (.t p1)), oo p43 (.indexAddr 1 (.t p41) (.t p42)), oo p44 (.load1 (.t p43)), oo p45 (.bin .add .other (.t p44) (.c (iI 1))), oo p46 (.indexAddr 1 (.t p41) (.t p42)), on (.store 1 (.t p46) (.t p45))]) [] (.seq (.ops [oo p47 (.mv (.t p0)), oo p48 (.nilCheck (.t p47)), oo p49 (.fieldAddr 4 (.t p48)), oo p50 (.load1 (.t p49)), oo p51 (.mv (.t p1)), oo p52 (.mv (.t p2)), oo p53 (.indexAddr 1 (.t p50) (.t p51)), on (.store 1 (.t p53) (.t p52))]) [] (.seq (.ops [oo p54 (.mv (.t p0)), oo p55 (.nilCheck (.t p54)), oo p56 (.fieldAddr 0 (.t p55)), oo p57 (.fieldAddr 1 (.t p56)), oo p58 (.load1 (.t p57)), oo p59 (.mv (.t p1)), oo p60 (.indexAddr 4 (.t p58) (.t p59)), oo p61 (.loadN 4 (.t p60)), oo p6 (.alloc [(iI 0), (iI 0), (.slice none 0 0), (.slice none 0 0)]), on (.store 4 (.t p6) (.t p61))]) [] (.seq (.ops [oo p63 (.fieldAddr 0 (.t p6)), oo p64 (.load1 (.t p63)), oo p65 (.call (.c (.func (.func 151) #[] #[])) [(.t p64)]), oo p62 (.mv (.t p65)), oo p66 (.extract (.t p62) 0), oo p67 (.extract (.t p62) 1), oo p68 (.extract (.t p62) 2), oo p7 (.mv (.t p66)), oo p8 (.mv (.t p67)), oo p9 (.mv (.t p68))]) [] (.seq (.seq (.ops [oo p69 (.mv (.t p9)), oo p70 (.un .not (.t p69)), oo p71 (.mv (.t p70)), og p72 (.fieldAddr 3 (.t p6)) p71 false, og p73 (.load1 (.t p72)) p71 false, og p74 (.blt .len [(.t p73)]) p71 false, og p75 (.mv (.t p8)) p71 false, og p76 (.bin .neq .other (.t p74) (.t p75)) p71 false, oo p77 (.pick (.t p71) (.c (.bool true)) (.t p76)), oo p78 (.mv (.t p77)), og p79 (.mv (.t p7)) p78 false, og p80 (.bin .lss .other (.t p79) (.c (iI 0))) p78 false, og p81 (.mv (.t p80)) p78 false, og p82 (.fieldAddr 2 (.t p6)) p81 true, og p83 (.load1 (.t p82)) p81 true, og p84 (.blt .len [(.t p83)]) p81 true, og p85 (.bin .gtr .other (.t p84) (.c (iI 3))) p81 true, og p86 (.pick (.t p81) (.t p85) (.c (.bool false))) p78 false, oo p87 (.pick (.t p78) (.c (.bool true)) (.t p86)), oo p88 (.mv (.t p87)), og p89 (.mv (.t p7)) p88 false, og p90 (.bin .geq .other (.t p89) (.c (iI 0))) p88 false, og p91 (.mv (.t p90)) p88 false, og p92 (.fieldAddr 2 (.t p6)) p91 true, og p93 (.load1 (.t p92)) p91 true, og p94 (.blt .len [(.t p93)]) p91 true, og p95 (.mv (.t p7)) p91 true, og p96 (.bin .neq .other (.t p94) (.t p95)) p91 true, og p97 (.pick (.t p91) (.t p96) (.c (.bool false))) p88 false, oo p98 (.pick (.t p88) (.c (.bool true)) (.t p97))]) [] (.cond (.t p98) (.seq (.ops [oo p99 (.mv (.t p0)), oo p100 (.nilCheck (.t p99)), oo p101 (.fieldAddr 7 (.t p100)), on (.store 1 (.t p101) (.c (.bool true)))]) [] .ret) .skip)) [] (.seq (.seq (.ops [oo p10 (.mv (.c (iI 0)))]) [] (.block 0 (.loop [] (.seq (.seq (.ops [oo p102 (.mv (.t p10)), oo p103 (.fieldAddr 2 (.t p6)), oo p104 (.load1 (.t p103)), oo p105 (.blt .len [(.t p104)]), oo p106 (.bin .lss .other (.t p102) (.t p105))]) [] (.cond (.t p106) .skip (.exit 0))) [] (.seq (.block 1 (.ops [oo p109 (.mv (.t p0)), oo p110 (.mv (.t p0)), oo p111 (.nilCheck (.t p110)), oo p112 (.fieldAddr 7 (.t p111)), oo p113 (.load1 (.t p112)), oo p114 (.mv (.t p113)), og p115 (.fieldAddr 2 (.t p6)) p114 false, og p116 (.load1 (.t p115)) p114 false, og p117 (.mv (.t p10)) p114 false, og p118 (.indexAddr 3 (.t p116) (.t p117)) p114 false, og p119 (.loadN 3 (.t p118)) p114 false, og p120 (.mv (.t p2)) p114 false, og p121 (.call (.c (.func (.func 152) #[] #[])) [(.t p119), (.t p120)]) p114 false, og p122 (.un .not (.t p121)) p114 false, oo p123 (.pick (.t p114) (.c (.bool true)) (.t p122)), oo p124 (.nilCheck (.t p109)), oo p125 (.fieldAddr 7 (.t p124)), on (.store 1 (.t p125) (.t p123))])) [] (.ops [oo p107 (.mv (.t p10)), oo p108 (.bin .add .other (.t p107) (.c (iI 1))), oo p10 (.mv (.t p108))])))))) [] (.seq (.ops [oo p126 (.mv (.t p2)), oo p11 (.mv (.t p126))]) [] (.seq (.seq (.ops [oo p127 (.fieldAddr 0 (.t p6)), oo p128 (.load1 (.t p127))]) [] (.block 2 (.seq (.seq (.ops [oo p142 (.bin .eql .other (.t p128) (.c (iI 2))), oo p141 (.mv (.t p142))]) [] (.cond (.t p141) .skip (.seq (.ops [oo p143 (.bin .eql .other (.t p128) (.c (iI 6))), oo p141 (.mv (.t p143))]) [] (.cond (.t p141) .skip (.ops [oo p144 (.bin .eql .other (.t p128) (.c (iI 8))), oo p141 (.mv (.t p144))]))))) [] (.cond (.t p141) (.ops [oo p145 (.mv (.t p0)), oo p146 (.mv (.t p0)), oo p147 (.nilCheck (.t p146)), oo p148 (.fieldAddr 7 (.t p147)), oo p149 (.load1 (.t p148)), oo p150 (.mv (.t p149)), og p151 (.fieldAddr 1 (.t p6)) p150 false, og p152 (.load1 (.t p151)) p150 false, og p153 (.bin .lss .other (.t p152) (.c (iI 0))) p150 false, oo p154 (.pick (.t p150) (.c (.bool true)) (.t p153)), oo p155 (.mv (.t p154)), og p156 (.fieldAddr 1 (.t p6)) p155 false, og p157 (.load1 (.t p156)) p155 false, og p158 (.mv (.t p2)) p155 false, og p159 (.bin .geq .other (.t p157) (.t p158)) p155 false, oo p160 (.pick (.t p155) (.c (.bool true)) (.t p159)), oo p161 (.nilCheck (.t p145)), oo p162 (.fieldAddr 7 (.t p161)), on (.store 1 (.t p162) (.t p160))]) (.seq (.ops [oo p164 (.bin .eql .other (.t p128) (.c (iI 4))), oo p163 (.mv (.t p164))]) [] (.cond (.t p163) (.seq (.seq (.draw [oo p165 (.fieldAddr 1 (.t p6)), oo p166 (.load1 (.t p165)), oo p167 (.bin .lss .other (.t p166) (.c (iI 0))), oo p168 (.mv (.t p167)), og p169 (.fieldAddr 1 (.t p6)) p168 false, og p170 (.load1 (.t p169)) p168 false, og p171 (.mv (.t p0)) p168 false, og p172 (.nilCheck (.t p171)) p168 false, og p173 (.fieldAddr 0 (.t p172)) p168 false, og p174 (.fieldAddr 2 (.t p173)) p168 false, og p175 (.load1 (.t p174)) p168 false, og p176 (.blt .len [(.t p175)]) p168 false, og p177 (.bin .geq .other (.t p170) (.t p176)) p168 false, oo p178 (.pick (.t p168) (.c (.bool true)) (.t p177)), oo p179 (.mv (.t p178)), og p180 (.mv (.t p0)) p179 false, og p181 (.nilCheck (.t p180)) p179 false, og p182 (.fieldAddr 6 (.t p181)) p179 false, og p183 (.load1 (.t p182)) p179 false, og p184 (.fieldAddr 1 (.t p6)) p179 false, og p185 (.load1 (.t p184)) p179 false, og p186 (.indexAddr 1 (.t p183) (.t p185)) p179 false, og p187 (.load1 (.t p186)) p179 false, og p188 (.bin .gtr .other (.t p187) (.c (iI 0))) p179 false, oo p189 (.pick (.t p179) (.c (.bool true)) (.t p188))]) [] (.cond (.t p189) (.seq (.ops [oo p190 (.mv (.t p0)), oo p191 (.nilCheck (.t p190)), oo p192 (.fieldAddr 7 (.t p191)), on (.store 1 (.t p192) (.c (.bool true)))]) [] .ret) .skip)) [] (.seq (.draw [oo p193 (.mv (.t p0)), oo p194 (.nilCheck (.t p193)), oo p195 (.fieldAddr 6 (.t p194)), oo p196 (.load1 (.t p195)), oo p197 (.fieldAddr 1 (.t p6)), oo p198 (.load1 (.t p197)), oo p199 (.indexAddr 1 (.t p196) (.t p198)), oo p200 (.load1 (.t p199)), oo p201 (.bin .add .other (.t p200) (.c (iI 1))), oo p202 (.indexAddr 1 (.t p196) (.t p198)), on (.store 1 (.t p202) (.t p201))]) [] (.seq (.draw [oo p204 (.mv (.t p0)), oo p205 (.nilCheck (.t p204)), oo p206 (.fieldAddr 0 (.t p205)), oo p207 (.fieldAddr 2 (.t p206)), oo p208 (.load1 (.t p207)), oo p209 (.fieldAddr 1 (.t p6)), oo p210 (.load1 (.t p209)), oo p211 (.indexAddr 3 (.t p208) (.t p210)), oo p212 (.loadN 3 (.t p211)), oo p213 (.call (.c (.func (.func 153) #[] #[])) [(.t p212)]), oo p203 (.mv (.t p2)), ⟨(some p214), .bin .add .other (.t p203) (.t p213), none, 1⟩, ⟨(some p11), .mv (.t p214), none, 1⟩]) [] (.draw [oo p215 (.mv (.t p0)), oo p216 (.mv (.t p0)), oo p217 (.nilCheck (.t p216)), oo p218 (.fieldAddr 0 (.t p217)), oo p219 (.fieldAddr 2 (.t p218)), oo p220 (.load1 (.t p219)), oo p221 (.fieldAddr 1 (.t p6)), oo p222 (.load1 (.t p221)), oo p223 (.indexAddr 3 (.t p220) (.t p222)), oo p224 (.loadN 3 (.t p223)), oo p225 (.mv (.t p11)), oo p226 (.call (.c (.func (.func 154) #[] #[])) [(.t p215), (.t p224), (.t p225)])])))) (.ops [oo p129 (.mv (.t p0)), oo p130 (.mv (.t p0)), oo p131 (.nilCheck (.t p130)), oo p132 (.fieldAddr 7 (.t p131)), oo p133 (.load1 (.t p132)), oo p134 (.mv (.t p133)), og p135 (.fieldAddr 1 (.t p6)) p134 false, og p136 (.load1 (.t p135)) p134 false, og p137 (.bin .neq .other (.t p136) (.c (iI 0))) p134 false, oo p138 (.pick (.t p134) (.c (.bool true)) (.t p137)), oo p139 (.nilCheck (.t p129)), oo p140 (.fieldAddr 7 (.t p139)), on (.store 1 (.t p140) (.t p138))]))))))) [] (.seq (.ops [oo p12 (.mv (.c (iI 0)))]) [] (.block 3 (.loop [] (.seq (.seq (.ops [oo p227 (.mv (.t p12)), oo p228 (.fieldAddr 3 (.t p6)), oo p229 (.load1 (.t p228)), oo p230 (.blt .len [(.t p229)]), oo p231 (.bin .lss .other (.t p227) (.t p230)), oo p232 (.mv (.t p231)), og p233 (.mv (.t p0)) p232 true, og p234 (.nilCheck (.t p233)) p232 true, og p235 (.fieldAddr 7 (.t p234)) p232 true, og p236 (.load1 (.t p235)) p232 true, og p237 (.un .not (.t p236)) p232 true, oo p238 (.pick (.t p232) (.t p237) (.c (.bool false)))]) [] (.cond (.t p238) .skip (.exit 3))) [] (.seq (.block 4 (.ops [oo p241 (.mv (.t p0)), oo p242 (.fieldAddr 3 (.t p6)), oo p243 (.load1 (.t p242)), oo p244 (.mv (.t p12)), oo p245 (.indexAddr 1 (.t p243) (.t p244)), oo p246 (.load1 (.t p245)), oo p247 (.mv (.t p11)), oo p248 (.call (.c (.func (.func 127) #[] #[])) [(.t p241), (.t p246), (.t p247)])])) [] (.ops [oo p239 (.mv (.t p12)), oo p240 (.bin .add .other (.t p239) (.c (iI 1))), oo p12 (.mv (.t p240))]))))))))))))))), none, none⟩
def f128 : CFunc := ⟨3, [.tmp p0], (.seq (.ops [oo p0 (.mv (.c (.map none)))]) [] (.seq (.ops [oo p1 (.makeMap), on (.mapUpdate .str (.t p1) (.c (.string ⟨#[97, 110, 100]⟩)) (.c (.bool true))), on (.mapUpdate .str (.t p1) (.c (.string ⟨#[100, 101, 102]⟩)) (.c (.bool true))), on (.mapUpdate .str (.t p1) (.c (.string ⟨#[101, 108, 115, 101]⟩)) (.c (.bool true))), on (.mapUpdate .str (.t p1) (.c (.string ⟨#[103, 111]⟩)) (.c (.bool true))), on (.mapUpdate .str (.t p1) (.c (.string ⟨#[105, 102]⟩)) (.c (.bool true))), on (.mapUpdate .str (.t p1) (.c (.string ⟨#[105, 110]⟩)) (.c (.bool true))), on (.mapUpdate .str (.t p1) (.c (.string ⟨#[112, 108, 97, 99, 101]⟩)) (.c (.bool true))), on (.mapUpdate .str (.t p1) (.c (.string ⟨#[115, 116, 111, 112]⟩)) (.c (.bool true))), on (.mapUpdate .str (.t p1) (.c (.string ⟨#[116, 104, 101, 110]⟩)) (.c (.bool true))), on (.mapUpdate .str (.t p1) (.c (.string ⟨#[119, 97, 116, 99, 104]⟩)) (.c (.bool true))), oo p2 (.mv (.t p1)), oo p0 (.mv (.t p2))]) [] .ret)), none, none⟩
def f131 : CFunc := ⟨142, [], (.seq (.ops [oo p1 (.box (.t p0))]) [] (.seq (.ops [oo p12 (.fieldAddr 0 (.t p1)), oo p13 (.load1 (.t p12)), oo p14 (.blt .len [(.t p13)]), oo p15 (.bin .leq .other (.t p14) (.c (iI 30))), oo p16 (.mv (.t p15)), og p17 (.fieldAddr 1 (.t p1)) p16 true, og p18 (.load1 (.t p17)) p16 true, og p19 (.blt .len [(.t p18)]) p16 true, og p20 (.bin .leq .other (.t p19) (.c (iI 30))) p16 true, oo p21 (.pick (.t p16) (.t p20) (.c (.bool false))), oo p22 (.mv (.t p21)), og p23 (.fieldAddr 2 (.t p1)) p22 true, og p24 (.load1 (.t p23)) p22 true, og p25 (.blt .len [(.t p24)]) p22 true, og p26 (.bin .leq .other (.t p25) (.c (iI 30))) p22 true, oo p27 (.pick (.t p22) (.t p26) (.c (.bool false))), oo p28 (.call (.c (.func (.func 96) #[] #[])) [(.t p27)])]) [] (.seq (.ops [oo p29 (.makeFunc (.func 156) [] [(.t p1)]), oo p2 (.mv (.t p29))]) [] (.seq (.seq (.ops [oo p30 (.fieldAddr 0 (.t p1)), oo p31 (.load1 (.t p30)), oo p32 (.blt .len [(.t p31)]), oo p33 (.mv (.c (iI 0)))]) [] (.block 0 (.loop [] (.seq (.ops [oo p34 (.bin .lss .other (.t p33) (.t p32))]) [] (.seq (.cond (.t p34) .skip (.exit 0)) [] (.seq (.block 1 (.seq (.ops [oo p35 (.indexAddr 2 (.t p31) (.t p33)), oo p36 (.loadN 2 (.t p35)), oo p4 (.alloc [(iI 0), (iI 0)]), on (.store 2 (.t p4) (.t p36))]) [] (.seq (.ops [oo p37 (.mv (.t p2)), oo p38 (.fieldAddr 0 (.t p4)), oo p39 (.load1 (.t p38)), oo p40 (.call (.t p37) [(.t p39)])]) [] (.ops [oo p41 (.fieldAddr 1 (.t p4)), oo p42 (.load1 (.t p41)), oo p43 (.bin .geq .other (.t p42) (.c (iI 0))), oo p44 (.mv (.t p43)), og p45 (.fieldAddr 1 (.t p4)) p44 true, og p46 (.load1 (.t p45)) p44 true, og p47 (.bin .leq .other (.t p46) (.c (iI 3))) p44 true, oo p48 (.pick (.t p44) (.t p47) (.c (.bool false))), oo p49 (.call (.c (.func (.func 96) #[] #[])) [(.t p48)])])))) [] (.ops [oo p50 (.bin .add .other (.t p33) (.c (iI 1))), oo p33 (.mv (.t p50))]))))))) [] (.seq (.seq (.ops [oo p51 (.fieldAddr 1 (.t p1)), oo p52 (.load1 (.t p51)), oo p53 (.blt .len [(.t p52)]), oo p54 (.mv (.c (iI 0)))]) [] (.block 2 (.loop [] (.seq (.ops [oo p55 (.bin .lss .other (.t p54) (.t p53))]) [] (.seq (.cond (.t p55) .skip (.exit 2)) [] (.seq (.block 3 (.seq (.ops [oo p56 (.mv (.t p54)), oo p57 (.indexAddr 2 (.t p52) (.t p54)), oo p58 (.loadN 2 (.t p57)), oo p6 (.alloc [(iI 0), (iI 0)]), oo p5 (.mv (.t p56)), on (.store 2 (.t p6) (.t p58))]) [] (.ops [oo p59 (.fieldAddr 0 (.t p6)), oo p60 (.load1 (.t p59)), oo p61 (.bin .geq .other (.t p60) (.c (iI 0))), oo p62 (.mv (.t p61)), og p63 (.fieldAddr 0 (.t p6)) p62 true, og p64 (.load1 (.t p63)) p62 true, og p65 (.mv (.t p5)) p62 true, og p66 (.bin .leq .other (.t p64) (.t p65)) p62 true, oo p67 (.pick (.t p62) (.t p66) (.c (.bool false))), oo p68 (.call (.c (.func (.func 96) #[] #[])) [(.t p67)])]))) [] (.ops [oo p69 (.bin .add .other (.t p54) (.c (iI 1))), oo p54 (.mv (.t p69))]))))))) [] (.seq (.ops [oo p70 (.makeMap), oo p7 (.mv (.t p70))]) [] (.seq (.seq (.ops [oo p71 (.fieldAddr 2 (.t p1)), oo p72 (.load1 (.t p71)), oo p73 (.blt .len [(.t p72)]), oo p74 (.mv (.c (iI 0)))]) [] (.block 4 (.loop [] (.seq (.ops [oo p75 (.bin .lss .other (.t p74) (.t p73))]) [] (.seq (.cond (.t p75) .skip (.exit 4)) [] (.seq (.block 5 (.seq (.ops [oo p76 (.indexAddr 3 (.t p72) (.t p74)), oo p77 (.loadN 3 (.t p76)), oo p9 (.alloc [(iI 0), (.slice none 0 0), (iI 0)]), on (.store 3 (.t p9) (.t p77))]) [] (.seq (.ops [oo p78 (.mv (.t p2)), oo p79 (.fieldAddr 0 (.t p9)), oo p80 (.load1 (.t p79)), oo p81 (.call (.t p78) [(.t p80)])]) [] (.seq (.ops [oo p82 (.fieldAddr 1 (.t p9)), oo p83 (.load1 (.t p82)), oo p84 (.blt .len [(.t p83)]), oo p85 (.bin .gtr .other (.t p84) (.c (iI 0))), oo p86 (.mv (.t p85)), og p87 (.fieldAddr 1 (.t p9)) p86 true, og p88 (.load1 (.t p87)) p86 true, og p89 (.blt .len [(.t p88)]) p86 true, og p90 (.bin .leq .other (.t p89) (.c (iI 3))) p86 true, oo p91 (.pick (.t p86) (.t p90) (.c (.bool false))), oo p92 (.call (.c (.func (.func 96) #[] #[])) [(.t p91)])]) [] (.seq (.ops [oo p93 (.fieldAddr 1 (.t p9)), oo p94 (.load1 (.t p93)), oo p95 (.blt .len [(.t p94)]), oo p96 (.mv (.c (iI 0)))]) [] (.block 6 (.loop [] (.seq (.ops [oo p97 (.bin .lss .other (.t p96) (.t p95))]) [] (.seq (.cond (.t p97) .skip (.exit 6)) [] (.seq (.block 7 (.seq (.ops [oo p98 (.mv (.t p96)), oo p99 (.indexAddr 1 (.t p94) (.t p96)), oo p100 (.load1 (.t p99)), oo p10 (.mv (.t p98)), oo p11 (.mv (.t p100))]) [] (.seq (.draw [oo p101 (.mv (.t p11)), oo p102 (.bin .geq .other (.t p101) (.c (iI 0))), oo p103 (.mv (.t p102)), og p104 (.mv (.t p11)) p103 true, og p105 (.fieldAddr 0 (.t p1)) p103 true, og p106 (.load1 (.t p105)) p103 true, og p107 (.blt .len [(.t p106)]) p103 true, og p108 (.bin .lss .other (.t p104) (.t p107)) p103 true, oo p109 (.pick (.t p103) (.t p108) (.c (.bool false))), oo p110 (.mv (.t p109)), og p111 (.fieldAddr 0 (.t p1)) p110 true, og p112 (.load1 (.t p111)) p110 true, og p113 (.mv (.t p11)) p110 true, og p114 (.indexAddr 2 (.t p112) (.t p113)) p110 true, og p115 (.fieldAddr 0 (.t p114)) p110 true, og p116 (.load1 (.t p115)) p110 true, og p117 (.fieldAddr 0 (.t p9)) p110 true, og p118 (.load1 (.t p117)) p110 true, og p119 (.bin .eql .other (.t p116) (.t p118)) p110 true, oo p120 (.pick (.t p110) (.t p119) (.c (.bool false))), oo p121 (.mv (.t p120)), og p122 (.fieldAddr 1 (.t p9)) p121 true, og p123 (.load1 (.t p122)) p121 true, og p124 (.mv (.t p10)) p121 true, og p125 (.slice 1 (.t p123) none (some (.t p124))) p121 true, og p126 (.mv (.t p11)) p121 true, og p127 (.call (.c (.func (.func 157) #[] #[])) [(.t p125), (.t p126)]) p121 true, ⟨(some p128), .un .not (.t p127), (some (p121, true)), 1⟩, ⟨(some p129), .pick (.t p121) (.t p128) (.c (.bool false)), none, 1⟩, ⟨(some p130), .call (.c (.func (.func 96) #[] #[])) [(.t p129)], none, 1⟩]) [] (.ops [oo p131 (.mv (.t p7)), oo p132 (.mv (.t p11)), on (.mapUpdate .int (.t p131) (.t p132) (.c (.bool true)))])))) [] (.ops [oo p133 (.bin .add .other (.t p96) (.c (iI 1))), oo p96 (.mv (.t p133))]))))))))))) [] (.ops [oo p134 (.bin .add .other (.t p74) (.c (iI 1))), oo p74 (.mv (.t p134))]))))))) [] (.ops [oo p135 (.mv (.t p7)), oo p136 (.blt .lenMap [(.t p135)]), oo p137 (.fieldAddr 0 (.t p1)), oo p138 (.load1 (.t p137)), oo p139 (.blt .len [(.t p138)]), oo p140 (.bin .eql .other (.t p136) (.t p139)), oo p141 (.call (.c (.func (.func 96) #[] #[])) [(.t p140)])])))))))), none, none⟩
def f132 : CFunc := ⟨10, [.tmp p2], (.seq (.ops [oo p1 (.box (.t p0)), oo p2 (.mv (.c (iI 0)))]) [] (.seq (.ops [oo p3 (.fieldAddr 0 (.t p1)), oo p4 (.load1 (.t p3)), oo p5 (.blt .len [(.t p4)]), oo p6 (.fieldAddr 1 (.t p1)), oo p7 (.load1 (.t p6)), oo p8 (.blt .len [(.t p7)]), oo p9 (.bin .add .other (.t p5) (.t p8)), oo p2 (.mv (.t p9))]) [] .ret)), none, none⟩
def f133 : CFunc := ⟨25, [.tmp p4], (.seq (.ops [oo p2 (.box (.t p0)), oo p3 (.box (.t p1)), oo p4 (.mv (.c (iI 0)))]) [] (.seq (.ops [oo p5 (.mv (.c (iI 0)))]) [] (.seq (.seq (.ops [oo p8 (.fieldAddr 1 (.t p3)), oo p9 (.load1 (.t p8)), oo p10 (.blt .len [(.t p9)]), oo p11 (.mv (.c (iI 0)))]) [] (.block 0 (.loop [] (.seq (.ops [oo p12 (.bin .lss .other (.t p11) (.t p10))]) [] (.seq (.cond (.t p12) .skip (.exit 0)) [] (.seq (.block 1 (.seq (.ops [oo p13 (.indexAddr 1 (.t p9) (.t p11)), oo p14 (.load1 (.t p13)), oo p7 (.mv (.t p14))]) [] (.ops [oo p15 (.mv (.t p5)), oo p16 (.fieldAddr 0 (.t p2)), oo p17 (.load1 (.t p16)), oo p18 (.mv (.t p7)), oo p19 (.indexAddr 2 (.t p17) (.t p18)), oo p20 (.fieldAddr 1 (.t p19)), oo p21 (.load1 (.t p20)), oo p22 (.bin .add .other (.t p15) (.t p21)), oo p5 (.mv (.t p22))]))) [] (.ops [oo p23 (.bin .add .other (.t p11) (.c (iI 1))), oo p11 (.mv (.t p23))]))))))) [] (.seq (.ops [oo p24 (.mv (.t p5)), oo p4 (.mv (.t p24))]) [] .ret)))), none, none⟩
def f151 : CFunc := ⟨19, [.tmp p2, .tmp p3, .tmp p4], (.seq (.ops [oo p2 (.mv (.c (iI 0))), oo p3 (.mv (.c (iI 0))), oo p4 (.mv (.c (.bool false)))]) [] (.seq (.seq (.ops [oo p5 (.mv (.t p0))]) [] (.block 0 (.seq (.seq (.ops [oo p7 (.bin .eql .other (.t p5) (.c (iI 1))), oo p6 (.mv (.t p7))]) [] (.cond (.t p6) .skip (.ops [oo p8 (.bin .eql .other (.t p5) (.c (iI 7))), oo p6 (.mv (.t p8))]))) [] (.cond (.t p6) (.seq (.ops [oo p2 (.mv (.c (iI 0))), oo p3 (.mv (.c (iI 0))), oo p4 (.mv (.c (.bool true)))]) [] .ret) (.seq (.ops [oo p10 (.bin .eql .other (.t p5) (.c (iI 2))), oo p9 (.mv (.t p10))]) [] (.cond (.t p9) (.seq (.ops [oo p2 (.mv (.c (iI (-1)))), oo p3 (.mv (.c (iI 0))), oo p4 (.mv (.c (.bool true)))]) [] .ret) (.seq (.ops [oo p12 (.bin .eql .other (.t p5) (.c (iI 3))), oo p11 (.mv (.t p12))]) [] (.cond (.t p11) (.seq (.ops [oo p2 (.mv (.c (iI 0))), oo p3 (.mv (.c (iI 2))), oo p4 (.mv (.c (.bool true)))]) [] .ret) (.seq (.ops [oo p14 (.bin .eql .other (.t p5) (.c (iI 5))), oo p13 (.mv (.t p14))]) [] (.cond (.t p13) (.seq (.ops [oo p2 (.mv (.c (iI 1))), oo p3 (.mv (.c (iI 2))), oo p4 (.mv (.c (.bool true)))]) [] .ret) (.seq (.seq (.ops [oo p16 (.bin .eql .other (.t p5) (.c (iI 4))), oo p15 (.mv (.t p16))]) [] (.cond (.t p15) .skip (.seq (.ops [oo p17 (.bin .eql .other (.t p5) (.c (iI 6))), oo p15 (.mv (.t p17))]) [] (.cond (.t p15) .skip (.ops [oo p18 (.bin .eql .other (.t p5) (.c (iI 8))), oo p15 (.mv (.t p18))]))))) [] (.cond (.t p15) (.seq (.ops [oo p2 (.mv (.c (iI 0))), oo p3 (.mv (.c (iI 1))), oo p4 (.mv (.c (.bool true)))]) [] .ret) .skip)))))))))))) [] (.seq (.ops [oo p2 (.mv (.c (iI 0))), oo p3 (.mv (.c (iI 0))), oo p4 (.mv (.c (.bool false)))]) [] .ret))), none, none⟩
def f198 : CFunc := ⟨3, [.tmp p2], (.seq (.ops [oo p1 (.box (.t p0)), oo p2 (.mv (.c (iI 0)))]) [] (.seq (.ops [oo p2 (.mv (.c (iI 1)))]) [] .ret)), none, none⟩
def f200 : CFunc := ⟨4, [.tmp p2], (.seq (.ops [oo p2 (.mv (.c (iI 0)))]) [] (.seq (.ops [oo p3 (.mv (.t p0)), oo p2 (.mv (.t p3))]) [] .ret)), none, none⟩
def f20 : CFunc := ⟨35, [.tmp p2], (.seq (.ops [oo p1 (.box (.t p0)), oo p2 (.mv (.c (.pointer none)))]) [] (.seq (.draw [oo p6 (.loadN 4 (.t p1)), oo p7 (.fieldAddr 1 (.t p1)), oo p8 (.load1 (.t p7)), oo p9 (.blt .len [(.t p8)]), oo p10 (.makeSlice 1 24 [(.slice none 0 0)] (.t p9) (.t p9)), oo p11 (.fieldAddr 2 (.t p1)), oo p12 (.load1 (.t p11)), oo p13 (.blt .len [(.t p12)]), oo p14 (.makeSlice 1 8 [(iI 0)] (.t p13) (.t p13)), oo p15 (.build [(.slice none 0 0), (.slice none 0 0), (.slice none 0 0), (iI 0), (.slice none 0 0), (.slice none 0 0)] [(0, 4, (.t p6)), (4, 1, (.t p10)), (5, 1, (.t p14))]), oo p16 (.box (.t p15)), oo p3 (.mv (.t p16))]) [] (.seq (.ops [oo p4 (.mv (.c (.slice none 0 0)))]) [] (.seq (.seq (.ops [oo p17 (.fieldAddr 0 (.t p1)), oo p18 (.load1 (.t p17)), oo p19 (.blt .len [(.t p18)]), oo p20 (.mv (.c (iI 0)))]) [] (.block 0 (.loop [] (.seq (.ops [oo p21 (.bin .lss .other (.t p20) (.t p19))]) [] (.seq (.cond (.t p21) .skip (.exit 0)) [] (.seq (.block 1 (.seq (.ops [oo p22 (.mv (.t p20)), oo p5 (.mv (.t p22))]) [] (.ops [oo p23 (.mv (.t p4)), oo p24 (.mv (.t p5)), oo p25 (.build [(iI 0), (iI 0), (iI 0), (iI 0)] [(0, 1, (.c (iI 1))), (2, 1, (.t p24))]), oo p26 (.buildSlice 1 4 [(iI 0), (iI 0), (iI 0), (iI 0)] [(0, (.t p25))]), oo p27 (.blt (.append 4 32) [(.t p23), (.t p26)]), oo p4 (.mv (.t p27))]))) [] (.ops [oo p28 (.bin .add .other (.t p20) (.c (iI 1))), oo p20 (.mv (.t p28))]))))))) [] (.seq (.ops [oo p29 (.mv (.t p3)), oo p30 (.fieldAddr 3 (.t p1)), oo p31 (.load1 (.t p30)), oo p32 (.mv (.t p4)), oo p33 (.call (.c (.func (.func 41) #[] #[])) [(.t p29), (.t p31), (.t p32)])]) [] (.seq (.ops [oo p34 (.mv (.t p3)), oo p2 (.mv (.t p34))]) [] .ret)))))), none, none⟩
def f101 : CFunc := ⟨48, [.tmp p8], (.seq (.ops [oo p6 (.box (.t p2)), oo p8 (.mv (.c (.slice none 0 0)))]) [] (.seq (.ops [oo p13 (.mv (.t p3)), oo p14 (.call (.c (.func (.func 19) #[] #[])) [(.t p13)]), oo p9 (.mv (.t p14))]) [] (.seq (.seq (.ops [oo p15 (.fieldAddr 1 (.t p6)), oo p16 (.load1 (.t p15)), oo p17 (.blt .len [(.t p16)]), oo p18 (.mv (.c (iI 0)))]) [] (.block 0 (.loop [] (.seq (.ops [oo p19 (.bin .lss .other (.t p18) (.t p17))]) [] (.seq (.cond (.t p19) .skip (.exit 0)) [] (.seq (.block 1 (.seq (.ops [oo p20 (.indexAddr 1 (.t p16) (.t p18)), oo p21 (.load1 (.t p20)), oo p11 (.mv (.t p21))]) [] (.seq (.ops [oo p22 (.mv (.t p0)), oo p23 (.nilCheck (.t p22)), oo p24 (.fieldAddr 0 (.t p23)), oo p25 (.fieldAddr 2 (.t p24)), oo p26 (.load1 (.t p25)), oo p27 (.mv (.t p1)), oo p28 (.indexAddr 3 (.t p26) (.t p27)), oo p29 (.fieldAddr 0 (.t p28)), oo p30 (.load1 (.t p29)), oo p31 (.mv (.t p11)), oo p32 (.indexAddr 2 (.t p30) (.t p31)), oo p33 (.fieldAddr 1 (.t p32)), oo p34 (.load1 (.t p33)), oo p35 (.mv (.c (iI 0)))]) [] (.block 2 (.loop [] (.seq (.ops [oo p36 (.bin .lss .other (.t p35) (.t p34))]) [] (.seq (.cond (.t p36) .skip (.exit 2)) [] (.seq (.block 3 (.seq (.ops [oo p37 (.mv (.t p35)), oo p12 (.mv (.t p37))]) [] (.ops [oo p38 (.mv (.t p9)), oo p39 (.mv (.t p1)), oo p40 (.mv (.t p11)), oo p41 (.mv (.t p12)), oo p42 (.build [(iI 0), (iI 0), (iI 0), (iI 0)] [(0, 1, (.c (iI 4))), (1, 1, (.t p39)), (2, 1, (.t p40)), (3, 1, (.t p41))]), oo p43 (.buildSlice 1 4 [(iI 0), (iI 0), (iI 0), (iI 0)] [(0, (.t p42))]), oo p44 (.blt (.append 4 32) [(.t p38), (.t p43)]), oo p9 (.mv (.t p44))]))) [] (.ops [oo p45 (.bin .add .other (.t p35) (.c (iI 1))), oo p35 (.mv (.t p45))]))))))))) [] (.ops [oo p46 (.bin .add .other (.t p18) (.c (iI 1))), oo p18 (.mv (.t p46))]))))))) [] (.seq (.ops [oo p47 (.mv (.t p9)), oo p8 (.mv (.t p47))]) [] .ret)))), none, none⟩
def f112 : CFunc := ⟨16, [.tmp p6], (.seq (.ops [oo p4 (.box (.t p1)), oo p6 (.mv (.c (iI 0)))]) [] (.seq (.seq (.ops [oo p7 (.mv (.t p2)), oo p8 (.bin .eql .other (.t p7) (.c (iI 0)))]) [] (.cond (.t p8) (.seq (.ops [oo p9 (.fieldAddr 1 (.t p4)), oo p10 (.load1 (.t p9)), oo p6 (.mv (.t p10))]) [] .ret) .skip)) [] (.seq (.ops [oo p11 (.mv (.t p0)), oo p12 (.loadN 3 (.t p4)), oo p13 (.mv (.t p2)), oo p14 (.bin .sub .other (.t p13) (.c (iI 1))), oo p15 (.call (.c (.func (.func 144) #[] #[])) [(.t p11), (.t p12), (.c (.bool false)), (.t p14)]), oo p6 (.mv (.t p15))]) [] .ret))), none, none⟩
def f120 : CFunc := ⟨13, [.cell (some 4) p2], (.seq (.ops [oo p1 (.box (.t p0)), oo p2 (.alloc [(iI 0), (iI 0), (iI 0), (.slice none 0 0)])]) [] (.seq (.draw [oo p9 (.fieldAddr 3 (.t p1)), oo p10 (.load1 (.t p9)), oo p11 (.call (.c (.func (.func 121) #[] #[])) [(.t p10)]), oo p3 (.fieldAddr 0 (.t p1)), oo p4 (.load1 (.t p3)), oo p5 (.fieldAddr 1 (.t p1)), oo p6 (.load1 (.t p5)), oo p7 (.fieldAddr 2 (.t p1)), oo p8 (.load1 (.t p7)), ⟨(some p12), .build [(iI 0), (iI 0), (iI 0), (.slice none 0 0)] [(0, 1, (.t p4)), (1, 1, (.t p6)), (2, 1, (.t p8)), (3, 1, (.t p11))], none, 1⟩, ⟨none, .store 4 (.t p2) (.t p12), none, 1⟩]) [] .ret)), none, none⟩
def f121 : CFunc := ⟨5, [.tmp p2], (.seq (.ops [oo p2 (.mv (.c (.slice none 0 0)))]) [] (.seq (.ops [oo p3 (.mv (.t p0)), oo p4 (.call (.c (.func (.func 147) #[] #[])) [(.t p3), (.c (.func (.func 148) #[] #[]))]), oo p2 (.mv (.t p4))]) [] .ret)), none, none⟩
def f147 : CFunc := ⟨22, [.tmp p4], (.seq (.ops [oo p4 (.mv (.c (.slice none 0 0)))]) [] (.seq (.ops [oo p5 (.mv (.c (.slice none 0 0)))]) [] (.seq (.seq (.ops [oo p8 (.mv (.t p0)), oo p9 (.blt .len [(.t p8)]), oo p10 (.mv (.c (iI 0)))]) [] (.block 0 (.loop [] (.seq (.ops [oo p11 (.bin .lss .other (.t p10) (.t p9))]) [] (.seq (.cond (.t p11) .skip (.exit 0)) [] (.seq (.block 1 (.seq (.ops [oo p12 (.indexAddr 1 (.t p8) (.t p10)), oo p13 (.loadN 1 (.t p12)), oo p7 (.alloc [(.slice none 0 0)]), on (.store 1 (.t p7) (.t p13))]) [] (.ops [oo p14 (.mv (.t p5)), oo p15 (.mv (.t p1)), oo p16 (.loadN 1 (.t p7)), oo p17 (.call (.t p15) [(.t p16)]), oo p18 (.buildSlice 1 1 [(.slice none 0 0)] [(0, (.t p17))]), oo p19 (.blt (.append 1 24) [(.t p14), (.t p18)]), oo p5 (.mv (.t p19))]))) [] (.ops [oo p20 (.bin .add .other (.t p10) (.c (iI 1))), oo p10 (.mv (.t p20))]))))))) [] (.seq (.ops [oo p21 (.mv (.t p5)), oo p4 (.mv (.t p21))]) [] .ret)))), none, none⟩
def f148 : CFunc := ⟨7, [.cell (some 1) p2], (.seq (.ops [oo p1 (.box (.t p0)), oo p2 (.alloc [(.slice none 0 0)])]) [] (.seq (.ops [oo p3 (.fieldAddr 0 (.t p1)), oo p4 (.load1 (.t p3)), oo p5 (.call (.c (.func (.func 118) #[] #[])) [(.t p4)]), oo p6 (.build [(.slice none 0 0)] [(0, 1, (.t p5))]), on (.store 1 (.t p2) (.t p6))]) [] .ret)), none, none⟩
def f4 : CFunc := ⟨24, [.cell (some 4) p0], (.seq (.ops [oo p0 (.alloc [(.slice none 0 0), (.slice none 0 0), (.slice none 0 0), (iI 0)])]) [] (.seq (.ops [oo p2 (.build [(iI 0), (iI 0)] [(1, 1, (.c (iI 1)))]), oo p3 (.build [(iI 0), (iI 0)] []), oo p4 (.buildSlice 2 2 [(iI 0), (iI 0)] [(0, (.t p2)), (1, (.t p3))]), oo p5 (.buildSlice 2 1 [(iI 0)] [(0, (.c (iI 0))), (1, (.c (iI 1)))]), oo p6 (.build [(iI 0), (.slice none 0 0), (iI 0)] [(1, 1, (.t p5)), (2, 1, (.c (iI 1)))]), oo p7 (.buildSlice 1 3 [(iI 0), (.slice none 0 0), (iI 0)] [(0, (.t p6))]), oo p8 (.build [(.slice none 0 0), (.slice none 0 0), (.slice none 0 0)] [(0, 1, (.t p4)), (2, 1, (.t p7))]), oo p1 (.alloc [(.slice none 0 0), (.slice none 0 0), (.slice none 0 0)]), on (.store 3 (.t p1) (.t p8))]) [] (.seq (.draw [oo p14 (.call (.c (.func (.func 13) #[] #[])) [(.c (iI 3))]), ⟨(some p18), .call (.c (.func (.func 14) #[] #[])) [(.c (iI 1))], none, 1⟩, ⟨(some p20), .call (.c (.func (.func 14) #[] #[])) [(.c (iI 2))], none, 2⟩, oo p9 (.buildSlice 1 1 [(.string ⟨#[]⟩)] [(0, (.c (.string ⟨#[111, 117, 116]⟩)))]), oo p10 (.loadN 3 (.t p1)), oo p11 (.buildSlice 1 3 [(.slice none 0 0), (.slice none 0 0), (.slice none 0 0)] [(0, (.t p10))]), oo p12 (.buildSlice 1 1 [(iI 0)] [(0, (.c (iI 2)))]), oo p13 (.build [(iI 0), (iI 0), (.slice none 0 0), (.slice none 0 0)] [(0, 1, (.c (iI 4))), (3, 1, (.t p12))]), ⟨(some p15), .build [(iI 0), (iI 0), (.slice none 0 0), (.slice none 0 0)] [(0, 1, (.c (iI 2))), (2, 1, (.t p14))], none, 1⟩, oo p16 (.buildSlice 2 1 [(iI 0)] [(0, (.c (iI 3))), (1, (.c (iI 4)))]), oo p17 (.build [(iI 0), (iI 0), (.slice none 0 0), (.slice none 0 0)] [(0, 1, (.c (iI 3))), (3, 1, (.t p16))]), ⟨(some p19), .build [(iI 0), (iI 0), (.slice none 0 0), (.slice none 0 0)] [(0, 1, (.c (iI 2))), (1, 1, (.c (iI 1))), (2, 1, (.t p18))], none, 2⟩, ⟨(some p21), .build [(iI 0), (iI 0), (.slice none 0 0), (.slice none 0 0)] [(0, 1, (.c (iI 2))), (1, 1, (.c (iI 1))), (2, 1, (.t p20))], none, 3⟩, ⟨(some p22), .buildSlice 5 4 [(iI 0), (iI 0), (.slice none 0 0), (.slice none 0 0)] [(0, (.t p13)), (1, (.t p15)), (2, (.t p17)), (3, (.t p19)), (4, (.t p21))], none, 3⟩, ⟨(some p23), .build [(.slice none 0 0), (.slice none 0 0), (.slice none 0 0), (iI 0)] [(0, 1, (.t p9)), (2, 1, (.t p11)), (1, 1, (.t p22))], none, 3⟩, ⟨none, .store 4 (.t p0) (.t p23), none, 3⟩]) [] .ret))), none, none⟩
def f13 : CFunc := ⟨6, [.tmp p2], (.seq (.ops [oo p2 (.mv (.c (.slice none 0 0)))]) [] (.seq (.ops [oo p3 (.mv (.t p0)), oo p4 (.build [(iI 0), (iI 0), (.slice none 0 0)] [(0, 1, (.c (iI 2))), (1, 1, (.t p3))]), oo p5 (.buildSlice 1 3 [(iI 0), (iI 0), (.slice none 0 0)] [(0, (.t p4))]), oo p2 (.mv (.t p5))]) [] .ret)), none, none⟩
def f18 : CFunc := ⟨11, [.tmp p2], (.seq (.ops [oo p1 (.box (.t p0)), oo p2 (.mv (.c (iI 0)))]) [] (.seq (.ops [oo p6 (.loadN 4 (.t p1)), oo p7 (.call (.c (.func (.func 39) #[] #[])) [(.t p6), (.c (.func (.func 40) #[] #[]))]), oo p5 (.mv (.t p7)), oo p8 (.extract (.t p5) 0), oo p9 (.extract (.t p5) 1), oo p3 (.mv (.t p8)), oo p4 (.mv (.t p9))]) [] (.seq (.ops [oo p10 (.mv (.t p4)), oo p2 (.mv (.t p10))]) [] .ret))), none, none⟩
def f39 : CFunc := ⟨10, [.tmp p4, .cell none p5], (.seq (.ops [oo p2 (.box (.t p0)), oo p4 (.mv (.c (.bool false))), oo p5 (.alloc [(iI 0)])]) [] (.ops [])), (some ⟨(.c (.func (.func 73) #[] #[])), [(.t p5)], [], (.seq (.ops []) [] (.seq (.ops [oo p6 (.mv (.t p1)), oo p7 (.loadN 4 (.t p2)), oo p8 (.call (.c (.func (.func 74) #[] #[])) [(.t p7)]), oo p9 (.call (.t p6) [(.t p8)]), oo p4 (.mv (.t p9)), on (.store 1 (.t p5) (.c (iI 0)))]) [] .ret))⟩), none⟩
def f40 : CFunc := ⟨3, [.tmp p2], (.seq (.ops [oo p2 (.mv (.c (.bool false)))]) [] (.seq (.ops [oo p2 (.mv (.c (.bool true)))]) [] .ret)), none, none⟩
def f152 : CFunc := ⟨18, [.tmp p4], (.seq (.ops [oo p2 (.box (.t p0)), oo p4 (.mv (.c (.bool false)))]) [] (.seq (.ops [oo p5 (.loadN 3 (.t p2)), oo p6 (.call (.c (.func (.func 160) #[] #[])) [(.t p5), (.c (iI 60))]), oo p7 (.bin .leq .other (.t p6) (.c (iI 60))), oo p8 (.mv (.t p7)), og p9 (.loadN 3 (.t p2)) p8 true, og p10 (.call (.c (.func (.func 161) #[] #[])) [(.t p9)]) p8 true, og p11 (.bin .leq .other (.t p10) (.c (iI 12))) p8 true, oo p12 (.pick (.t p8) (.t p11) (.c (.bool false))), oo p13 (.mv (.t p12)), og p14 (.loadN 3 (.t p2)) p13 true, og p15 (.mv (.t p1)) p13 true, og p16 (.call (.c (.func (.func 162) #[] #[])) [(.t p14), (.t p15)]) p13 true, oo p17 (.pick (.t p13) (.t p16) (.c (.bool false))), oo p4 (.mv (.t p17))]) [] .ret)), none, none⟩
def f160 : CFunc := ⟨31, [.tmp p4], (.seq (.ops [oo p2 (.box (.t p0)), oo p4 (.mv (.c (iI 0)))]) [] (.seq (.ops [oo p5 (.mv (.c (iI 1)))]) [] (.seq (.seq (.ops [oo p6 (.mv (.c (iI 0)))]) [] (.block 0 (.loop [] (.seq (.seq (.ops [oo p7 (.mv (.t p6)), oo p8 (.fieldAddr 2 (.t p2)), oo p9 (.load1 (.t p8)), oo p10 (.blt .len [(.t p9)]), oo p11 (.bin .lss .other (.t p7) (.t p10)), oo p12 (.mv (.t p11)), og p13 (.mv (.t p5)) p12 true, og p14 (.mv (.t p1)) p12 true, og p15 (.bin .leq .other (.t p13) (.t p14)) p12 true, oo p16 (.pick (.t p12) (.t p15) (.c (.bool false)))]) [] (.cond (.t p16) .skip (.exit 0))) [] (.seq (.block 1 (.ops [oo p19 (.mv (.t p5)), oo p20 (.fieldAddr 2 (.t p2)), oo p21 (.load1 (.t p20)), oo p22 (.mv (.t p6)), oo p23 (.indexAddr 3 (.t p21) (.t p22)), oo p24 (.loadN 3 (.t p23)), oo p25 (.mv (.t p1)), oo p26 (.mv (.t p5)), oo p27 (.bin .sub .other (.t p25) (.t p26)), oo p28 (.call (.c (.func (.func 160) #[] #[])) [(.t p24), (.t p27)]), oo p29 (.bin .add .other (.t p19) (.t p28)), oo p5 (.mv (.t p29))])) [] (.ops [oo p17 (.mv (.t p6)), oo p18 (.bin .add .other (.t p17) (.c (iI 1))), oo p6 (.mv (.t p18))])))))) [] (.seq (.ops [oo p30 (.mv (.t p5)), oo p4 (.mv (.t p30))]) [] .ret)))), none, none⟩
def f161 : CFunc := ⟨22, [.tmp p2], (.seq (.ops [oo p1 (.box (.t p0)), oo p2 (.mv (.c (iI 0)))]) [] (.seq (.ops [oo p3 (.mv (.c (iI 0)))]) [] (.seq (.seq (.ops [oo p4 (.mv (.c (iI 0)))]) [] (.block 0 (.loop [] (.seq (.seq (.ops [oo p5 (.mv (.t p4)), oo p6 (.fieldAddr 2 (.t p1)), oo p7 (.load1 (.t p6)), oo p8 (.blt .len [(.t p7)]), oo p9 (.bin .lss .other (.t p5) (.t p8))]) [] (.cond (.t p9) .skip (.exit 0))) [] (.seq (.block 1 (.ops [oo p12 (.mv (.t p3)), oo p13 (.fieldAddr 2 (.t p1)), oo p14 (.load1 (.t p13)), oo p15 (.mv (.t p4)), oo p16 (.indexAddr 3 (.t p14) (.t p15)), oo p17 (.loadN 3 (.t p16)), oo p18 (.call (.c (.func (.func 161) #[] #[])) [(.t p17)]), oo p19 (.blt .max [(.t p12), (.t p18)]), oo p3 (.mv (.t p19))])) [] (.ops [oo p10 (.mv (.t p4)), oo p11 (.bin .add .other (.t p10) (.c (iI 1))), oo p4 (.mv (.t p11))])))))) [] (.seq (.ops [oo p20 (.mv (.t p3)), oo p21 (.bin .add .other (.t p20) (.c (iI 1))), oo p2 (.mv (.t p21))]) [] .ret)))), none, none⟩
def f162 : CFunc := ⟨76, [.tmp p4], (.seq (.ops [oo p2 (.box (.t p0)), oo p4 (.mv (.c (.bool false)))]) [] (.seq (.block 0 (.seq (.ops [oo p6 (.fieldAddr 0 (.t p2)), oo p7 (.load1 (.t p6)), oo p8 (.bin .eql .other (.t p7) (.c (iI 1))), oo p5 (.mv (.t p8))]) [] (.cond (.t p5) (.seq (.ops [oo p9 (.fieldAddr 2 (.t p2)), oo p10 (.load1 (.t p9)), oo p11 (.blt .len [(.t p10)]), oo p12 (.bin .eql .other (.t p11) (.c (iI 0))), oo p13 (.mv (.t p12)), og p14 (.fieldAddr 1 (.t p2)) p13 true, og p15 (.load1 (.t p14)) p13 true, og p16 (.bin .geq .other (.t p15) (.c (iI (-1000000000)))) p13 true, oo p17 (.pick (.t p13) (.t p16) (.c (.bool false))), oo p18 (.mv (.t p17)), og p19 (.fieldAddr 1 (.t p2)) p18 true, og p20 (.load1 (.t p19)) p18 true, og p21 (.bin .leq .other (.t p20) (.c (iI 1000000000))) p18 true, oo p22 (.pick (.t p18) (.t p21) (.c (.bool false))), oo p4 (.mv (.t p22))]) [] .ret) (.seq (.ops [oo p24 (.fieldAddr 0 (.t p2)), oo p25 (.load1 (.t p24)), oo p26 (.bin .eql .other (.t p25) (.c (iI 2))), oo p23 (.mv (.t p26))]) [] (.cond (.t p23) (.seq (.ops [oo p27 (.fieldAddr 2 (.t p2)), oo p28 (.load1 (.t p27)), oo p29 (.blt .len [(.t p28)]), oo p30 (.bin .eql .other (.t p29) (.c (iI 0))), oo p31 (.mv (.t p30)), og p32 (.fieldAddr 1 (.t p2)) p31 true, og p33 (.load1 (.t p32)) p31 true, og p34 (.bin .geq .other (.t p33) (.c (iI 0))) p31 true, oo p35 (.pick (.t p31) (.t p34) (.c (.bool false))), oo p36 (.mv (.t p35)), og p37 (.fieldAddr 1 (.t p2)) p36 true, og p38 (.load1 (.t p37)) p36 true, og p39 (.mv (.t p1)) p36 true, og p40 (.bin .lss .other (.t p38) (.t p39)) p36 true, oo p41 (.pick (.t p36) (.t p40) (.c (.bool false))), oo p4 (.mv (.t p41))]) [] .ret) (.seq (.ops [oo p43 (.fieldAddr 0 (.t p2)), oo p44 (.load1 (.t p43)), oo p45 (.bin .lss .other (.t p44) (.c (iI 3))), oo p46 (.mv (.t p45)), og p47 (.fieldAddr 0 (.t p2)) p46 false, og p48 (.load1 (.t p47)) p46 false, og p49 (.bin .gtr .other (.t p48) (.c (iI 7))) p46 false, oo p50 (.pick (.t p46) (.c (.bool true)) (.t p49)), oo p51 (.mv (.t p50)), og p52 (.fieldAddr 2 (.t p2)) p51 false, og p53 (.load1 (.t p52)) p51 false, og p54 (.blt .len [(.t p53)]) p51 false, og p55 (.bin .neq .other (.t p54) (.c (iI 2))) p51 false, oo p56 (.pick (.t p51) (.c (.bool true)) (.t p55)), oo p57 (.mv (.t p56)), og p58 (.fieldAddr 1 (.t p2)) p57 false, og p59 (.load1 (.t p58)) p57 false, og p60 (.bin .neq .other (.t p59) (.c (iI 0))) p57 false, oo p61 (.pick (.t p57) (.c (.bool true)) (.t p60)), oo p42 (.mv (.t p61))]) [] (.cond (.t p42) (.seq (.ops [oo p4 (.mv (.c (.bool false)))]) [] .ret) .skip))))))) [] (.seq (.ops [oo p62 (.fieldAddr 2 (.t p2)), oo p63 (.load1 (.t p62)), oo p64 (.indexAddr 3 (.t p63) (.c (iI 0))), oo p65 (.loadN 3 (.t p64)), oo p66 (.mv (.t p1)), oo p67 (.call (.c (.func (.func 162) #[] #[])) [(.t p65), (.t p66)]), oo p68 (.mv (.t p67)), og p69 (.fieldAddr 2 (.t p2)) p68 true, og p70 (.load1 (.t p69)) p68 true, og p71 (.indexAddr 3 (.t p70) (.c (iI 1))) p68 true, og p72 (.loadN 3 (.t p71)) p68 true, og p73 (.mv (.t p1)) p68 true, og p74 (.call (.c (.func (.func 162) #[] #[])) [(.t p72), (.t p73)]) p68 true, oo p75 (.pick (.t p68) (.t p74) (.c (.bool false))), oo p4 (.mv (.t p75))]) [] .ret))), none, none⟩
def f31 : CFunc := ⟨138, [], (.seq (.ops [oo p9 (.mv (.t p0)), oo p10 (.nilCheck (.t p9)), oo p11 (.fieldAddr 9 (.t p10)), oo p12 (.load1 (.t p11)), oo p13 (.bin .add .other (.t p12) (.c (iI 1))), oo p14 (.nilCheck (.t p9)), oo p15 (.fieldAddr 9 (.t p14)), on (.store 1 (.t p15) (.t p13))]) [] (.seq (.ops [oo p16 (.mv (.t p0)), oo p17 (.mv (.t p0)), oo p18 (.nilCheck (.t p17)), oo p19 (.fieldAddr 10 (.t p18)), oo p20 (.load1 (.t p19)), oo p21 (.mv (.t p20)), og p22 (.mv (.t p0)) p21 false, og p23 (.nilCheck (.t p22)) p21 false, og p24 (.fieldAddr 9 (.t p23)) p21 false, og p25 (.load1 (.t p24)) p21 false, og p26 (.bin .gtr .other (.t p25) (.c (iI 400))) p21 false, oo p27 (.pick (.t p21) (.c (.bool true)) (.t p26)), oo p28 (.nilCheck (.t p16)), oo p29 (.fieldAddr 10 (.t p28)), on (.store 1 (.t p29) (.t p27))]) [] (.seq (.seq (.ops [oo p30 (.mv (.t p0)), oo p31 (.nilCheck (.t p30)), oo p32 (.fieldAddr 10 (.t p31)), oo p33 (.load1 (.t p32))]) [] (.cond (.t p33) .ret .skip)) [] (.seq (.ops [oo p34 (.mv (.t p0)), oo p35 (.nilCheck (.t p34)), oo p36 (.fieldAddr 0 (.t p35)), oo p37 (.fieldAddr 1 (.t p36)), oo p38 (.load1 (.t p37)), oo p39 (.mv (.t p1)), oo p40 (.indexAddr 4 (.t p38) (.t p39)), oo p41 (.loadN 4 (.t p40)), oo p8 (.alloc [(iI 0), (iI 0), (.slice none 0 0), (.slice none 0 0)]), on (.store 4 (.t p8) (.t p41))]) [] (.seq (.ops [oo p42 (.fieldAddr 0 (.t p8)), oo p43 (.load1 (.t p42))]) [] (.block 0 (.seq (.ops [oo p45 (.bin .eql .other (.t p43) (.c (iI 2))), oo p44 (.mv (.t p45))]) [] (.cond (.t p44) (.ops [oo p46 (.mv (.t p0)), oo p47 (.loadN 4 (.t p8)), oo p48 (.mv (.t p2)), oo p49 (.mv (.t p3)), oo p50 (.call (.c (.func (.func 65) #[] #[])) [(.t p46), (.t p47), (.t p48), (.t p49)])]) (.seq (.ops [oo p52 (.bin .eql .other (.t p43) (.c (iI 3))), oo p51 (.mv (.t p52))]) [] (.cond (.t p51) (.seq (.ops [oo p53 (.mv (.t p0)), oo p54 (.fieldAddr 3 (.t p8)), oo p55 (.load1 (.t p54)), oo p56 (.indexAddr 1 (.t p55) (.c (iI 0))), oo p57 (.load1 (.t p56)), oo p58 (.mv (.t p2)), oo p59 (.mv (.t p3)), oo p60 (.call (.c (.func (.func 31) #[] #[])) [(.t p53), (.t p57), (.t p58), (.t p59)])]) [] (.ops [oo p61 (.mv (.t p0)), oo p62 (.fieldAddr 3 (.t p8)), oo p63 (.load1 (.t p62)), oo p64 (.indexAddr 1 (.t p63) (.c (iI 1))), oo p65 (.load1 (.t p64)), oo p66 (.mv (.t p2)), oo p67 (.mv (.t p3)), oo p68 (.call (.c (.func (.func 31) #[] #[])) [(.t p61), (.t p65), (.t p66), (.t p67)])])) (.seq (.ops [oo p70 (.bin .eql .other (.t p43) (.c (iI 4))), oo p69 (.mv (.t p70))]) [] (.cond (.t p69) (.ops [oo p71 (.mv (.t p0)), oo p72 (.loadN 4 (.t p8)), oo p73 (.mv (.t p2)), oo p74 (.mv (.t p3)), oo p75 (.call (.c (.func (.func 66) #[] #[])) [(.t p71), (.t p72), (.t p73), (.t p74)])]) (.seq (.ops [oo p77 (.bin .eql .other (.t p43) (.c (iI 5))), oo p76 (.mv (.t p77))]) [] (.cond (.t p76) (.seq (.ops [oo p78 (.fieldAddr 2 (.t p8)), oo p79 (.load1 (.t p78)), oo p80 (.indexAddr 3 (.t p79) (.c (iI 0))), oo p81 (.loadN 3 (.t p80)), oo p82 (.mv (.t p3)), oo p83 (.call (.c (.func (.func 68) #[] #[])) [(.t p81), (.t p82)]), oo p84 (.call (.c (.func (.func 67) #[] #[])) [(.t p83)]), oo p85 (.bin .neq .other (.t p84) (.c (iI 0)))]) [] (.cond (.t p85) (.ops [oo p86 (.mv (.t p0)), oo p87 (.fieldAddr 3 (.t p8)), oo p88 (.load1 (.t p87)), oo p89 (.indexAddr 1 (.t p88) (.c (iI 0))), oo p90 (.load1 (.t p89)), oo p91 (.mv (.t p2)), oo p92 (.mv (.t p3)), oo p93 (.call (.c (.func (.func 31) #[] #[])) [(.t p86), (.t p90), (.t p91), (.t p92)])]) (.ops [oo p94 (.mv (.t p0)), oo p95 (.fieldAddr 3 (.t p8)), oo p96 (.load1 (.t p95)), oo p97 (.indexAddr 1 (.t p96) (.c (iI 1))), oo p98 (.load1 (.t p97)), oo p99 (.mv (.t p2)), oo p100 (.mv (.t p3)), oo p101 (.call (.c (.func (.func 31) #[] #[])) [(.t p94), (.t p98), (.t p99), (.t p100)])]))) (.seq (.seq (.ops [oo p103 (.bin .eql .other (.t p43) (.c (iI 6))), oo p102 (.mv (.t p103))]) [] (.cond (.t p102) .skip (.seq (.ops [oo p104 (.bin .eql .other (.t p43) (.c (iI 7))), oo p102 (.mv (.t p104))]) [] (.cond (.t p102) .skip (.ops [oo p105 (.bin .eql .other (.t p43) (.c (iI 8))), oo p102 (.mv (.t p105))]))))) [] (.cond (.t p102) (.seq (.draw [oo p114 (.mv (.t p3)), oo p115 (.call (.c (.func (.func 69) #[] #[])) [(.t p114)]), oo p107 (.mv (.t p0)), oo p108 (.nilCheck (.t p107)), oo p109 (.fieldAddr 4 (.t p108)), oo p110 (.fieldAddr 3 (.t p109)), oo p111 (.load1 (.t p110)), oo p112 (.mv (.t p2)), oo p113 (.mv (.t p1)), ⟨(some p116), .build [(iI 0), (iI 0), (.slice none 0 0)] [(0, 1, (.t p112)), (1, 1, (.t p113)), (2, 1, (.t p115))], none, 1⟩, ⟨(some p117), .buildSlice 1 3 [(iI 0), (iI 0), (.slice none 0 0)] [(0, (.t p116))], none, 1⟩, ⟨(some p118), .blt (.append 3 40) [(.t p111), (.t p117)], none, 1⟩, oo p106 (.mv (.t p0)), ⟨(some p119), .nilCheck (.t p106), none, 2⟩, ⟨(some p120), .fieldAddr 4 (.t p119), none, 2⟩, ⟨(some p121), .fieldAddr 3 (.t p120), none, 2⟩, ⟨none, .store 1 (.t p121) (.t p118), none, 2⟩]) [] (.ops [oo p122 (.mv (.t p0)), oo p123 (.mv (.t p0)), oo p124 (.nilCheck (.t p123)), oo p125 (.fieldAddr 10 (.t p124)), oo p126 (.load1 (.t p125)), oo p127 (.mv (.t p126)), og p128 (.mv (.t p0)) p127 false, og p129 (.nilCheck (.t p128)) p127 false, og p130 (.fieldAddr 4 (.t p129)) p127 false, og p131 (.fieldAddr 3 (.t p130)) p127 false, og p132 (.load1 (.t p131)) p127 false, og p133 (.blt .len [(.t p132)]) p127 false, og p134 (.bin .gtr .other (.t p133) (.c (iI 40))) p127 false, oo p135 (.pick (.t p127) (.c (.bool true)) (.t p134)), oo p136 (.nilCheck (.t p122)), oo p137 (.fieldAddr 10 (.t p136)), on (.store 1 (.t p137) (.t p135))])) .skip)))))))))))))))), none, none⟩
def f48 : CFunc := ⟨22, [.tmp p4], (.seq (.ops [oo p4 (.mv (.c (iI 0)))]) [] (.seq (.draw [oo p5 (.mv (.t p0)), oo p6 (.nilCheck (.t p5)), oo p7 (.fieldAddr 0 (.t p6)), oo p8 (.fieldAddr 1 (.t p7)), oo p9 (.load1 (.t p8)), oo p10 (.mv (.t p0)), oo p11 (.nilCheck (.t p10)), oo p12 (.fieldAddr 5 (.t p11)), oo p13 (.load1 (.t p12)), oo p14 (.mv (.t p1)), oo p15 (.indexAddr 1 (.t p13) (.t p14)), oo p16 (.load1 (.t p15)), oo p17 (.indexAddr 4 (.t p9) (.t p16)), oo p18 (.fieldAddr 3 (.t p17)), oo p19 (.load1 (.t p18)), oo p20 (.indexAddr 1 (.t p19) (.c (iI 0))), oo p21 (.load1 (.t p20)), oo p4 (.mv (.t p21))]) [] .ret)), none, none⟩
def f87 : CFunc := ⟨92, [.tmp p6, .tmp p7], (.seq (.ops [oo p6 (.mv (.c (.slice none 0 0))), oo p7 (.mv (.c .nilIface))]) [] (.seq (.ops [oo p8 (.mv (.c (.slice none 0 0)))]) [] (.seq (.seq (.ops [oo p18 (.mv (.t p0)), oo p19 (.nilCheck (.t p18)), oo p20 (.fieldAddr 2 (.t p19)), oo p21 (.fieldAddr 2 (.t p20)), oo p22 (.load1 (.t p21)), oo p23 (.blt .len [(.t p22)]), oo p24 (.mv (.c (iI 0)))]) [] (.block 0 (.loop [] (.seq (.ops [oo p25 (.bin .lss .other (.t p24) (.t p23))]) [] (.seq (.cond (.t p25) .skip (.exit 0)) [] (.seq (.block 1 (.seq (.ops [oo p26 (.indexAddr 4 (.t p22) (.t p24)), oo p27 (.loadN 4 (.t p26)), oo p10 (.alloc [(iI 0), (iI 0), (iI 0), (.slice none 0 0)]), on (.store 4 (.t p10) (.t p27))]) [] (.seq (.seq (.draw [oo p28 (.fieldAddr 0 (.t p10)), oo p29 (.load1 (.t p28)), oo p30 (.mv (.t p1)), oo p31 (.bin .neq .other (.t p29) (.t p30)), oo p32 (.mv (.t p31)), og p33 (.mv (.t p0)) p32 false, og p34 (.nilCheck (.t p33)) p32 false, og p35 (.fieldAddr 6 (.t p34)) p32 false, og p36 (.fieldAddr 1 (.t p35)) p32 false, og p37 (.load1 (.t p36)) p32 false, og p38 (.mv (.t p0)) p32 false, og p39 (.nilCheck (.t p38)) p32 false, og p40 (.fieldAddr 2 (.t p39)) p32 false, og p41 (.fieldAddr 1 (.t p40)) p32 false, og p42 (.load1 (.t p41)) p32 false, og p43 (.mv (.t p1)) p32 false, og p44 (.indexAddr 3 (.t p42) (.t p43)) p32 false, og p45 (.fieldAddr 0 (.t p44)) p32 false, og p46 (.load1 (.t p45)) p32 false, og p47 (.indexAddr 1 (.t p37) (.t p46)) p32 false, og p48 (.load1 (.t p47)) p32 false, og p49 (.fieldAddr 1 (.t p10)) p32 false, og p50 (.load1 (.t p49)) p32 false, og p51 (.indexAddr 1 (.t p48) (.t p50)) p32 false, og p52 (.load1 (.t p51)) p32 false, og p53 (.mv (.t p2)) p32 false, og p54 (.bin .neq .other (.t p52) (.t p53)) p32 false, oo p55 (.pick (.t p32) (.c (.bool true)) (.t p54))]) [] (.cond (.t p55) (.exit 1) .skip)) [] (.seq (.ops [oo p56 (.fieldAddr 3 (.t p10)), oo p57 (.load1 (.t p56)), oo p58 (.blt .len [(.t p57)]), oo p59 (.mv (.c (iI 0)))]) [] (.block 2 (.loop [] (.seq (.ops [oo p60 (.bin .lss .other (.t p59) (.t p58))]) [] (.seq (.cond (.t p60) .skip (.exit 2)) [] (.seq (.block 3 (.seq (.ops [oo p61 (.indexAddr 1 (.t p57) (.t p59)), oo p62 (.loadN 1 (.t p61)), oo p12 (.alloc [(.slice none 0 0)]), on (.store 1 (.t p12) (.t p62))]) [] (.seq (.ops [oo p13 (.mv (.c (.slice none 0 0)))]) [] (.seq (.seq (.ops [oo p63 (.fieldAddr 0 (.t p12)), oo p64 (.load1 (.t p63)), oo p65 (.blt .len [(.t p64)]), oo p66 (.mv (.c (iI 0)))]) [] (.block 4 (.loop [] (.seq (.ops [oo p67 (.bin .lss .other (.t p66) (.t p65))]) [] (.seq (.cond (.t p67) .skip (.exit 4)) [] (.seq (.block 5 (.seq (.ops [oo p68 (.indexAddr 2 (.t p64) (.t p66)), oo p69 (.loadN 2 (.t p68)), oo p15 (.alloc [(iI 0), (iI 0)]), on (.store 2 (.t p15) (.t p69))]) [] (.seq (.ops [oo p71 (.mv (.t p0)), oo p72 (.loadN 2 (.t p15)), oo p73 (.call (.c (.func (.func 124) #[] #[])) [(.t p71), (.t p72)]), oo p70 (.mv (.t p73)), oo p74 (.extract (.t p70) 0), oo p75 (.extract (.t p70) 1), oo p16 (.alloc [(iI 0), (iI 0)]), on (.store 2 (.t p16) (.t p74)), oo p17 (.mv (.t p75))]) [] (.seq (.seq (.ops [oo p76 (.mv (.t p17)), oo p77 (.bin .neq (.iface true) (.t p76) (.c .nilIface))]) [] (.cond (.t p77) (.seq (.ops [oo p78 (.mv (.t p17)), oo p6 (.mv (.c (.slice none 0 0))), oo p7 (.mv (.t p78))]) [] .ret) .skip)) [] (.ops [oo p79 (.mv (.t p13)), oo p80 (.loadN 2 (.t p16)), oo p81 (.buildSlice 1 2 [(iI 0), (iI 0)] [(0, (.t p80))]), oo p82 (.blt (.append 2 16) [(.t p79), (.t p81)]), oo p13 (.mv (.t p82))]))))) [] (.ops [oo p83 (.bin .add .other (.t p66) (.c (iI 1))), oo p66 (.mv (.t p83))]))))))) [] (.ops [oo p84 (.mv (.t p8)), oo p85 (.mv (.t p13)), oo p86 (.build [(.slice none 0 0)] [(0, 1, (.t p85))]), oo p87 (.buildSlice 1 1 [(.slice none 0 0)] [(0, (.t p86))]), oo p88 (.blt (.append 1 24) [(.t p84), (.t p87)]), oo p8 (.mv (.t p88))]))))) [] (.ops [oo p89 (.bin .add .other (.t p59) (.c (iI 1))), oo p59 (.mv (.t p89))])))))))))) [] (.ops [oo p90 (.bin .add .other (.t p24) (.c (iI 1))), oo p24 (.mv (.t p90))]))))))) [] (.seq (.ops [oo p91 (.mv (.t p8)), oo p6 (.mv (.t p91)), oo p7 (.mv (.c .nilIface))]) [] .ret)))), none, none⟩
def f124 : CFunc := ⟨89, [.cell (some 2) p4, .tmp p5], (.seq (.ops [oo p3 (.box (.t p1)), oo p4 (.alloc [(iI 0), (iI 0)]), oo p5 (.mv (.c .nilIface))]) [] (.seq (.seq (.ops [oo p7 (.fieldAddr 0 (.t p3)), oo p8 (.load1 (.t p7))]) [] (.block 0 (.seq (.ops [oo p11 (.bin .eql .other (.t p8) (.c (iI 2))), oo p10 (.mv (.t p11))]) [] (.cond (.t p10) (.draw [oo p12 (.mv (.t p0)), oo p13 (.nilCheck (.t p12)), oo p14 (.fieldAddr 1 (.t p13)), oo p15 (.load1 (.t p14)), oo p16 (.nilCheck (.t p15)), oo p17 (.fieldAddr 0 (.t p16)), oo p18 (.fieldAddr 0 (.t p17)), oo p19 (.load1 (.t p18)), oo p20 (.mv (.t p0)), oo p21 (.nilCheck (.t p20)), oo p22 (.fieldAddr 0 (.t p21)), oo p23 (.load1 (.t p22)), oo p24 (.nilCheck (.t p23)), oo p25 (.fieldAddr 0 (.t p24)), oo p26 (.fieldAddr 0 (.t p25)), oo p27 (.load1 (.t p26)), oo p28 (.fieldAddr 1 (.t p3)), oo p29 (.load1 (.t p28)), oo p30 (.indexAddr 1 (.t p27) (.t p29)), oo p31 (.load1 (.t p30)), oo p32 (.call (.c (.func (.func 149) #[] #[])) [(.t p19), (.t p31)]), ⟨(some p33), .fieldAddr 1 (.t p3), none, 1⟩, ⟨none, .store 1 (.t p33) (.t p32), none, 1⟩]) (.seq (.ops [oo p35 (.bin .eql .other (.t p8) (.c (iI 3))), oo p34 (.mv (.t p35))]) [] (.cond (.t p34) (.seq (.draw [oo p36 (.mv (.t p0)), oo p37 (.nilCheck (.t p36)), oo p38 (.fieldAddr 2 (.t p37)), oo p39 (.fieldAddr 2 (.t p38)), oo p40 (.load1 (.t p39)), oo p41 (.fieldAddr 1 (.t p3)), oo p42 (.load1 (.t p41)), oo p43 (.indexAddr 4 (.t p40) (.t p42)), oo p44 (.loadN 4 (.t p43)), oo p6 (.alloc [(iI 0), (iI 0), (iI 0), (.slice none 0 0)]), on (.store 4 (.t p6) (.t p44))]) [] (.seq (.draw [oo p45 (.mv (.t p0)), oo p46 (.nilCheck (.t p45)), oo p47 (.fieldAddr 6 (.t p46)), oo p48 (.fieldAddr 1 (.t p47)), oo p49 (.load1 (.t p48)), oo p50 (.mv (.t p0)), oo p51 (.nilCheck (.t p50)), oo p52 (.fieldAddr 2 (.t p51)), oo p53 (.fieldAddr 1 (.t p52)), oo p54 (.load1 (.t p53)), oo p55 (.fieldAddr 0 (.t p6)), oo p56 (.load1 (.t p55)), oo p57 (.indexAddr 3 (.t p54) (.t p56)), oo p58 (.fieldAddr 0 (.t p57)), oo p59 (.load1 (.t p58)), oo p60 (.indexAddr 1 (.t p49) (.t p59)), oo p61 (.load1 (.t p60)), oo p62 (.fieldAddr 1 (.t p6)), oo p63 (.load1 (.t p62)), oo p64 (.indexAddr 1 (.t p61) (.t p63)), oo p65 (.load1 (.t p64)), oo p66 (.fieldAddr 1 (.t p3)), on (.store 1 (.t p66) (.t p65))]) [] (.seq (.ops [oo p67 (.fieldAddr 1 (.t p3)), oo p68 (.load1 (.t p67)), oo p69 (.bin .geq .other (.t p68) (.c (iI 0)))]) [] (.cond (.t p69) (.draw [oo p70 (.fieldAddr 1 (.t p3)), oo p71 (.load1 (.t p70)), oo p72 (.mv (.t p0)), oo p73 (.nilCheck (.t p72)), oo p74 (.fieldAddr 9 (.t p73)), oo p75 (.load1 (.t p74)), oo p76 (.fieldAddr 0 (.t p6)), oo p77 (.load1 (.t p76)), oo p78 (.indexAddr 1 (.t p75) (.t p77)), oo p79 (.load1 (.t p78)), oo p80 (.bin .add .other (.t p71) (.t p79)), oo p81 (.fieldAddr 1 (.t p3)), on (.store 1 (.t p81) (.t p80))]) .skip)))) (.seq (.ops [oo p9 (.loadN 2 (.t p3)), on (.store 2 (.t p4) (.t p9)), oo p5 (.mv (.c .nilIface))]) [] .ret))))))) [] (.seq (.seq (.ops [oo p82 (.fieldAddr 1 (.t p3)), oo p83 (.load1 (.t p82)), oo p84 (.bin .lss .other (.t p83) (.c (iI 0)))]) [] (.cond (.t p84) (.seq (.ops [oo p85 (.build [(iI 0), (iI 0)] []), oo p86 (.build [(.string ⟨#[]⟩)] [(0, 1, (.c (.string ⟨#[97, 32, 118, 97, 108, 117, 101, 32, 105, 115, 32, 100, 114, 111, 112, 112, 101, 100]⟩)))]), oo p87 (.mkI 100 (.t p86)), on (.store 2 (.t p4) (.t p85)), oo p5 (.mv (.t p87))]) [] .ret) .skip)) [] (.seq (.ops [oo p88 (.loadN 2 (.t p3)), on (.store 2 (.t p4) (.t p88)), oo p5 (.mv (.c .nilIface))]) [] .ret)))), none, none⟩
def f8 : CFunc := ⟨54, [.cell (some 4) p8, .tmp p9], (.seq (.ops [oo p4 (.box (.t p0)), oo p5 (.box (.t p1)), oo p6 (.box (.t p2)), oo p7 (.box (.t p3)), oo p8 (.alloc [(.slice none 0 0), (.slice none 0 0), (.slice none 0 0), (.slice none 0 0)]), oo p9 (.mv (.c (iI 0)))]) [] (.seq (.seq (.ops [oo p13 (.loadN 4 (.t p6)), oo p14 (.call (.c (.func (.func 18) #[] #[])) [(.t p13)]), oo p15 (.bin .neq .other (.t p14) (.c (iI 0))), oo p16 (.mv (.t p15)), og p17 (.loadN 4 (.t p4)) p16 false, og p18 (.loadN 4 (.t p5)) p16 false, og p19 (.call (.c (.func (.func 22) #[] #[])) [(.t p17), (.t p18)]) p16 false, og p20 (.bin .neq .other (.t p19) (.c (iI 0))) p16 false, oo p21 (.pick (.t p16) (.c (.bool true)) (.t p20)), oo p22 (.mv (.t p21)), og p23 (.loadN 4 (.t p4)) p22 false, og p24 (.loadN 4 (.t p6)) p22 false, og p25 (.loadN 3 (.t p7)) p22 false, og p26 (.call (.c (.func (.func 23) #[] #[])) [(.t p23), (.t p24), (.t p25)]) p22 false, og p27 (.un .not (.t p26)) p22 false, oo p28 (.pick (.t p22) (.c (.bool true)) (.t p27))]) [] (.cond (.t p28) (.seq (.ops [oo p29 (.build [(.slice none 0 0), (.slice none 0 0), (.slice none 0 0), (.slice none 0 0)] []), on (.store 4 (.t p8) (.t p29)), oo p9 (.mv (.c (iI 2)))]) [] .ret) .skip)) [] (.seq (.draw [oo p31 (.loadN 4 (.t p4)), oo p32 (.call (.c (.func (.func 20) #[] #[])) [(.t p31)]), oo p33 (.loadN 4 (.t p6)), ⟨(some p34), .call (.c (.func (.func 20) #[] #[])) [(.t p33)], none, 1⟩, oo p35 (.loadN 4 (.t p5)), oo p36 (.loadN 3 (.t p7)), ⟨(some p37), .build [(.pointer none), (.pointer none), (.slice none 0 0), (.slice none 0 0), (.slice none 0 0), (.slice none 0 0), (.slice none 0 0), (.slice none 0 0), (.slice none 0 0), (.slice none 0 0)] [(0, 1, (.t p32)), (1, 1, (.t p34)), (2, 4, (.t p35)), (6, 3, (.t p36))], none, 2⟩, ⟨(some p38), .box (.t p37), none, 2⟩, ⟨(some p39), .call (.c (.func (.func 24) #[] #[])) [(.t p38)], none, 2⟩, ⟨(some p30), .mv (.t p39), none, 3⟩, ⟨(some p40), .extract (.t p30) 0, none, 3⟩, oo p10 (.alloc [(.slice none 0 0), (.slice none 0 0), (.slice none 0 0), (.slice none 0 0)]), ⟨none, .store 4 (.t p10) (.t p40), none, 3⟩, ⟨(some p41), .extract (.t p30) 1, none, 3⟩, ⟨(some p11), .mv (.t p41), none, 4⟩]) [] (.seq (.ops [oo p12 (.alloc [(.string ⟨#[]⟩)])]) [] (.seq (.block 0 (.seq (.ops [oo p43 (.mv (.t p11)), oo p44 (.mkI 102 (.t p12)), oo p45 (.call (.c (.func (.func 25) #[] #[])) [(.t p43), (.t p44)]), oo p42 (.mv (.t p45))]) [] (.cond (.t p42) (.seq (.ops [oo p46 (.build [(.slice none 0 0), (.slice none 0 0), (.slice none 0 0), (.slice none 0 0)] []), on (.store 4 (.t p8) (.t p46)), oo p9 (.mv (.c (iI 7)))]) [] .ret) (.seq (.ops [oo p48 (.fieldAddr 2 (.t p10)), oo p49 (.load1 (.t p48)), oo p50 (.blt .len [(.t p49)]), oo p51 (.bin .gtr .other (.t p50) (.c (iI 60))), oo p47 (.mv (.t p51))]) [] (.cond (.t p47) (.seq (.ops [oo p52 (.build [(.slice none 0 0), (.slice none 0 0), (.slice none 0 0), (.slice none 0 0)] []), on (.store 4 (.t p8) (.t p52)), oo p9 (.mv (.c (iI 3)))]) [] .ret) .skip))))) [] (.seq (.ops [oo p53 (.loadN 4 (.t p10)), on (.store 4 (.t p8) (.t p53)), oo p9 (.mv (.c (iI 0)))]) [] .ret)))))), none, none⟩
def f21 : CFunc := ⟨57, [.cell (some 3) p2], (.seq (.ops [oo p1 (.box (.t p0)), oo p2 (.alloc [(.slice none 0 0), (.slice none 0 0), (.slice none 0 0)])]) [] (.seq (.ops [oo p3 (.alloc [(.slice none 0 0), (.slice none 0 0), (.slice none 0 0)])]) [] (.seq (.seq (.ops [oo p4 (.mv (.c (iI 0)))]) [] (.block 0 (.loop [] (.seq (.seq (.ops [oo p8 (.mv (.t p4)), oo p9 (.fieldAddr 2 (.t p1)), oo p10 (.load1 (.t p9)), oo p11 (.blt .len [(.t p10)]), oo p12 (.bin .lss .other (.t p8) (.t p11))]) [] (.cond (.t p12) .skip (.exit 0))) [] (.seq (.block 1 (.seq (.ops [oo p15 (.fieldAddr 0 (.t p3)), oo p16 (.load1 (.t p15)), oo p17 (.mv (.t p4)), oo p18 (.buildSlice 1 1 [(iI 0)] [(0, (.t p17))]), oo p19 (.blt (.append 1 8) [(.t p16), (.t p18)]), oo p20 (.fieldAddr 0 (.t p3)), on (.store 1 (.t p20) (.t p19))]) [] (.seq (.ops [oo p21 (.buildSlice 0 1 [(iI 0)] []), oo p5 (.mv (.t p21))]) [] (.seq (.seq (.ops [oo p6 (.mv (.c (iI 0)))]) [] (.block 2 (.loop [] (.seq (.seq (.ops [oo p22 (.mv (.t p6)), oo p23 (.fieldAddr 2 (.t p1)), oo p24 (.load1 (.t p23)), oo p25 (.mv (.t p4)), oo p26 (.indexAddr 3 (.t p24) (.t p25)), oo p27 (.fieldAddr 0 (.t p26)), oo p28 (.load1 (.t p27)), oo p29 (.blt .len [(.t p28)]), oo p30 (.bin .lss .other (.t p22) (.t p29))]) [] (.cond (.t p30) .skip (.exit 2))) [] (.seq (.block 3 (.ops [oo p33 (.mv (.t p5)), oo p34 (.mv (.t p6)), oo p35 (.buildSlice 1 1 [(iI 0)] [(0, (.t p34))]), oo p36 (.blt (.append 1 8) [(.t p33), (.t p35)]), oo p5 (.mv (.t p36))])) [] (.ops [oo p31 (.mv (.t p6)), oo p32 (.bin .add .other (.t p31) (.c (iI 1))), oo p6 (.mv (.t p32))])))))) [] (.ops [oo p37 (.fieldAddr 1 (.t p3)), oo p38 (.load1 (.t p37)), oo p39 (.mv (.t p5)), oo p40 (.buildSlice 1 1 [(.slice none 0 0)] [(0, (.t p39))]), oo p41 (.blt (.append 1 24) [(.t p38), (.t p40)]), oo p42 (.fieldAddr 1 (.t p3)), on (.store 1 (.t p42) (.t p41))]))))) [] (.ops [oo p13 (.mv (.t p4)), oo p14 (.bin .add .other (.t p13) (.c (iI 1))), oo p4 (.mv (.t p14))])))))) [] (.seq (.seq (.ops [oo p7 (.mv (.c (iI 0)))]) [] (.block 4 (.loop [] (.seq (.seq (.ops [oo p43 (.mv (.t p7)), oo p44 (.fieldAddr 1 (.t p1)), oo p45 (.load1 (.t p44)), oo p46 (.blt .len [(.t p45)]), oo p47 (.bin .lss .other (.t p43) (.t p46))]) [] (.cond (.t p47) .skip (.exit 4))) [] (.seq (.block 5 (.ops [oo p50 (.fieldAddr 2 (.t p3)), oo p51 (.load1 (.t p50)), oo p52 (.mv (.t p7)), oo p53 (.buildSlice 1 1 [(iI 0)] [(0, (.t p52))]), oo p54 (.blt (.append 1 8) [(.t p51), (.t p53)]), oo p55 (.fieldAddr 2 (.t p3)), on (.store 1 (.t p55) (.t p54))])) [] (.ops [oo p48 (.mv (.t p7)), oo p49 (.bin .add .other (.t p48) (.c (iI 1))), oo p7 (.mv (.t p49))])))))) [] (.seq (.ops [oo p56 (.loadN 3 (.t p3)), on (.store 3 (.t p2) (.t p56))]) [] .ret))))), none, none⟩
def f22 : CFunc := ⟨8, [.cell none p4], (.seq (.ops [oo p2 (.box (.t p0)), oo p3 (.box (.t p1)), oo p4 (.alloc [(iI 0)])]) [] (.ops [])), (some ⟨(.c (.func (.func 42) #[] #[])), [(.t p4)], [], (.seq (.ops []) [] (.seq (.ops [oo p5 (.loadN 4 (.t p2)), oo p6 (.loadN 4 (.t p3)), oo p7 (.call (.c (.func (.func 43) #[] #[])) [(.t p5), (.t p6)])]) [] (.seq (.ops [on (.store 1 (.t p4) (.c (iI 0)))]) [] .ret)))⟩), none⟩
def f23 : CFunc := ⟨95, [.tmp p6], (.seq (.ops [oo p3 (.box (.t p0)), oo p4 (.box (.t p1)), oo p5 (.box (.t p2)), oo p6 (.mv (.c (.bool false)))]) [] (.seq (.seq (.ops [oo p10 (.fieldAddr 0 (.t p5)), oo p11 (.load1 (.t p10)), oo p12 (.blt .len [(.t p11)]), oo p13 (.fieldAddr 2 (.t p3)), oo p14 (.load1 (.t p13)), oo p15 (.blt .len [(.t p14)]), oo p16 (.bin .neq .other (.t p12) (.t p15)), oo p17 (.mv (.t p16)), og p18 (.fieldAddr 1 (.t p5)) p17 false, og p19 (.load1 (.t p18)) p17 false, og p20 (.blt .len [(.t p19)]) p17 false, og p21 (.fieldAddr 2 (.t p3)) p17 false, og p22 (.load1 (.t p21)) p17 false, og p23 (.blt .len [(.t p22)]) p17 false, og p24 (.bin .neq .other (.t p20) (.t p23)) p17 false, oo p25 (.pick (.t p17) (.c (.bool true)) (.t p24)), oo p26 (.mv (.t p25)), og p27 (.fieldAddr 2 (.t p5)) p26 false, og p28 (.load1 (.t p27)) p26 false, og p29 (.blt .len [(.t p28)]) p26 false, og p30 (.fieldAddr 1 (.t p3)) p26 false, og p31 (.load1 (.t p30)) p26 false, og p32 (.blt .len [(.t p31)]) p26 false, og p33 (.bin .neq .other (.t p29) (.t p32)) p26 false, oo p34 (.pick (.t p26) (.c (.bool true)) (.t p33)), oo p35 (.mv (.t p34)), og p36 (.fieldAddr 0 (.t p5)) p35 false, og p37 (.load1 (.t p36)) p35 false, og p38 (.fieldAddr 2 (.t p4)) p35 false, og p39 (.load1 (.t p38)) p35 false, og p40 (.blt .len [(.t p39)]) p35 false, og p41 (.call (.c (.func (.func 44) #[] #[])) [(.t p37), (.t p40), (.c (.bool true))]) p35 false, og p42 (.un .not (.t p41)) p35 false, oo p43 (.pick (.t p35) (.c (.bool true)) (.t p42)), oo p44 (.mv (.t p43)), og p45 (.fieldAddr 2 (.t p5)) p44 false, og p46 (.load1 (.t p45)) p44 false, og p47 (.fieldAddr 1 (.t p4)) p44 false, og p48 (.load1 (.t p47)) p44 false, og p49 (.blt .len [(.t p48)]) p44 false, og p50 (.call (.c (.func (.func 44) #[] #[])) [(.t p46), (.t p49), (.c (.bool false))]) p44 false, og p51 (.un .not (.t p50)) p44 false, oo p52 (.pick (.t p44) (.c (.bool true)) (.t p51))]) [] (.cond (.t p52) (.seq (.ops [oo p6 (.mv (.c (.bool false)))]) [] .ret) .skip)) [] (.seq (.seq (.ops [oo p53 (.fieldAddr 0 (.t p5)), oo p54 (.load1 (.t p53)), oo p55 (.blt .len [(.t p54)]), oo p56 (.mv (.c (iI 0)))]) [] (.block 0 (.loop [] (.seq (.ops [oo p57 (.bin .lss .other (.t p56) (.t p55))]) [] (.seq (.cond (.t p57) .skip (.exit 0)) [] (.seq (.block 1 (.seq (.ops [oo p58 (.mv (.t p56)), oo p59 (.indexAddr 1 (.t p54) (.t p56)), oo p60 (.load1 (.t p59)), oo p7 (.mv (.t p58)), oo p8 (.mv (.t p60))]) [] (.seq (.ops [oo p9 (.mv (.c (iI 0)))]) [] (.seq (.seq (.ops [oo p61 (.mv (.t p8)), oo p62 (.bin .geq .other (.t p61) (.c (iI 0)))]) [] (.cond (.t p62) (.ops [oo p63 (.fieldAddr 2 (.t p4)), oo p64 (.load1 (.t p63)), oo p65 (.mv (.t p8)), oo p66 (.indexAddr 3 (.t p64) (.t p65)), oo p67 (.fieldAddr 0 (.t p66)), oo p68 (.load1 (.t p67)), oo p69 (.blt .len [(.t p68)]), oo p9 (.mv (.t p69))]) .skip)) [] (.seq (.draw [oo p70 (.fieldAddr 1 (.t p5)), oo p71 (.load1 (.t p70)), oo p72 (.mv (.t p7)), oo p73 (.indexAddr 1 (.t p71) (.t p72)), oo p74 (.load1 (.t p73)), oo p75 (.blt .len [(.t p74)]), oo p76 (.fieldAddr 2 (.t p3)), oo p77 (.load1 (.t p76)), oo p78 (.mv (.t p7)), oo p79 (.indexAddr 3 (.t p77) (.t p78)), oo p80 (.fieldAddr 0 (.t p79)), oo p81 (.load1 (.t p80)), oo p82 (.blt .len [(.t p81)]), oo p83 (.bin .neq .other (.t p75) (.t p82)), oo p84 (.mv (.t p83)), og p85 (.fieldAddr 1 (.t p5)) p84 false, og p86 (.load1 (.t p85)) p84 false, og p87 (.mv (.t p7)) p84 false, og p88 (.indexAddr 1 (.t p86) (.t p87)) p84 false, og p89 (.load1 (.t p88)) p84 false, og p90 (.mv (.t p9)) p84 false, og p91 (.call (.c (.func (.func 44) #[] #[])) [(.t p89), (.t p90), (.c (.bool true))]) p84 false, ⟨(some p92), .un .not (.t p91), (some (p84, false)), 1⟩, ⟨(some p93), .pick (.t p84) (.c (.bool true)) (.t p92), none, 1⟩]) [] (.cond (.t p93) (.seq (.ops [oo p6 (.mv (.c (.bool false)))]) [] .ret) .skip)))))) [] (.ops [oo p94 (.bin .add .other (.t p56) (.c (iI 1))), oo p56 (.mv (.t p94))]))))))) [] (.seq (.ops [oo p6 (.mv (.c (.bool true)))]) [] .ret)))), none, none⟩
def f24 : CFunc := ⟨197, [.cell (some 4) p2, .tmp p3], (.seq (.ops [oo p2 (.alloc [(.slice none 0 0), (.slice none 0 0), (.slice none 0 0), (.slice none 0 0)]), oo p3 (.mv (.c .nilIface))]) [] (.seq (.seq (.ops [oo p20 (.mv (.t p0)), oo p21 (.call (.c (.func (.func 45) #[] #[])) [(.t p20)]), oo p4 (.mv (.t p21))]) [] (.seq (.ops [oo p22 (.mv (.t p4)), oo p23 (.bin .neq (.iface true) (.t p22) (.c .nilIface))]) [] (.cond (.t p23) (.seq (.ops [oo p24 (.build [(.slice none 0 0), (.slice none 0 0), (.slice none 0 0), (.slice none 0 0)] []), oo p25 (.mv (.t p4)), on (.store 4 (.t p2) (.t p24)), oo p3 (.mv (.t p25))]) [] .ret) .skip))) [] (.seq (.ops [oo p5 (.mv (.c (iI 0)))]) [] (.seq (.seq (.ops [oo p26 (.mv (.t p0)), oo p27 (.nilCheck (.t p26)), oo p28 (.fieldAddr 2 (.t p27)), oo p29 (.fieldAddr 1 (.t p28)), oo p30 (.load1 (.t p29)), oo p31 (.blt .len [(.t p30)]), oo p32 (.mv (.c (iI 0)))]) [] (.block 0 (.loop [] (.seq (.ops [oo p33 (.bin .lss .other (.t p32) (.t p31))]) [] (.seq (.cond (.t p33) .skip (.exit 0)) [] (.seq (.block 1 (.seq (.ops [oo p34 (.indexAddr 3 (.t p30) (.t p32)), oo p35 (.loadN 3 (.t p34)), oo p7 (.alloc [(iI 0), (iI 0), (.slice none 0 0)]), on (.store 3 (.t p7) (.t p35))]) [] (.seq (.ops [oo p36 (.mv (.t p0)), oo p37 (.mv (.t p0)), oo p38 (.nilCheck (.t p37)), oo p39 (.fieldAddr 9 (.t p38)), oo p40 (.load1 (.t p39)), oo p41 (.mv (.t p5)), oo p42 (.buildSlice 1 1 [(iI 0)] [(0, (.t p41))]), oo p43 (.blt (.append 1 8) [(.t p40), (.t p42)]), oo p44 (.nilCheck (.t p36)), oo p45 (.fieldAddr 9 (.t p44)), on (.store 1 (.t p45) (.t p43))]) [] (.draw [oo p46 (.mv (.t p5)), oo p47 (.mv (.t p0)), oo p48 (.nilCheck (.t p47)), oo p49 (.fieldAddr 1 (.t p48)), oo p50 (.load1 (.t p49)), oo p51 (.nilCheck (.t p50)), oo p52 (.fieldAddr 0 (.t p51)), oo p53 (.fieldAddr 2 (.t p52)), oo p54 (.load1 (.t p53)), oo p55 (.mv (.t p0)), oo p56 (.nilCheck (.t p55)), oo p57 (.fieldAddr 6 (.t p56)), oo p58 (.fieldAddr 0 (.t p57)), oo p59 (.load1 (.t p58)), oo p60 (.fieldAddr 0 (.t p7)), oo p61 (.load1 (.t p60)), oo p62 (.indexAddr 1 (.t p59) (.t p61)), oo p63 (.load1 (.t p62)), oo p64 (.indexAddr 3 (.t p54) (.t p63)), oo p65 (.fieldAddr 0 (.t p64)), oo p66 (.load1 (.t p65)), oo p67 (.blt .len [(.t p66)]), oo p68 (.bin .add .other (.t p46) (.t p67)), oo p5 (.mv (.t p68))])))) [] (.ops [oo p69 (.bin .add .other (.t p32) (.c (iI 1))), oo p32 (.mv (.t p69))]))))))) [] (.seq (.ops [oo p70 (.mv (.t p0)), oo p71 (.nilCheck (.t p70)), oo p72 (.fieldAddr 2 (.t p71)), oo p73 (.fieldAddr 0 (.t p72)), oo p74 (.load1 (.t p73)), oo p75 (.call (.c (.func (.func 46) #[] #[])) [(.t p74)]), oo p76 (.build [(.slice none 0 0), (.slice none 0 0), (.slice none 0 0), (.slice none 0 0)] [(0, 1, (.t p75))]), oo p8 (.alloc [(.slice none 0 0), (.slice none 0 0), (.slice none 0 0), (.slice none 0 0)]), on (.store 4 (.t p8) (.t p76))]) [] (.seq (.seq (.ops [oo p77 (.mv (.t p0)), oo p78 (.nilCheck (.t p77)), oo p79 (.fieldAddr 2 (.t p78)), oo p80 (.fieldAddr 1 (.t p79)), oo p81 (.load1 (.t p80)), oo p82 (.blt .len [(.t p81)]), oo p83 (.mv (.c (iI 0)))]) [] (.block 2 (.loop [] (.seq (.ops [oo p84 (.bin .lss .other (.t p83) (.t p82))]) [] (.seq (.cond (.t p84) .skip (.exit 2)) [] (.seq (.block 3 (.seq (.ops [oo p85 (.mv (.t p83)), oo p86 (.indexAddr 3 (.t p81) (.t p83)), oo p87 (.loadN 3 (.t p86)), oo p10 (.alloc [(iI 0), (iI 0), (.slice none 0 0)]), oo p9 (.mv (.t p85)), on (.store 3 (.t p10) (.t p87))]) [] (.seq (.draw [oo p88 (.mv (.t p0)), oo p89 (.nilCheck (.t p88)), oo p90 (.fieldAddr 6 (.t p89)), oo p91 (.fieldAddr 0 (.t p90)), oo p92 (.load1 (.t p91)), oo p93 (.fieldAddr 0 (.t p10)), oo p94 (.load1 (.t p93)), oo p95 (.indexAddr 1 (.t p92) (.t p94)), oo p96 (.load1 (.t p95)), oo p11 (.mv (.t p96))]) [] (.seq (.draw [oo p99 (.mv (.t p0)), oo p100 (.nilCheck (.t p99)), oo p101 (.fieldAddr 0 (.t p100)), oo p102 (.load1 (.t p101)), oo p103 (.fieldAddr 0 (.t p10)), oo p104 (.load1 (.t p103)), oo p105 (.call (.c (.func (.func 48) #[] #[])) [(.t p102), (.t p104)]), oo p108 (.mv (.t p0)), oo p109 (.nilCheck (.t p108)), oo p110 (.fieldAddr 1 (.t p109)), oo p111 (.load1 (.t p110)), oo p112 (.mv (.t p11)), ⟨(some p113), .call (.c (.func (.func 48) #[] #[])) [(.t p111), (.t p112)], none, 1⟩, oo p98 (.mv (.t p0)), oo p106 (.fieldAddr 2 (.t p10)), oo p107 (.load1 (.t p106)), ⟨(some p114), .call (.c (.func (.func 47) #[] #[])) [(.t p98), (.t p105), (.t p107), (.t p113)], none, 2⟩, ⟨(some p97), .mv (.t p114), none, 3⟩, ⟨(some p115), .extract (.t p97) 0, none, 3⟩, ⟨(some p116), .extract (.t p97) 1, none, 3⟩, ⟨(some p12), .mv (.t p115), none, 3⟩, ⟨(some p13), .mv (.t p116), none, 3⟩]) [] (.seq (.seq (.ops [oo p117 (.mv (.t p13)), oo p118 (.bin .neq (.iface true) (.t p117) (.c .nilIface))]) [] (.cond (.t p118) (.seq (.ops [oo p119 (.build [(.slice none 0 0), (.slice none 0 0), (.slice none 0 0), (.slice none 0 0)] []), oo p120 (.mv (.t p13)), on (.store 4 (.t p2) (.t p119)), oo p3 (.mv (.t p120))]) [] .ret) .skip)) [] (.seq (.ops [oo p121 (.fieldAddr 1 (.t p8)), oo p122 (.load1 (.t p121)), oo p123 (.mv (.t p11)), oo p124 (.fieldAddr 1 (.t p10)), oo p125 (.load1 (.t p124)), oo p126 (.mv (.t p12)), oo p127 (.build [(iI 0), (iI 0), (.slice none 0 0)] [(0, 1, (.t p123)), (1, 1, (.t p125)), (2, 1, (.t p126))]), oo p128 (.buildSlice 1 3 [(iI 0), (iI 0), (.slice none 0 0)] [(0, (.t p127))]), oo p129 (.blt (.append 3 40) [(.t p122), (.t p128)]), oo p130 (.fieldAddr 1 (.t p8)), on (.store 1 (.t p130) (.t p129))]) [] (.seq (.ops [oo p132 (.mv (.t p0)), oo p133 (.mv (.t p9)), oo p134 (.fieldAddr 1 (.t p8)), oo p135 (.load1 (.t p134)), oo p136 (.mv (.t p9)), oo p137 (.indexAddr 3 (.t p135) (.t p136)), oo p138 (.loadN 3 (.t p137)), oo p139 (.call (.c (.func (.func 49) #[] #[])) [(.t p132), (.t p133), (.t p138)]), oo p131 (.mv (.t p139)), oo p140 (.extract (.t p131) 0), oo p141 (.extract (.t p131) 1), oo p14 (.mv (.t p140)), oo p13 (.mv (.t p141))]) [] (.seq (.seq (.ops [oo p142 (.mv (.t p13)), oo p143 (.bin .neq (.iface true) (.t p142) (.c .nilIface))]) [] (.cond (.t p143) (.seq (.ops [oo p144 (.build [(.slice none 0 0), (.slice none 0 0), (.slice none 0 0), (.slice none 0 0)] []), oo p145 (.mv (.t p13)), on (.store 4 (.t p2) (.t p144)), oo p3 (.mv (.t p145))]) [] .ret) .skip)) [] (.ops [oo p146 (.fieldAddr 2 (.t p8)), oo p147 (.load1 (.t p146)), oo p148 (.mv (.t p14)), oo p149 (.blt (.append 4 48) [(.t p147), (.t p148)]), oo p150 (.fieldAddr 2 (.t p8)), on (.store 1 (.t p150) (.t p149))]))))))))) [] (.ops [oo p151 (.bin .add .other (.t p83) (.c (iI 1))), oo p83 (.mv (.t p151))]))))))) [] (.seq (.seq (.ops [oo p152 (.mv (.t p0)), oo p153 (.nilCheck (.t p152)), oo p154 (.fieldAddr 2 (.t p153)), oo p155 (.fieldAddr 3 (.t p154)), oo p156 (.load1 (.t p155)), oo p157 (.blt .len [(.t p156)]), oo p158 (.mv (.c (iI 0)))]) [] (.block 4 (.loop [] (.seq (.ops [oo p159 (.bin .lss .other (.t p158) (.t p157))]) [] (.seq (.cond (.t p159) .skip (.exit 4)) [] (.seq (.block 5 (.seq (.ops [oo p160 (.indexAddr 3 (.t p156) (.t p158)), oo p161 (.loadN 3 (.t p160)), oo p16 (.alloc [(iI 0), (iI 0), (.slice none 0 0)]), on (.store 3 (.t p16) (.t p161))]) [] (.seq (.draw [oo p162 (.mv (.t p0)), oo p163 (.nilCheck (.t p162)), oo p164 (.fieldAddr 6 (.t p163)), oo p165 (.fieldAddr 2 (.t p164)), oo p166 (.load1 (.t p165)), oo p167 (.fieldAddr 1 (.t p16)), oo p168 (.load1 (.t p167)), oo p169 (.indexAddr 1 (.t p166) (.t p168)), oo p170 (.load1 (.t p169)), oo p17 (.mv (.t p170))]) [] (.seq (.ops [oo p172 (.mv (.t p0)), oo p173 (.fieldAddr 1 (.t p16)), oo p174 (.load1 (.t p173)), oo p175 (.fieldAddr 2 (.t p16)), oo p176 (.load1 (.t p175)), oo p177 (.mv (.t p17)), oo p178 (.call (.c (.func (.func 47) #[] #[])) [(.t p172), (.t p174), (.t p176), (.t p177)]), oo p171 (.mv (.t p178)), oo p179 (.extract (.t p171) 0), oo p180 (.extract (.t p171) 1), oo p18 (.mv (.t p179)), oo p19 (.mv (.t p180))]) [] (.seq (.seq (.ops [oo p181 (.mv (.t p19)), oo p182 (.bin .neq (.iface true) (.t p181) (.c .nilIface))]) [] (.cond (.t p182) (.seq (.ops [oo p183 (.build [(.slice none 0 0), (.slice none 0 0), (.slice none 0 0), (.slice none 0 0)] []), oo p184 (.mv (.t p19)), on (.store 4 (.t p2) (.t p183)), oo p3 (.mv (.t p184))]) [] .ret) .skip)) [] (.ops [oo p185 (.fieldAddr 3 (.t p8)), oo p186 (.load1 (.t p185)), oo p187 (.fieldAddr 0 (.t p16)), oo p188 (.load1 (.t p187)), oo p189 (.mv (.t p17)), oo p190 (.mv (.t p18)), oo p191 (.build [(iI 0), (iI 0), (.slice none 0 0)] [(0, 1, (.t p188)), (1, 1, (.t p189)), (2, 1, (.t p190))]), oo p192 (.buildSlice 1 3 [(iI 0), (iI 0), (.slice none 0 0)] [(0, (.t p191))]), oo p193 (.blt (.append 3 40) [(.t p186), (.t p192)]), oo p194 (.fieldAddr 3 (.t p8)), on (.store 1 (.t p194) (.t p193))])))))) [] (.ops [oo p195 (.bin .add .other (.t p158) (.c (iI 1))), oo p158 (.mv (.t p195))]))))))) [] (.seq (.ops [oo p196 (.loadN 4 (.t p8)), on (.store 4 (.t p2) (.t p196)), oo p3 (.mv (.c .nilIface))]) [] .ret)))))))), none, none⟩
def f43 : CFunc := ⟨20, [.tmp p4], (.seq (.ops [oo p2 (.box (.t p0)), oo p3 (.box (.t p1)), oo p4 (.mv (.c (.pointer none)))]) [] (.seq (.ops [oo p6 (.loadN 4 (.t p2)), oo p7 (.call (.c (.func (.func 76) #[] #[])) [(.t p6)]), oo p5 (.mv (.t p7))]) [] (.seq (.ops [oo p8 (.mv (.t p5)), oo p9 (.loadN 4 (.t p3)), oo p10 (.nilCheck (.t p8)), oo p11 (.fieldAddr 0 (.t p10)), on (.store 4 (.t p11) (.t p9))]) [] (.seq (.ops [oo p12 (.mv (.t p5)), oo p13 (.call (.c (.func (.func 77) #[] #[])) [(.t p12)])]) [] (.seq (.ops [oo p14 (.mv (.t p5)), oo p15 (.loadN 4 (.t p3)), oo p16 (.call (.c (.func (.func 78) #[] #[])) [(.t p15)]), oo p17 (.nilCheck (.t p14)), oo p18 (.fieldAddr 0 (.t p17)), on (.store 4 (.t p18) (.t p16))]) [] (.seq (.ops [oo p19 (.mv (.t p5)), oo p4 (.mv (.t p19))]) [] .ret)))))), none, none⟩
def f45 : CFunc := ⟨203, [.tmp p2], (.seq (.ops [oo p2 (.mv (.c .nilIface))]) [] (.seq (.seq (.ops [oo p13 (.mv (.t p0)), oo p14 (.nilCheck (.t p13)), oo p15 (.fieldAddr 2 (.t p14)), oo p16 (.fieldAddr 1 (.t p15)), oo p17 (.load1 (.t p16)), oo p18 (.blt .len [(.t p17)]), oo p19 (.mv (.c (iI 0)))]) [] (.block 0 (.loop [] (.seq (.ops [oo p20 (.bin .lss .other (.t p19) (.t p18))]) [] (.seq (.cond (.t p20) .skip (.exit 0)) [] (.seq (.block 1 (.seq (.ops [oo p21 (.indexAddr 3 (.t p17) (.t p19)), oo p22 (.loadN 3 (.t p21)), oo p4 (.alloc [(iI 0), (iI 0), (.slice none 0 0)]), on (.store 3 (.t p4) (.t p22))]) [] (.seq (.draw [oo p23 (.mv (.t p0)), oo p24 (.nilCheck (.t p23)), oo p25 (.fieldAddr 6 (.t p24)), oo p26 (.fieldAddr 0 (.t p25)), oo p27 (.load1 (.t p26)), oo p28 (.fieldAddr 0 (.t p4)), oo p29 (.load1 (.t p28)), oo p30 (.indexAddr 1 (.t p27) (.t p29)), oo p31 (.load1 (.t p30)), oo p5 (.mv (.t p31))]) [] (.seq (.draw [oo p32 (.mv (.t p5)), oo p33 (.bin .lss .other (.t p32) (.c (iI 0))), oo p34 (.mv (.t p33)), og p35 (.mv (.t p0)) p34 false, og p36 (.nilCheck (.t p35)) p34 false, og p37 (.fieldAddr 1 (.t p36)) p34 false, og p38 (.load1 (.t p37)) p34 false, og p39 (.nilCheck (.t p38)) p34 false, og p40 (.fieldAddr 0 (.t p39)) p34 false, og p41 (.fieldAddr 2 (.t p40)) p34 false, og p42 (.load1 (.t p41)) p34 false, og p43 (.mv (.t p5)) p34 false, og p44 (.indexAddr 3 (.t p42) (.t p43)) p34 false, og p45 (.fieldAddr 1 (.t p44)) p34 false, og p46 (.load1 (.t p45)) p34 false, og p47 (.blt .len [(.t p46)]) p34 false, og p48 (.mv (.t p0)) p34 false, og p49 (.nilCheck (.t p48)) p34 false, og p50 (.fieldAddr 0 (.t p49)) p34 false, og p51 (.load1 (.t p50)) p34 false, og p52 (.nilCheck (.t p51)) p34 false, og p53 (.fieldAddr 0 (.t p52)) p34 false, og p54 (.fieldAddr 2 (.t p53)) p34 false, og p55 (.load1 (.t p54)) p34 false, og p56 (.fieldAddr 0 (.t p4)) p34 false, og p57 (.load1 (.t p56)) p34 false, og p58 (.indexAddr 3 (.t p55) (.t p57)) p34 false, og p59 (.fieldAddr 1 (.t p58)) p34 false, og p60 (.load1 (.t p59)) p34 false, og p61 (.blt .len [(.t p60)]) p34 false, og p62 (.bin .neq .other (.t p47) (.t p61)) p34 false, oo p63 (.pick (.t p34) (.c (.bool true)) (.t p62))]) [] (.cond (.t p63) (.seq (.ops [oo p64 (.build [(.string ⟨#[]⟩)] [(0, 1, (.c (.string ⟨#[97, 32, 100, 101, 102, 105, 110, 105, 116, 105, 111, 110]⟩)))]), oo p65 (.mkI 100 (.t p64)), oo p2 (.mv (.t p65))]) [] .ret) .skip))))) [] (.ops [oo p66 (.bin .add .other (.t p19) (.c (iI 1))), oo p19 (.mv (.t p66))]))))))) [] (.seq (.seq (.ops [oo p67 (.mv (.t p0)), oo p68 (.nilCheck (.t p67)), oo p69 (.fieldAddr 2 (.t p68)), oo p70 (.fieldAddr 3 (.t p69)), oo p71 (.load1 (.t p70)), oo p72 (.blt .len [(.t p71)]), oo p73 (.mv (.c (iI 0)))]) [] (.block 2 (.loop [] (.seq (.ops [oo p74 (.bin .lss .other (.t p73) (.t p72))]) [] (.seq (.cond (.t p74) .skip (.exit 2)) [] (.seq (.block 3 (.seq (.ops [oo p75 (.indexAddr 3 (.t p71) (.t p73)), oo p76 (.loadN 3 (.t p75)), oo p7 (.alloc [(iI 0), (iI 0), (.slice none 0 0)]), on (.store 3 (.t p7) (.t p76))]) [] (.seq (.draw [oo p77 (.mv (.t p0)), oo p78 (.nilCheck (.t p77)), oo p79 (.fieldAddr 6 (.t p78)), oo p80 (.fieldAddr 2 (.t p79)), oo p81 (.load1 (.t p80)), oo p82 (.fieldAddr 1 (.t p7)), oo p83 (.load1 (.t p82)), oo p84 (.indexAddr 1 (.t p81) (.t p83)), oo p85 (.load1 (.t p84)), oo p8 (.mv (.t p85))]) [] (.seq (.draw [oo p86 (.mv (.t p8)), oo p87 (.bin .lss .other (.t p86) (.c (iI 0))), oo p88 (.mv (.t p87)), og p89 (.mv (.t p0)) p88 false, og p90 (.nilCheck (.t p89)) p88 false, og p91 (.fieldAddr 1 (.t p90)) p88 false, og p92 (.load1 (.t p91)) p88 false, og p93 (.nilCheck (.t p92)) p88 false, og p94 (.fieldAddr 0 (.t p93)) p88 false, og p95 (.fieldAddr 1 (.t p94)) p88 false, og p96 (.load1 (.t p95)) p88 false, og p97 (.mv (.t p8)) p88 false, og p98 (.indexAddr 4 (.t p96) (.t p97)) p88 false, og p99 (.fieldAddr 0 (.t p98)) p88 false, og p100 (.load1 (.t p99)) p88 false, og p101 (.mv (.t p0)) p88 false, og p102 (.nilCheck (.t p101)) p88 false, og p103 (.fieldAddr 0 (.t p102)) p88 false, og p104 (.load1 (.t p103)) p88 false, og p105 (.nilCheck (.t p104)) p88 false, og p106 (.fieldAddr 0 (.t p105)) p88 false, og p107 (.fieldAddr 1 (.t p106)) p88 false, og p108 (.load1 (.t p107)) p88 false, og p109 (.fieldAddr 1 (.t p7)) p88 false, og p110 (.load1 (.t p109)) p88 false, og p111 (.indexAddr 4 (.t p108) (.t p110)) p88 false, og p112 (.fieldAddr 0 (.t p111)) p88 false, og p113 (.load1 (.t p112)) p88 false, og p114 (.bin .neq .other (.t p100) (.t p113)) p88 false, oo p115 (.pick (.t p88) (.c (.bool true)) (.t p114))]) [] (.cond (.t p115) (.seq (.ops [oo p116 (.build [(.string ⟨#[]⟩)] [(0, 1, (.c (.string ⟨#[97, 32, 112, 114, 111, 99, 101, 115, 115, 32, 116, 104, 97, 116, 32, 119, 97, 105, 116, 115]⟩)))]), oo p117 (.mkI 100 (.t p116)), oo p2 (.mv (.t p117))]) [] .ret) .skip))))) [] (.ops [oo p118 (.bin .add .other (.t p73) (.c (iI 1))), oo p73 (.mv (.t p118))]))))))) [] (.seq (.seq (.ops [oo p119 (.mv (.t p0)), oo p120 (.nilCheck (.t p119)), oo p121 (.fieldAddr 2 (.t p120)), oo p122 (.fieldAddr 2 (.t p121)), oo p123 (.load1 (.t p122)), oo p124 (.blt .len [(.t p123)]), oo p125 (.mv (.c (iI 0)))]) [] (.block 4 (.loop [] (.seq (.ops [oo p126 (.bin .lss .other (.t p125) (.t p124))]) [] (.seq (.cond (.t p126) .skip (.exit 4)) [] (.seq (.block 5 (.seq (.ops [oo p127 (.indexAddr 4 (.t p123) (.t p125)), oo p128 (.loadN 4 (.t p127)), oo p10 (.alloc [(iI 0), (iI 0), (iI 0), (.slice none 0 0)]), on (.store 4 (.t p10) (.t p128))]) [] (.seq (.seq (.ops [oo p129 (.fieldAddr 3 (.t p10)), oo p130 (.load1 (.t p129)), oo p131 (.blt .len [(.t p130)]), oo p132 (.bin .eql .other (.t p131) (.c (iI 0)))]) [] (.cond (.t p132) (.exit 5) .skip)) [] (.seq (.draw [oo p133 (.mv (.t p0)), oo p134 (.nilCheck (.t p133)), oo p135 (.fieldAddr 2 (.t p134)), oo p136 (.fieldAddr 1 (.t p135)), oo p137 (.load1 (.t p136)), oo p138 (.fieldAddr 0 (.t p10)), oo p139 (.load1 (.t p138)), oo p140 (.indexAddr 3 (.t p137) (.t p139)), oo p141 (.fieldAddr 0 (.t p140)), oo p142 (.load1 (.t p141)), oo p11 (.mv (.t p142))]) [] (.seq (.draw [oo p143 (.mv (.t p0)), oo p144 (.nilCheck (.t p143)), oo p145 (.fieldAddr 6 (.t p144)), oo p146 (.fieldAddr 1 (.t p145)), oo p147 (.load1 (.t p146)), oo p148 (.mv (.t p11)), oo p149 (.indexAddr 1 (.t p147) (.t p148)), oo p150 (.load1 (.t p149)), oo p151 (.fieldAddr 1 (.t p10)), oo p152 (.load1 (.t p151)), oo p153 (.indexAddr 1 (.t p150) (.t p152)), oo p154 (.load1 (.t p153)), oo p12 (.mv (.t p154))]) [] (.seq (.draw [oo p155 (.mv (.t p12)), oo p156 (.bin .lss .other (.t p155) (.c (iI 0))), oo p157 (.mv (.t p156)), og p158 (.mv (.t p0)) p157 false, og p159 (.nilCheck (.t p158)) p157 false, og p160 (.fieldAddr 1 (.t p159)) p157 false, og p161 (.load1 (.t p160)) p157 false, og p162 (.nilCheck (.t p161)) p157 false, og p163 (.fieldAddr 0 (.t p162)) p157 false, og p164 (.fieldAddr 2 (.t p163)) p157 false, og p165 (.load1 (.t p164)) p157 false, og p166 (.mv (.t p0)) p157 false, og p167 (.nilCheck (.t p166)) p157 false, og p168 (.fieldAddr 6 (.t p167)) p157 false, og p169 (.fieldAddr 0 (.t p168)) p157 false, og p170 (.load1 (.t p169)) p157 false, og p171 (.mv (.t p11)) p157 false, og p172 (.indexAddr 1 (.t p170) (.t p171)) p157 false, og p173 (.load1 (.t p172)) p157 false, og p174 (.indexAddr 3 (.t p165) (.t p173)) p157 false, og p175 (.fieldAddr 0 (.t p174)) p157 false, og p176 (.load1 (.t p175)) p157 false, og p177 (.mv (.t p12)) p157 false, og p178 (.indexAddr 2 (.t p176) (.t p177)) p157 false, og p179 (.fieldAddr 1 (.t p178)) p157 false, og p180 (.load1 (.t p179)) p157 false, og p181 (.mv (.t p0)) p157 false, og p182 (.nilCheck (.t p181)) p157 false, og p183 (.fieldAddr 0 (.t p182)) p157 false, og p184 (.load1 (.t p183)) p157 false, og p185 (.nilCheck (.t p184)) p157 false, og p186 (.fieldAddr 0 (.t p185)) p157 false, og p187 (.fieldAddr 2 (.t p186)) p157 false, og p188 (.load1 (.t p187)) p157 false, og p189 (.mv (.t p11)) p157 false, og p190 (.indexAddr 3 (.t p188) (.t p189)) p157 false, og p191 (.fieldAddr 0 (.t p190)) p157 false, og p192 (.load1 (.t p191)) p157 false, og p193 (.fieldAddr 1 (.t p10)) p157 false, og p194 (.load1 (.t p193)) p157 false, og p195 (.indexAddr 2 (.t p192) (.t p194)) p157 false, og p196 (.fieldAddr 1 (.t p195)) p157 false, og p197 (.load1 (.t p196)) p157 false, og p198 (.bin .neq .other (.t p180) (.t p197)) p157 false, oo p199 (.pick (.t p157) (.c (.bool true)) (.t p198))]) [] (.cond (.t p199) (.seq (.ops [oo p200 (.build [(.string ⟨#[]⟩)] [(0, 1, (.c (.string ⟨#[97, 32, 99, 104, 97, 110, 110, 101, 108, 32, 119, 105, 116, 104, 32, 109, 101, 115, 115, 97, 103, 101, 115]⟩)))]), oo p201 (.mkI 100 (.t p200)), oo p2 (.mv (.t p201))]) [] .ret) .skip))))))) [] (.ops [oo p202 (.bin .add .other (.t p125) (.c (iI 1))), oo p125 (.mv (.t p202))]))))))) [] (.seq (.ops [oo p2 (.mv (.c .nilIface))]) [] .ret))))), none, none⟩
def f55 : CFunc := ⟨26, [.tmp p4], (.seq (.ops [oo p4 (.mv (.c (.bool false)))]) [] (.seq (.seq (.ops [oo p6 (.mv (.t p0)), oo p7 (.blt .len [(.t p6)]), oo p8 (.mv (.t p1)), oo p9 (.blt .len [(.t p8)]), oo p10 (.bin .neq .other (.t p7) (.t p9))]) [] (.cond (.t p10) (.seq (.ops [oo p4 (.mv (.c (.bool false)))]) [] .ret) .skip)) [] (.seq (.seq (.ops [oo p5 (.mv (.c (iI 0)))]) [] (.block 0 (.loop [] (.seq (.seq (.ops [oo p11 (.mv (.t p5)), oo p12 (.mv (.t p0)), oo p13 (.blt .len [(.t p12)]), oo p14 (.bin .lss .other (.t p11) (.t p13))]) [] (.cond (.t p14) .skip (.exit 0))) [] (.seq (.block 1 (.seq (.draw [oo p17 (.mv (.t p0)), oo p18 (.mv (.t p5)), oo p19 (.indexAddr 2 (.t p17) (.t p18)), oo p20 (.loadN 2 (.t p19)), oo p21 (.mv (.t p1)), oo p22 (.mv (.t p5)), oo p23 (.indexAddr 2 (.t p21) (.t p22)), oo p24 (.loadN 2 (.t p23)), oo p25 (.bin .neq (.leaves [0, 1]) (.t p20) (.t p24))]) [] (.cond (.t p25) (.seq (.ops [oo p4 (.mv (.c (.bool false)))]) [] .ret) .skip))) [] (.ops [oo p15 (.mv (.t p5)), oo p16 (.bin .add .other (.t p15) (.c (iI 1))), oo p5 (.mv (.t p16))])))))) [] (.seq (.ops [oo p4 (.mv (.c (.bool true)))]) [] .ret)))), none, none⟩
def f71 : CFunc := ⟨33, [.tmp p6], (.seq (.ops [oo p3 (.box (.t p0)), oo p4 (.box (.t p1)), oo p6 (.mv (.c (iI 0)))]) [] (.seq (.seq (.ops [oo p8 (.mv (.t p2)), oo p9 (.bin .eql .other (.t p8) (.c (iI 0)))]) [] (.cond (.t p9) (.seq (.ops [oo p10 (.fieldAddr 1 (.t p4)), oo p11 (.load1 (.t p10)), oo p6 (.mv (.t p11))]) [] .ret) .skip)) [] (.seq (.ops [oo p12 (.fieldAddr 2 (.t p3)), oo p13 (.load1 (.t p12)), oo p14 (.fieldAddr 0 (.t p4)), oo p15 (.load1 (.t p14)), oo p16 (.indexAddr 3 (.t p13) (.t p15)), oo p17 (.loadN 3 (.t p16)), oo p7 (.alloc [(.slice none 0 0), (.slice none 0 0), (.slice none 0 0)]), on (.store 3 (.t p7) (.t p17))]) [] (.seq (.ops [oo p18 (.fieldAddr 2 (.t p4)), oo p19 (.load1 (.t p18)), oo p20 (.fieldAddr 2 (.t p4)), oo p21 (.load1 (.t p20)), oo p22 (.blt .len [(.t p21)]), oo p23 (.fieldAddr 1 (.t p7)), oo p24 (.load1 (.t p23)), oo p25 (.blt .len [(.t p24)]), oo p26 (.bin .sub .other (.t p22) (.t p25)), oo p27 (.mv (.t p2)), oo p28 (.bin .add .other (.t p26) (.t p27)), oo p29 (.bin .sub .other (.t p28) (.c (iI 1))), oo p30 (.indexAddr 2 (.t p19) (.t p29)), oo p31 (.fieldAddr 1 (.t p30)), oo p32 (.load1 (.t p31)), oo p6 (.mv (.t p32))]) [] .ret)))), none, none⟩
def f76 : CFunc := ⟨55, [.tmp p2], (.seq (.ops [oo p1 (.box (.t p0)), oo p2 (.mv (.c (.pointer none)))]) [] (.seq (.ops [oo p9 (.loadN 4 (.t p1)), oo p10 (.call (.c (.func (.func 102) #[] #[])) [(.t p9)]), oo p8 (.mv (.t p10)), oo p11 (.extract (.t p8) 0), oo p12 (.extract (.t p8) 1), oo p3 (.mv (.t p11)), oo p4 (.mv (.t p12))]) [] (.seq (.ops [oo p13 (.mv (.t p4)), oo p14 (.bin .eql .other (.t p13) (.c (iI 0))), oo p15 (.call (.c (.func (.func 103) #[] #[])) [(.t p14)])]) [] (.seq (.draw [oo p16 (.loadN 4 (.t p1)), oo p17 (.mv (.t p3)), oo p18 (.fieldAddr 2 (.t p1)), oo p19 (.load1 (.t p18)), oo p20 (.blt .len [(.t p19)]), oo p21 (.makeSlice 1 8 [(iI 0)] (.t p20) (.t p20)), oo p22 (.build [(.slice none 0 0), (.slice none 0 0), (.slice none 0 0), (.slice none 0 0), (.slice none 0 0), (.slice none 0 0), (.slice none 0 0), (iI 0), (.slice none 0 0), (.slice none 0 0), (.map none), (.slice none 0 0), (iI 0)] [(4, 4, (.t p16)), (8, 1, (.t p17)), (9, 1, (.t p21))]), oo p23 (.box (.t p22)), oo p5 (.mv (.t p23))]) [] (.seq (.seq (.ops [oo p24 (.fieldAddr 1 (.t p1)), oo p25 (.load1 (.t p24)), oo p26 (.blt .len [(.t p25)]), oo p27 (.mv (.c (iI 0)))]) [] (.block 0 (.loop [] (.seq (.ops [oo p28 (.bin .lss .other (.t p27) (.t p26))]) [] (.seq (.cond (.t p28) .skip (.exit 0)) [] (.seq (.block 1 (.seq (.ops [oo p29 (.indexAddr 4 (.t p25) (.t p27)), oo p30 (.loadN 4 (.t p29)), oo p7 (.alloc [(iI 0), (iI 0), (.slice none 0 0), (.slice none 0 0)]), on (.store 4 (.t p7) (.t p30))]) [] (.seq (.ops [oo p31 (.fieldAddr 0 (.t p7)), oo p32 (.load1 (.t p31)), oo p33 (.bin .eql .other (.t p32) (.c (iI 4)))]) [] (.cond (.t p33) (.draw [oo p34 (.mv (.t p5)), oo p35 (.nilCheck (.t p34)), oo p36 (.fieldAddr 9 (.t p35)), oo p37 (.load1 (.t p36)), oo p38 (.fieldAddr 1 (.t p7)), oo p39 (.load1 (.t p38)), oo p40 (.mv (.t p3)), oo p41 (.fieldAddr 3 (.t p7)), oo p42 (.load1 (.t p41)), oo p43 (.indexAddr 1 (.t p42) (.c (iI 0))), oo p44 (.load1 (.t p43)), oo p45 (.indexAddr 1 (.t p40) (.t p44)), oo p46 (.load1 (.t p45)), oo p47 (.indexAddr 1 (.t p37) (.t p39)), on (.store 1 (.t p47) (.t p46))]) .skip)))) [] (.ops [oo p48 (.bin .add .other (.t p27) (.c (iI 1))), oo p27 (.mv (.t p48))]))))))) [] (.seq (.ops [oo p49 (.mv (.t p5)), oo p50 (.makeMap), on (.mapUpdate .int (.t p50) (.c (iI 2)) (.c (.func (.func 104) #[] #[]))), on (.mapUpdate .int (.t p50) (.c (iI 3)) (.c (.func (.func 105) #[] #[]))), on (.mapUpdate .int (.t p50) (.c (iI 4)) (.c (.func (.func 106) #[] #[]))), on (.mapUpdate .int (.t p50) (.c (iI 5)) (.c (.func (.func 107) #[] #[]))), on (.mapUpdate .int (.t p50) (.c (iI 6)) (.c (.func (.func 108) #[] #[]))), on (.mapUpdate .int (.t p50) (.c (iI 7)) (.c (.func (.func 108) #[] #[]))), on (.mapUpdate .int (.t p50) (.c (iI 8)) (.c (.func (.func 108) #[] #[]))), oo p51 (.mv (.t p50)), oo p52 (.nilCheck (.t p49)), oo p53 (.fieldAddr 10 (.t p52)), on (.store 1 (.t p53) (.t p51))]) [] (.seq (.ops [oo p54 (.mv (.t p5)), oo p2 (.mv (.t p54))]) [] .ret))))))), none, none⟩
def f77 : CFunc := ⟨369, [], (.seq (.ops [oo p19 (.mv (.t p0)), oo p20 (.nilCheck (.t p19)), oo p21 (.fieldAddr 0 (.t p20)), oo p22 (.fieldAddr 0 (.t p21)), oo p23 (.load1 (.t p22)), oo p24 (.blt .len [(.t p23)]), oo p25 (.bin .leq .other (.t p24) (.c (iI 24))), oo p26 (.mv (.t p25)), og p27 (.mv (.t p0)) p26 true, og p28 (.nilCheck (.t p27)) p26 true, og p29 (.fieldAddr 0 (.t p28)) p26 true, og p30 (.fieldAddr 1 (.t p29)) p26 true, og p31 (.load1 (.t p30)) p26 true, og p32 (.blt .len [(.t p31)]) p26 true, og p33 (.bin .leq .other (.t p32) (.c (iI 40))) p26 true, oo p34 (.pick (.t p26) (.t p33) (.c (.bool false))), oo p35 (.mv (.t p34)), og p36 (.mv (.t p0)) p35 true, og p37 (.nilCheck (.t p36)) p35 true, og p38 (.fieldAddr 0 (.t p37)) p35 true, og p39 (.fieldAddr 2 (.t p38)) p35 true, og p40 (.load1 (.t p39)) p35 true, og p41 (.blt .len [(.t p40)]) p35 true, og p42 (.bin .leq .other (.t p41) (.c (iI 60))) p35 true, oo p43 (.pick (.t p35) (.t p42) (.c (.bool false))), oo p44 (.mv (.t p43)), og p45 (.mv (.t p0)) p44 true, og p46 (.nilCheck (.t p45)) p44 true, og p47 (.fieldAddr 0 (.t p46)) p44 true, og p48 (.fieldAddr 3 (.t p47)) p44 true, og p49 (.load1 (.t p48)) p44 true, og p50 (.blt .len [(.t p49)]) p44 true, og p51 (.bin .leq .other (.t p50) (.c (iI 40))) p44 true, oo p52 (.pick (.t p44) (.t p51) (.c (.bool false))), oo p53 (.call (.c (.func (.func 103) #[] #[])) [(.t p52)])]) [] (.seq (.ops [oo p54 (.mv (.t p0)), oo p55 (.nilCheck (.t p54)), oo p56 (.fieldAddr 0 (.t p55)), oo p57 (.fieldAddr 0 (.t p56)), oo p58 (.load1 (.t p57)), oo p59 (.call (.c (.func (.func 109) #[] #[])) [(.t p58)])]) [] (.seq (.seq (.ops [oo p60 (.mv (.t p0)), oo p61 (.nilCheck (.t p60)), oo p62 (.fieldAddr 0 (.t p61)), oo p63 (.fieldAddr 0 (.t p62)), oo p64 (.load1 (.t p63)), oo p65 (.slice 2 (.t p64) (some (.c (iI 1))) none), oo p66 (.blt .len [(.t p65)]), oo p67 (.mv (.c (iI 0)))]) [] (.block 0 (.loop [] (.seq (.ops [oo p68 (.bin .lss .other (.t p67) (.t p66))]) [] (.seq (.cond (.t p68) .skip (.exit 0)) [] (.seq (.block 1 (.seq (.ops [oo p69 (.indexAddr 2 (.t p65) (.t p67)), oo p70 (.loadN 2 (.t p69)), oo p3 (.alloc [(iI 0), (.bool false)]), on (.store 2 (.t p3) (.t p70))]) [] (.draw [oo p71 (.fieldAddr 1 (.t p3)), oo p72 (.load1 (.t p71)), oo p73 (.mv (.t p72)), og p74 (.mv (.t p0)) p73 false, og p75 (.nilCheck (.t p74)) p73 false, og p76 (.fieldAddr 0 (.t p75)) p73 false, og p77 (.fieldAddr 0 (.t p76)) p73 false, og p78 (.load1 (.t p77)) p73 false, og p79 (.fieldAddr 0 (.t p3)) p73 false, og p80 (.load1 (.t p79)) p73 false, og p81 (.indexAddr 2 (.t p78) (.t p80)) p73 false, og p82 (.fieldAddr 1 (.t p81)) p73 false, og p83 (.load1 (.t p82)) p73 false, og p84 (.un .not (.t p83)) p73 false, oo p85 (.pick (.t p73) (.c (.bool true)) (.t p84)), oo p86 (.call (.c (.func (.func 103) #[] #[])) [(.t p85)])]))) [] (.ops [oo p87 (.bin .add .other (.t p67) (.c (iI 1))), oo p67 (.mv (.t p87))]))))))) [] (.seq (.ops [oo p4 (.mv (.c (iI 0))), oo p5 (.mv (.c (iI 1)))]) [] (.seq (.seq (.ops [oo p88 (.mv (.t p0)), oo p89 (.nilCheck (.t p88)), oo p90 (.fieldAddr 0 (.t p89)), oo p91 (.fieldAddr 1 (.t p90)), oo p92 (.load1 (.t p91)), oo p93 (.blt .len [(.t p92)]), oo p94 (.mv (.c (iI 0)))]) [] (.block 2 (.loop [] (.seq (.ops [oo p95 (.bin .lss .other (.t p94) (.t p93))]) [] (.seq (.cond (.t p95) .skip (.exit 2)) [] (.seq (.block 3 (.seq (.ops [oo p96 (.mv (.t p94)), oo p97 (.indexAddr 3 (.t p92) (.t p94)), oo p98 (.loadN 3 (.t p97)), oo p7 (.alloc [(iI 0), (iI 0), (.slice none 0 0)]), oo p6 (.mv (.t p96)), on (.store 3 (.t p7) (.t p98))]) [] (.seq (.draw [oo p99 (.fieldAddr 0 (.t p7)), oo p100 (.load1 (.t p99)), oo p101 (.bin .geq .other (.t p100) (.c (iI 0))), oo p102 (.mv (.t p101)), og p103 (.fieldAddr 0 (.t p7)) p102 true, og p104 (.load1 (.t p103)) p102 true, og p105 (.mv (.t p0)) p102 true, og p106 (.nilCheck (.t p105)) p102 true, og p107 (.fieldAddr 4 (.t p106)) p102 true, og p108 (.fieldAddr 2 (.t p107)) p102 true, og p109 (.load1 (.t p108)) p102 true, og p110 (.blt .len [(.t p109)]) p102 true, og p111 (.bin .lss .other (.t p104) (.t p110)) p102 true, oo p112 (.pick (.t p102) (.t p111) (.c (.bool false))), oo p113 (.call (.c (.func (.func 103) #[] #[])) [(.t p112)])]) [] (.seq (.ops [oo p114 (.mv (.t p0)), oo p115 (.fieldAddr 1 (.t p7)), oo p116 (.load1 (.t p115)), oo p117 (.call (.c (.func (.func 110) #[] #[])) [(.t p114), (.t p116)])]) [] (.seq (.draw [oo p118 (.mv (.t p0)), oo p119 (.fieldAddr 2 (.t p7)), oo p120 (.load1 (.t p119)), oo p121 (.mv (.t p0)), oo p122 (.nilCheck (.t p121)), oo p123 (.fieldAddr 9 (.t p122)), oo p124 (.load1 (.t p123)), oo p125 (.fieldAddr 0 (.t p7)), oo p126 (.load1 (.t p125)), oo p127 (.indexAddr 1 (.t p124) (.t p126)), oo p128 (.load1 (.t p127)), oo p129 (.call (.c (.func (.func 111) #[] #[])) [(.t p118), (.t p120), (.t p128)])]) [] (.seq (.draw [oo p130 (.mv (.t p0)), oo p131 (.nilCheck (.t p130)), oo p132 (.fieldAddr 4 (.t p131)), oo p133 (.fieldAddr 2 (.t p132)), oo p134 (.load1 (.t p133)), oo p135 (.fieldAddr 0 (.t p7)), oo p136 (.load1 (.t p135)), oo p137 (.indexAddr 3 (.t p134) (.t p136)), oo p138 (.loadN 3 (.t p137)), oo p8 (.alloc [(.slice none 0 0), (.slice none 0 0), (.slice none 0 0)]), on (.store 3 (.t p8) (.t p138))]) [] (.seq (.ops [oo p139 (.fieldAddr 2 (.t p7)), oo p140 (.load1 (.t p139)), oo p141 (.fieldAddr 2 (.t p7)), oo p142 (.load1 (.t p141)), oo p143 (.blt .len [(.t p142)]), oo p144 (.fieldAddr 0 (.t p8)), oo p145 (.load1 (.t p144)), oo p146 (.blt .len [(.t p145)]), oo p147 (.bin .sub .other (.t p143) (.t p146)), oo p148 (.fieldAddr 1 (.t p8)), oo p149 (.load1 (.t p148)), oo p150 (.blt .len [(.t p149)]), oo p151 (.bin .sub .other (.t p147) (.t p150)), oo p152 (.slice 2 (.t p140) (some (.t p151)) none), oo p9 (.mv (.t p152))]) [] (.seq (.seq (.ops [oo p153 (.fieldAddr 0 (.t p8)), oo p154 (.load1 (.t p153)), oo p155 (.blt .len [(.t p154)]), oo p156 (.mv (.c (iI 0)))]) [] (.block 4 (.loop [] (.seq (.ops [oo p157 (.bin .lss .other (.t p156) (.t p155))]) [] (.seq (.cond (.t p157) .skip (.exit 4)) [] (.seq (.block 5 (.seq (.ops [oo p158 (.mv (.t p156)), oo p10 (.mv (.t p158))]) [] (.ops [oo p159 (.mv (.t p9)), oo p160 (.mv (.t p10)), oo p161 (.indexAddr 2 (.t p159) (.t p160)), oo p162 (.loadN 2 (.t p161)), oo p163 (.mv (.t p4)), oo p164 (.mv (.t p10)), oo p165 (.bin .add .other (.t p163) (.t p164)), oo p166 (.build [(iI 0), (iI 0)] [(0, 1, (.c (iI 3))), (1, 1, (.t p165))]), oo p167 (.bin .eql (.leaves [0, 1]) (.t p162) (.t p166)), oo p168 (.call (.c (.func (.func 103) #[] #[])) [(.t p167)])]))) [] (.ops [oo p169 (.bin .add .other (.t p156) (.c (iI 1))), oo p156 (.mv (.t p169))]))))))) [] (.seq (.seq (.ops [oo p170 (.fieldAddr 1 (.t p8)), oo p171 (.load1 (.t p170)), oo p172 (.blt .len [(.t p171)]), oo p173 (.mv (.c (iI 0)))]) [] (.block 6 (.loop [] (.seq (.ops [oo p174 (.bin .lss .other (.t p173) (.t p172))]) [] (.seq (.cond (.t p174) .skip (.exit 6)) [] (.seq (.block 7 (.seq (.ops [oo p175 (.mv (.t p173)), oo p11 (.mv (.t p175))]) [] (.ops [oo p176 (.mv (.t p9)), oo p177 (.fieldAddr 0 (.t p8)), oo p178 (.load1 (.t p177)), oo p179 (.blt .len [(.t p178)]), oo p180 (.mv (.t p11)), oo p181 (.bin .add .other (.t p179) (.t p180)), oo p182 (.indexAddr 2 (.t p176) (.t p181)), oo p183 (.loadN 2 (.t p182)), oo p184 (.mv (.t p5)), oo p185 (.mv (.t p11)), oo p186 (.bin .add .other (.t p184) (.t p185)), oo p187 (.build [(iI 0), (iI 0)] [(0, 1, (.c (iI 4))), (1, 1, (.t p186))]), oo p188 (.bin .eql (.leaves [0, 1]) (.t p183) (.t p187)), oo p189 (.call (.c (.func (.func 103) #[] #[])) [(.t p188)])]))) [] (.ops [oo p190 (.bin .add .other (.t p173) (.c (iI 1))), oo p173 (.mv (.t p190))]))))))) [] (.seq (.seq (.ops [oo p191 (.fieldAddr 0 (.t p8)), oo p192 (.load1 (.t p191)), oo p193 (.blt .len [(.t p192)]), oo p194 (.mv (.c (iI 0)))]) [] (.block 8 (.loop [] (.seq (.ops [oo p195 (.bin .lss .other (.t p194) (.t p193))]) [] (.seq (.cond (.t p195) .skip (.exit 8)) [] (.seq (.block 9 (.seq (.ops [oo p196 (.mv (.t p194)), oo p197 (.indexAddr 2 (.t p192) (.t p194)), oo p198 (.loadN 2 (.t p197)), oo p13 (.alloc [(iI 0), (iI 0)]), oo p12 (.mv (.t p196)), on (.store 2 (.t p13) (.t p198))]) [] (.seq (.ops [oo p199 (.mv (.t p0)), oo p200 (.nilCheck (.t p199)), oo p201 (.fieldAddr 0 (.t p200)), oo p202 (.fieldAddr 2 (.t p201)), oo p203 (.load1 (.t p202)), oo p204 (.mv (.t p4)), oo p205 (.mv (.t p12)), oo p206 (.bin .add .other (.t p204) (.t p205)), oo p207 (.indexAddr 4 (.t p203) (.t p206)), oo p208 (.loadN 4 (.t p207)), oo p14 (.alloc [(iI 0), (iI 0), (iI 0), (.slice none 0 0)]), on (.store 4 (.t p14) (.t p208))]) [] (.seq (.draw [oo p209 (.fieldAddr 0 (.t p14)), oo p210 (.load1 (.t p209)), oo p211 (.mv (.t p6)), oo p212 (.bin .eql .other (.t p210) (.t p211)), oo p213 (.mv (.t p212)), og p214 (.fieldAddr 1 (.t p14)) p213 true, og p215 (.load1 (.t p214)) p213 true, og p216 (.mv (.t p12)) p213 true, og p217 (.bin .eql .other (.t p215) (.t p216)) p213 true, oo p218 (.pick (.t p213) (.t p217) (.c (.bool false))), oo p219 (.mv (.t p218)), og p222 (.mv (.t p0)) p219 true, og p223 (.loadN 3 (.t p7)) p219 true, og p224 (.fieldAddr 0 (.t p13)) p219 true, og p225 (.load1 (.t p224)) p219 true, og p226 (.call (.c (.func (.func 112) #[] #[])) [(.t p222), (.t p223), (.t p225)]) p219 true, og p220 (.fieldAddr 2 (.t p14)) p219 true, og p221 (.load1 (.t p220)) p219 true, ⟨(some p227), .bin .eql .other (.t p221) (.t p226), (some (p219, true)), 1⟩, ⟨(some p228), .pick (.t p219) (.t p227) (.c (.bool false)), none, 1⟩, ⟨(some p229), .call (.c (.func (.func 103) #[] #[])) [(.t p228)], none, 1⟩]) [] (.seq (.draw [oo p230 (.fieldAddr 3 (.t p14)), oo p231 (.load1 (.t p230)), oo p232 (.blt .len [(.t p231)]), oo p233 (.bin .leq .other (.t p232) (.c (iI 12))), oo p234 (.mv (.t p233)), og p235 (.fieldAddr 3 (.t p14)) p234 true, og p236 (.load1 (.t p235)) p234 true, og p237 (.blt .len [(.t p236)]) p234 true, og p238 (.bin .eql .other (.t p237) (.c (iI 0))) p234 true, og p239 (.mv (.t p238)) p234 true, og p240 (.mv (.t p0)) p239 false, og p241 (.nilCheck (.t p240)) p239 false, og p242 (.fieldAddr 0 (.t p241)) p239 false, og p243 (.fieldAddr 0 (.t p242)) p239 false, og p244 (.load1 (.t p243)) p239 false, og p245 (.fieldAddr 2 (.t p14)) p239 false, og p246 (.load1 (.t p245)) p239 false, og p247 (.indexAddr 2 (.t p244) (.t p246)) p239 false, og p248 (.fieldAddr 1 (.t p247)) p239 false, og p249 (.load1 (.t p248)) p239 false, og p250 (.un .not (.t p249)) p239 false, og p251 (.pick (.t p239) (.c (.bool true)) (.t p250)) p234 true, oo p252 (.pick (.t p234) (.t p251) (.c (.bool false))), oo p253 (.call (.c (.func (.func 103) #[] #[])) [(.t p252)])]) [] (.seq (.ops [oo p254 (.fieldAddr 3 (.t p14)), oo p255 (.load1 (.t p254)), oo p256 (.blt .len [(.t p255)]), oo p257 (.mv (.c (iI 0)))]) [] (.block 10 (.loop [] (.seq (.ops [oo p258 (.bin .lss .other (.t p257) (.t p256))]) [] (.seq (.cond (.t p258) .skip (.exit 10)) [] (.seq (.block 11 (.seq (.ops [oo p259 (.indexAddr 1 (.t p255) (.t p257)), oo p260 (.loadN 1 (.t p259)), oo p16 (.alloc [(.slice none 0 0)]), on (.store 1 (.t p16) (.t p260))]) [] (.ops [oo p261 (.mv (.t p0)), oo p262 (.fieldAddr 0 (.t p16)), oo p263 (.load1 (.t p262)), oo p264 (.fieldAddr 1 (.t p13)), oo p265 (.load1 (.t p264)), oo p266 (.call (.c (.func (.func 111) #[] #[])) [(.t p261), (.t p263), (.t p265)])]))) [] (.ops [oo p267 (.bin .add .other (.t p257) (.c (iI 1))), oo p257 (.mv (.t p267))])))))))))))) [] (.ops [oo p268 (.bin .add .other (.t p194) (.c (iI 1))), oo p194 (.mv (.t p268))]))))))) [] (.draw [oo p269 (.mv (.t p4)), oo p270 (.fieldAddr 0 (.t p8)), oo p271 (.load1 (.t p270)), oo p272 (.blt .len [(.t p271)]), oo p273 (.bin .add .other (.t p269) (.t p272)), oo p274 (.mv (.t p5)), oo p275 (.fieldAddr 1 (.t p8)), oo p276 (.load1 (.t p275)), oo p277 (.blt .len [(.t p276)]), oo p278 (.bin .add .other (.t p274) (.t p277)), oo p4 (.mv (.t p273)), oo p5 (.mv (.t p278))]))))))))))) [] (.ops [oo p279 (.bin .add .other (.t p94) (.c (iI 1))), oo p94 (.mv (.t p279))]))))))) [] (.seq (.ops [oo p280 (.mv (.t p4)), oo p281 (.mv (.t p0)), oo p282 (.nilCheck (.t p281)), oo p283 (.fieldAddr 0 (.t p282)), oo p284 (.fieldAddr 2 (.t p283)), oo p285 (.load1 (.t p284)), oo p286 (.blt .len [(.t p285)]), oo p287 (.bin .eql .other (.t p280) (.t p286)), oo p288 (.mv (.t p287)), og p289 (.mv (.t p5)) p288 true, og p290 (.mv (.t p0)) p288 true, og p291 (.nilCheck (.t p290)) p288 true, og p292 (.fieldAddr 0 (.t p291)) p288 true, og p293 (.fieldAddr 0 (.t p292)) p288 true, og p294 (.load1 (.t p293)) p288 true, og p295 (.blt .len [(.t p294)]) p288 true, og p296 (.bin .eql .other (.t p289) (.t p295)) p288 true, oo p297 (.pick (.t p288) (.t p296) (.c (.bool false))), oo p298 (.call (.c (.func (.func 103) #[] #[])) [(.t p297)])]) [] (.seq (.ops [oo p299 (.mv (.t p0)), oo p300 (.nilCheck (.t p299)), oo p301 (.fieldAddr 0 (.t p300)), oo p302 (.fieldAddr 3 (.t p301)), oo p303 (.load1 (.t p302)), oo p304 (.blt .len [(.t p303)]), oo p305 (.mv (.c (iI 0)))]) [] (.block 12 (.loop [] (.seq (.ops [oo p306 (.bin .lss .other (.t p305) (.t p304))]) [] (.seq (.cond (.t p306) .skip (.exit 12)) [] (.seq (.block 13 (.seq (.ops [oo p307 (.indexAddr 3 (.t p303) (.t p305)), oo p308 (.loadN 3 (.t p307)), oo p18 (.alloc [(iI 0), (iI 0), (.slice none 0 0)]), on (.store 3 (.t p18) (.t p308))]) [] (.seq (.ops [oo p309 (.mv (.t p0)), oo p310 (.fieldAddr 0 (.t p18)), oo p311 (.load1 (.t p310)), oo p312 (.call (.c (.func (.func 110) #[] #[])) [(.t p309), (.t p311)])]) [] (.seq (.draw [oo p313 (.mv (.t p0)), oo p314 (.nilCheck (.t p313)), oo p315 (.fieldAddr 0 (.t p314)), oo p316 (.fieldAddr 0 (.t p315)), oo p317 (.load1 (.t p316)), oo p318 (.fieldAddr 0 (.t p18)), oo p319 (.load1 (.t p318)), oo p320 (.indexAddr 2 (.t p317) (.t p319)), oo p321 (.fieldAddr 1 (.t p320)), oo p322 (.load1 (.t p321)), oo p323 (.un .not (.t p322)), oo p324 (.mv (.t p323)), og p325 (.fieldAddr 1 (.t p18)) p324 true, og p326 (.load1 (.t p325)) p324 true, og p327 (.bin .geq .other (.t p326) (.c (iI 0))) p324 true, oo p328 (.pick (.t p324) (.t p327) (.c (.bool false))), oo p329 (.mv (.t p328)), og p330 (.fieldAddr 1 (.t p18)) p329 true, og p331 (.load1 (.t p330)) p329 true, og p332 (.mv (.t p0)) p329 true, og p333 (.nilCheck (.t p332)) p329 true, og p334 (.fieldAddr 4 (.t p333)) p329 true, og p335 (.fieldAddr 1 (.t p334)) p329 true, og p336 (.load1 (.t p335)) p329 true, og p337 (.blt .len [(.t p336)]) p329 true, og p338 (.bin .lss .other (.t p331) (.t p337)) p329 true, oo p339 (.pick (.t p329) (.t p338) (.c (.bool false))), oo p340 (.call (.c (.func (.func 103) #[] #[])) [(.t p339)])]) [] (.seq (.draw [oo p341 (.mv (.t p0)), oo p342 (.nilCheck (.t p341)), oo p343 (.fieldAddr 4 (.t p342)), oo p344 (.fieldAddr 1 (.t p343)), oo p345 (.load1 (.t p344)), oo p346 (.fieldAddr 1 (.t p18)), oo p347 (.load1 (.t p346)), oo p348 (.indexAddr 4 (.t p345) (.t p347)), oo p349 (.fieldAddr 0 (.t p348)), oo p350 (.load1 (.t p349))]) [] (.block 14 (.seq (.seq (.ops [oo p353 (.bin .eql .other (.t p350) (.c (iI 6))), oo p352 (.mv (.t p353))]) [] (.cond (.t p352) .skip (.seq (.ops [oo p354 (.bin .eql .other (.t p350) (.c (iI 7))), oo p352 (.mv (.t p354))]) [] (.cond (.t p352) .skip (.ops [oo p355 (.bin .eql .other (.t p350) (.c (iI 8))), oo p352 (.mv (.t p355))]))))) [] (.cond (.t p352) (.draw [oo p356 (.mv (.t p0)), oo p357 (.fieldAddr 2 (.t p18)), oo p358 (.load1 (.t p357)), oo p359 (.mv (.t p0)), oo p360 (.nilCheck (.t p359)), oo p361 (.fieldAddr 8 (.t p360)), oo p362 (.load1 (.t p361)), oo p363 (.fieldAddr 1 (.t p18)), oo p364 (.load1 (.t p363)), oo p365 (.indexAddr 1 (.t p362) (.t p364)), oo p366 (.load1 (.t p365)), oo p367 (.call (.c (.func (.func 111) #[] #[])) [(.t p356), (.t p358), (.t p366)])]) (.ops [oo p351 (.call (.c (.func (.func 113) #[] #[])) [(.c (iI 2))])]))))))))) [] (.ops [oo p368 (.bin .add .other (.t p305) (.c (iI 1))), oo p305 (.mv (.t p368))]))))))))))))), none, none⟩
def f78 : CFunc := ⟨16, [.cell (some 4) p2], (.seq (.ops [oo p1 (.box (.t p0)), oo p2 (.alloc [(.slice none 0 0), (.slice none 0 0), (.slice none 0 0), (.slice none 0 0)])]) [] (.seq (.draw [oo p3 (.fieldAddr 0 (.t p1)), oo p4 (.load1 (.t p3)), oo p5 (.call (.c (.func (.func 114) #[] #[])) [(.t p4), (.c (.func (.func 115) #[] #[]))]), oo p6 (.fieldAddr 1 (.t p1)), oo p7 (.load1 (.t p6)), ⟨(some p8), .call (.c (.func (.func 116) #[] #[])) [(.t p7), (.c (.func (.func 117) #[] #[]))], none, 1⟩, oo p9 (.fieldAddr 2 (.t p1)), oo p10 (.load1 (.t p9)), ⟨(some p11), .call (.c (.func (.func 119) #[] #[])) [(.t p10), (.c (.func (.func 120) #[] #[]))], none, 2⟩, oo p12 (.fieldAddr 3 (.t p1)), oo p13 (.load1 (.t p12)), ⟨(some p14), .call (.c (.func (.func 122) #[] #[])) [(.t p13), (.c (.func (.func 123) #[] #[]))], none, 3⟩, ⟨(some p15), .build [(.slice none 0 0), (.slice none 0 0), (.slice none 0 0), (.slice none 0 0)] [(0, 1, (.t p5)), (1, 1, (.t p8)), (2, 1, (.t p11)), (3, 1, (.t p14))], none, 4⟩, ⟨none, .store 4 (.t p2) (.t p15), none, 4⟩]) [] .ret)), none, none⟩
def f102 : CFunc := ⟨8, [.tmp p2, .tmp p3], (.seq (.ops [oo p1 (.box (.t p0)), oo p2 (.mv (.c (.slice none 0 0))), oo p3 (.mv (.c (iI 0)))]) [] (.seq (.ops [oo p4 (.loadN 4 (.t p1)), oo p5 (.call (.c (.func (.func 135) #[] #[])) [(.t p4), (.c (.func (.func 136) #[] #[]))]), oo p6 (.extract (.t p5) 0), oo p7 (.extract (.t p5) 1), oo p2 (.mv (.t p6)), oo p3 (.mv (.t p7))]) [] .ret)), none, none⟩
def f109 : CFunc := ⟨47, [], (.seq (.ops [oo p5 (.mv (.t p0)), oo p6 (.blt .len [(.t p5)]), oo p7 (.bin .gtr .other (.t p6) (.c (iI 0))), oo p8 (.mv (.t p7)), og p9 (.mv (.t p0)) p8 true, og p10 (.indexAddr 2 (.t p9) (.c (iI 0))) p8 true, og p11 (.fieldAddr 0 (.t p10)) p8 true, og p12 (.load1 (.t p11)) p8 true, og p13 (.bin .eql .other (.t p12) (.c (iI (-1)))) p8 true, oo p14 (.pick (.t p8) (.t p13) (.c (.bool false))), oo p15 (.call (.c (.func (.func 103) #[] #[])) [(.t p14)])]) [] (.seq (.ops [oo p16 (.mv (.t p0)), oo p17 (.blt .len [(.t p16)]), oo p18 (.mv (.c (iI 0)))]) [] (.block 0 (.loop [] (.seq (.ops [oo p19 (.bin .lss .other (.t p18) (.t p17))]) [] (.seq (.cond (.t p19) .skip (.exit 0)) [] (.seq (.block 1 (.seq (.ops [oo p20 (.mv (.t p18)), oo p2 (.mv (.t p20))]) [] (.seq (.ops [oo p21 (.mv (.t p2)), oo p3 (.mv (.t p21))]) [] (.seq (.ops [oo p4 (.mv (.c (iI 0)))]) [] (.block 2 (.loop [] (.seq (.seq (.ops [oo p22 (.mv (.t p3)), oo p23 (.bin .neq .other (.t p22) (.c (iI 0)))]) [] (.cond (.t p23) .skip (.exit 2))) [] (.seq (.block 3 (.seq (.ops [oo p26 (.mv (.t p0)), oo p27 (.mv (.t p3)), oo p28 (.indexAddr 2 (.t p26) (.t p27)), oo p29 (.fieldAddr 0 (.t p28)), oo p30 (.load1 (.t p29)), oo p3 (.mv (.t p30))]) [] (.ops [oo p31 (.mv (.t p3)), oo p32 (.bin .geq .other (.t p31) (.c (iI 0))), oo p33 (.mv (.t p32)), og p34 (.mv (.t p3)) p33 true, og p35 (.mv (.t p0)) p33 true, og p36 (.blt .len [(.t p35)]) p33 true, og p37 (.bin .lss .other (.t p34) (.t p36)) p33 true, oo p38 (.pick (.t p33) (.t p37) (.c (.bool false))), oo p39 (.mv (.t p38)), og p40 (.mv (.t p4)) p39 true, og p41 (.mv (.t p0)) p39 true, og p42 (.blt .len [(.t p41)]) p39 true, og p43 (.bin .lss .other (.t p40) (.t p42)) p39 true, oo p44 (.pick (.t p39) (.t p43) (.c (.bool false))), oo p45 (.call (.c (.func (.func 103) #[] #[])) [(.t p44)])]))) [] (.ops [oo p24 (.mv (.t p4)), oo p25 (.bin .add .other (.t p24) (.c (iI 1))), oo p4 (.mv (.t p25))]))))))))) [] (.ops [oo p46 (.bin .add .other (.t p18) (.c (iI 1))), oo p18 (.mv (.t p46))])))))))), none, none⟩
def f110 : CFunc := ⟨17, [], (.ops [oo p4 (.mv (.t p1)), oo p5 (.bin .geq .other (.t p4) (.c (iI 0))), oo p6 (.mv (.t p5)), og p7 (.mv (.t p1)) p6 true, og p8 (.mv (.t p0)) p6 true, og p9 (.nilCheck (.t p8)) p6 true, og p10 (.fieldAddr 0 (.t p9)) p6 true, og p11 (.fieldAddr 0 (.t p10)) p6 true, og p12 (.load1 (.t p11)) p6 true, og p13 (.blt .len [(.t p12)]) p6 true, og p14 (.bin .lss .other (.t p7) (.t p13)) p6 true, oo p15 (.pick (.t p6) (.t p14) (.c (.bool false))), oo p16 (.call (.c (.func (.func 103) #[] #[])) [(.t p15)])]), none, none⟩
def f114 : CFunc := ⟨22, [.tmp p4], (.seq (.ops [oo p4 (.mv (.c (.slice none 0 0)))]) [] (.seq (.ops [oo p5 (.mv (.c (.slice none 0 0)))]) [] (.seq (.seq (.ops [oo p8 (.mv (.t p0)), oo p9 (.blt .len [(.t p8)]), oo p10 (.mv (.c (iI 0)))]) [] (.block 0 (.loop [] (.seq (.ops [oo p11 (.bin .lss .other (.t p10) (.t p9))]) [] (.seq (.cond (.t p11) .skip (.exit 0)) [] (.seq (.block 1 (.seq (.ops [oo p12 (.indexAddr 2 (.t p8) (.t p10)), oo p13 (.loadN 2 (.t p12)), oo p7 (.alloc [(iI 0), (.bool false)]), on (.store 2 (.t p7) (.t p13))]) [] (.ops [oo p14 (.mv (.t p5)), oo p15 (.mv (.t p1)), oo p16 (.loadN 2 (.t p7)), oo p17 (.call (.t p15) [(.t p16)]), oo p18 (.buildSlice 1 2 [(iI 0), (.bool false)] [(0, (.t p17))]), oo p19 (.blt (.append 2 16) [(.t p14), (.t p18)]), oo p5 (.mv (.t p19))]))) [] (.ops [oo p20 (.bin .add .other (.t p10) (.c (iI 1))), oo p10 (.mv (.t p20))]))))))) [] (.seq (.ops [oo p21 (.mv (.t p5)), oo p4 (.mv (.t p21))]) [] .ret)))), none, none⟩
def f115 : CFunc := ⟨4, [.cell (some 2) p2], (.seq (.ops [oo p1 (.box (.t p0)), oo p2 (.alloc [(iI 0), (.bool false)])]) [] (.seq (.ops [oo p3 (.loadN 2 (.t p1)), on (.store 2 (.t p2) (.t p3))]) [] .ret)), none, none⟩
def f116 : CFunc := ⟨22, [.tmp p4], (.seq (.ops [oo p4 (.mv (.c (.slice none 0 0)))]) [] (.seq (.ops [oo p5 (.mv (.c (.slice none 0 0)))]) [] (.seq (.seq (.ops [oo p8 (.mv (.t p0)), oo p9 (.blt .len [(.t p8)]), oo p10 (.mv (.c (iI 0)))]) [] (.block 0 (.loop [] (.seq (.ops [oo p11 (.bin .lss .other (.t p10) (.t p9))]) [] (.seq (.cond (.t p11) .skip (.exit 0)) [] (.seq (.block 1 (.seq (.ops [oo p12 (.indexAddr 3 (.t p8) (.t p10)), oo p13 (.loadN 3 (.t p12)), oo p7 (.alloc [(iI 0), (iI 0), (.slice none 0 0)]), on (.store 3 (.t p7) (.t p13))]) [] (.ops [oo p14 (.mv (.t p5)), oo p15 (.mv (.t p1)), oo p16 (.loadN 3 (.t p7)), oo p17 (.call (.t p15) [(.t p16)]), oo p18 (.buildSlice 1 3 [(iI 0), (iI 0), (.slice none 0 0)] [(0, (.t p17))]), oo p19 (.blt (.append 3 40) [(.t p14), (.t p18)]), oo p5 (.mv (.t p19))]))) [] (.ops [oo p20 (.bin .add .other (.t p10) (.c (iI 1))), oo p10 (.mv (.t p20))]))))))) [] (.seq (.ops [oo p21 (.mv (.t p5)), oo p4 (.mv (.t p21))]) [] .ret)))), none, none⟩
def f117 : CFunc := ⟨11, [.cell (some 3) p2], (.seq (.ops [oo p1 (.box (.t p0)), oo p2 (.alloc [(iI 0), (iI 0), (.slice none 0 0)])]) [] (.seq (.draw [oo p7 (.fieldAddr 2 (.t p1)), oo p8 (.load1 (.t p7)), oo p9 (.call (.c (.func (.func 118) #[] #[])) [(.t p8)]), oo p3 (.fieldAddr 0 (.t p1)), oo p4 (.load1 (.t p3)), oo p5 (.fieldAddr 1 (.t p1)), oo p6 (.load1 (.t p5)), ⟨(some p10), .build [(iI 0), (iI 0), (.slice none 0 0)] [(0, 1, (.t p4)), (1, 1, (.t p6)), (2, 1, (.t p9))], none, 1⟩, ⟨none, .store 3 (.t p2) (.t p10), none, 1⟩]) [] .ret)), none, none⟩
def f119 : CFunc := ⟨22, [.tmp p4], (.seq (.ops [oo p4 (.mv (.c (.slice none 0 0)))]) [] (.seq (.ops [oo p5 (.mv (.c (.slice none 0 0)))]) [] (.seq (.seq (.ops [oo p8 (.mv (.t p0)), oo p9 (.blt .len [(.t p8)]), oo p10 (.mv (.c (iI 0)))]) [] (.block 0 (.loop [] (.seq (.ops [oo p11 (.bin .lss .other (.t p10) (.t p9))]) [] (.seq (.cond (.t p11) .skip (.exit 0)) [] (.seq (.block 1 (.seq (.ops [oo p12 (.indexAddr 4 (.t p8) (.t p10)), oo p13 (.loadN 4 (.t p12)), oo p7 (.alloc [(iI 0), (iI 0), (iI 0), (.slice none 0 0)]), on (.store 4 (.t p7) (.t p13))]) [] (.ops [oo p14 (.mv (.t p5)), oo p15 (.mv (.t p1)), oo p16 (.loadN 4 (.t p7)), oo p17 (.call (.t p15) [(.t p16)]), oo p18 (.buildSlice 1 4 [(iI 0), (iI 0), (iI 0), (.slice none 0 0)] [(0, (.t p17))]), oo p19 (.blt (.append 4 48) [(.t p14), (.t p18)]), oo p5 (.mv (.t p19))]))) [] (.ops [oo p20 (.bin .add .other (.t p10) (.c (iI 1))), oo p10 (.mv (.t p20))]))))))) [] (.seq (.ops [oo p21 (.mv (.t p5)), oo p4 (.mv (.t p21))]) [] .ret)))), none, none⟩
def f122 : CFunc := ⟨22, [.tmp p4], (.seq (.ops [oo p4 (.mv (.c (.slice none 0 0)))]) [] (.seq (.ops [oo p5 (.mv (.c (.slice none 0 0)))]) [] (.seq (.seq (.ops [oo p8 (.mv (.t p0)), oo p9 (.blt .len [(.t p8)]), oo p10 (.mv (.c (iI 0)))]) [] (.block 0 (.loop [] (.seq (.ops [oo p11 (.bin .lss .other (.t p10) (.t p9))]) [] (.seq (.cond (.t p11) .skip (.exit 0)) [] (.seq (.block 1 (.seq (.ops [oo p12 (.indexAddr 3 (.t p8) (.t p10)), oo p13 (.loadN 3 (.t p12)), oo p7 (.alloc [(iI 0), (iI 0), (.slice none 0 0)]), on (.store 3 (.t p7) (.t p13))]) [] (.ops [oo p14 (.mv (.t p5)), oo p15 (.mv (.t p1)), oo p16 (.loadN 3 (.t p7)), oo p17 (.call (.t p15) [(.t p16)]), oo p18 (.buildSlice 1 3 [(iI 0), (iI 0), (.slice none 0 0)] [(0, (.t p17))]), oo p19 (.blt (.append 3 40) [(.t p14), (.t p18)]), oo p5 (.mv (.t p19))]))) [] (.ops [oo p20 (.bin .add .other (.t p10) (.c (iI 1))), oo p10 (.mv (.t p20))]))))))) [] (.seq (.ops [oo p21 (.mv (.t p5)), oo p4 (.mv (.t p21))]) [] .ret)))), none, none⟩
def f135 : CFunc := ⟨11, [.tmp p4, .tmp p5], (.seq (.ops [oo p2 (.box (.t p0)), oo p3 (.box (.t p1)), oo p4 (.mv (.c (.slice none 0 0))), oo p5 (.mv (.c (iI 0)))]) [] (.seq (.ops [oo p6 (.loadN 4 (.t p2)), oo p7 (.makeFunc (.func 159) [] [(.t p2), (.t p3)]), oo p8 (.call (.c (.func (.func 158) #[] #[])) [(.t p6), (.t p7)]), oo p9 (.extract (.t p8) 0), oo p10 (.extract (.t p8) 1), oo p4 (.mv (.t p9)), oo p5 (.mv (.t p10))]) [] .ret)), none, none⟩
def f158 : CFunc := ⟨10, [.tmp p4, .cell none p5], (.seq (.ops [oo p2 (.box (.t p0)), oo p4 (.mv (.c (.slice none 0 0))), oo p5 (.alloc [(iI 0)])]) [] (.ops [])), (some ⟨(.c (.func (.func 73) #[] #[])), [(.t p5)], [], (.seq (.ops []) [] (.seq (.ops [oo p6 (.mv (.t p1)), oo p7 (.loadN 4 (.t p2)), oo p8 (.call (.c (.func (.func 74) #[] #[])) [(.t p7)]), oo p9 (.call (.t p6) [(.t p8)]), oo p4 (.mv (.t p9)), on (.store 1 (.t p5) (.c (iI 0)))]) [] .ret))⟩), none⟩
def f7 : CFunc := ⟨14, [.cell (some 3) p4], (.seq (.ops [oo p4 (.alloc [(.slice none 0 0), (.slice none 0 0), (.slice none 0 0)])]) [] (.seq (.ops [oo p6 (.call (.c (.func (.func 4) #[] #[])) []), oo p7 (.call (.c (.func (.func 21) #[] #[])) [(.t p6)]), oo p5 (.alloc [(.slice none 0 0), (.slice none 0 0), (.slice none 0 0)]), on (.store 3 (.t p5) (.t p7))]) [] (.seq (.ops [oo p8 (.mv (.t p0)), oo p9 (.mv (.t p1)), oo p10 (.buildSlice 2 1 [(iI 0)] [(0, (.t p8)), (1, (.t p9))]), oo p11 (.buildSlice 1 1 [(.slice none 0 0)] [(0, (.t p10))]), oo p12 (.fieldAddr 1 (.t p5)), on (.store 1 (.t p12) (.t p11))]) [] (.seq (.ops [oo p13 (.loadN 3 (.t p5)), on (.store 3 (.t p4) (.t p13))]) [] .ret)))), none, none⟩
def f11 : CFunc := ⟨26, [.tmp p4], (.seq (.ops [oo p4 (.mv (.c (.bool false)))]) [] (.seq (.seq (.ops [oo p6 (.mv (.t p0)), oo p7 (.blt .len [(.t p6)]), oo p8 (.mv (.t p1)), oo p9 (.blt .len [(.t p8)]), oo p10 (.bin .neq .other (.t p7) (.t p9))]) [] (.cond (.t p10) (.seq (.ops [oo p4 (.mv (.c (.bool false)))]) [] .ret) .skip)) [] (.seq (.seq (.ops [oo p11 (.mv (.t p0)), oo p12 (.blt .len [(.t p11)]), oo p13 (.mv (.c (iI 0)))]) [] (.block 0 (.loop [] (.seq (.ops [oo p14 (.bin .lss .other (.t p13) (.t p12))]) [] (.seq (.cond (.t p14) .skip (.exit 0)) [] (.seq (.block 1 (.seq (.ops [oo p15 (.mv (.t p13)), oo p5 (.mv (.t p15))]) [] (.seq (.draw [oo p16 (.mv (.t p0)), oo p17 (.mv (.t p5)), oo p18 (.indexAddr 2 (.t p16) (.t p17)), oo p19 (.loadN 2 (.t p18)), oo p20 (.mv (.t p1)), oo p21 (.mv (.t p5)), oo p22 (.indexAddr 2 (.t p20) (.t p21)), oo p23 (.loadN 2 (.t p22)), oo p24 (.bin .neq (.leaves [0, 1]) (.t p19) (.t p23))]) [] (.cond (.t p24) (.seq (.ops [oo p4 (.mv (.c (.bool false)))]) [] .ret) .skip)))) [] (.ops [oo p25 (.bin .add .other (.t p13) (.c (iI 1))), oo p13 (.mv (.t p25))]))))))) [] (.seq (.ops [oo p4 (.mv (.c (.bool true)))]) [] .ret)))), none, none⟩
def f94 : CFunc := ⟨58, [.tmp p6], (.seq (.ops [oo p3 (.box (.t p0)), oo p4 (.box (.t p1)), oo p5 (.box (.t p2)), oo p6 (.mv (.c (.bool false)))]) [] (.seq (.seq (.ops [oo p7 (.fieldAddr 0 (.t p5)), oo p8 (.load1 (.t p7))]) [] (.block 0 (.seq (.ops [oo p10 (.bin .eql .other (.t p8) (.c (iI 1))), oo p9 (.mv (.t p10))]) [] (.cond (.t p9) (.seq (.ops [oo p11 (.fieldAddr 1 (.t p5)), oo p12 (.load1 (.t p11)), oo p13 (.bin .geq .other (.t p12) (.c (iI (-1000000000)))), oo p14 (.mv (.t p13)), og p15 (.fieldAddr 1 (.t p5)) p14 true, og p16 (.load1 (.t p15)) p14 true, og p17 (.bin .leq .other (.t p16) (.c (iI 1000000000))) p14 true, oo p18 (.pick (.t p14) (.t p17) (.c (.bool false))), oo p6 (.mv (.t p18))]) [] .ret) (.seq (.ops [oo p20 (.bin .eql .other (.t p8) (.c (iI 2))), oo p19 (.mv (.t p20))]) [] (.cond (.t p19) (.seq (.ops [oo p21 (.fieldAddr 1 (.t p5)), oo p22 (.load1 (.t p21)), oo p23 (.bin .geq .other (.t p22) (.c (iI 0))), oo p24 (.mv (.t p23)), og p25 (.fieldAddr 1 (.t p5)) p24 true, og p26 (.load1 (.t p25)) p24 true, og p27 (.fieldAddr 0 (.t p3)) p24 true, og p28 (.load1 (.t p27)) p24 true, og p29 (.blt .len [(.t p28)]) p24 true, og p30 (.bin .lss .other (.t p26) (.t p29)) p24 true, oo p31 (.pick (.t p24) (.t p30) (.c (.bool false))), oo p6 (.mv (.t p31))]) [] .ret) (.seq (.ops [oo p33 (.bin .eql .other (.t p8) (.c (iI 3))), oo p32 (.mv (.t p33))]) [] (.cond (.t p32) (.seq (.ops [oo p34 (.fieldAddr 1 (.t p5)), oo p35 (.load1 (.t p34)), oo p36 (.bin .geq .other (.t p35) (.c (iI 0))), oo p37 (.mv (.t p36)), og p38 (.fieldAddr 1 (.t p5)) p37 true, og p39 (.load1 (.t p38)) p37 true, og p40 (.fieldAddr 2 (.t p4)) p37 true, og p41 (.load1 (.t p40)) p37 true, og p42 (.blt .len [(.t p41)]) p37 true, og p43 (.bin .lss .other (.t p39) (.t p42)) p37 true, oo p44 (.pick (.t p37) (.t p43) (.c (.bool false))), oo p6 (.mv (.t p44))]) [] .ret) (.seq (.ops [oo p46 (.bin .eql .other (.t p8) (.c (iI 4))), oo p45 (.mv (.t p46))]) [] (.cond (.t p45) (.seq (.ops [oo p47 (.fieldAddr 1 (.t p5)), oo p48 (.load1 (.t p47)), oo p49 (.bin .geq .other (.t p48) (.c (iI 0))), oo p50 (.mv (.t p49)), og p51 (.fieldAddr 1 (.t p5)) p50 true, og p52 (.load1 (.t p51)) p50 true, og p53 (.fieldAddr 0 (.t p4)) p50 true, og p54 (.load1 (.t p53)) p50 true, og p55 (.blt .len [(.t p54)]) p50 true, og p56 (.bin .lss .other (.t p52) (.t p55)) p50 true, oo p57 (.pick (.t p50) (.t p56) (.c (.bool false))), oo p6 (.mv (.t p57))]) [] .ret) .skip)))))))))) [] (.seq (.ops [oo p6 (.mv (.c (.bool false)))]) [] .ret))), none, none⟩
def f46 : CFunc := ⟨8, [.tmp p2], (.seq (.ops [oo p2 (.mv (.c (.slice none 0 0)))]) [] (.seq (.seq (.ops [oo p3 (.mv (.t p0)), oo p4 (.bin .eql .slice (.t p3) (.c (.slice none 0 0)))]) [] (.cond (.t p4) (.seq (.ops [oo p2 (.mv (.c (.slice none 0 0)))]) [] .ret) .skip)) [] (.seq (.ops [oo p5 (.buildSlice 0 2 [(iI 0), (.bool false)] []), oo p6 (.mv (.t p0)), oo p7 (.blt (.append 2 16) [(.t p5), (.t p6)]), oo p2 (.mv (.t p7))]) [] .ret))), none, none⟩
def f47 : CFunc := ⟨77, [.tmp p8, .tmp p9], (.seq (.ops [oo p4 (.box (.t p0)), oo p5 (.box (.t p1)), oo p6 (.box (.t p2)), oo p8 (.mv (.c (.slice none 0 0))), oo p9 (.mv (.c .nilIface))]) [] (.seq (.ops [oo p19 (.load1 (.t p4)), oo p20 (.load1 (.t p5)), oo p21 (.load1 (.t p6)), oo p22 (.call (.c (.func (.func 79) #[] #[])) [(.t p19), (.t p20), (.t p21)]), oo p10 (.alloc [(.map none)]), on (.store 1 (.t p10) (.t p22))]) [] (.seq (.ops [oo p23 (.makeFunc (.func 80) [] [(.t p10)]), oo p11 (.alloc [.nilFunc]), on (.store 1 (.t p11) (.t p23))]) [] (.seq (.ops [oo p24 (.makeFunc (.func 82) [] [(.t p11), (.t p4)]), oo p25 (.makeFunc (.func 83) [] [(.t p11), (.t p4)]), oo p26 (.makeFunc (.func 84) [] [(.t p4), (.t p5), (.t p6)]), oo p27 (.build [.nilFunc, .nilFunc, .nilFunc, .nilFunc, .nilFunc] [(1, 1, (.c (.func (.func 81) #[] #[]))), (2, 1, (.t p24)), (3, 1, (.t p25)), (4, 1, (.t p26))]), oo p12 (.alloc [.nilFunc, .nilFunc, .nilFunc, .nilFunc, .nilFunc]), on (.store 5 (.t p12) (.t p27))]) [] (.seq (.ops [oo p13 (.mv (.c (.slice none 0 0)))]) [] (.seq (.seq (.ops [oo p28 (.load1 (.t p4)), oo p29 (.nilCheck (.t p28)), oo p30 (.fieldAddr 1 (.t p29)), oo p31 (.load1 (.t p30)), oo p32 (.nilCheck (.t p31)), oo p33 (.fieldAddr 4 (.t p32)), oo p34 (.load1 (.t p33)), oo p35 (.mv (.t p3)), oo p36 (.indexAddr 1 (.t p34) (.t p35)), oo p37 (.load1 (.t p36)), oo p38 (.blt .len [(.t p37)]), oo p39 (.mv (.c (iI 0)))]) [] (.block 0 (.loop [] (.seq (.ops [oo p40 (.bin .lss .other (.t p39) (.t p38))]) [] (.seq (.cond (.t p40) .skip (.exit 0)) [] (.seq (.block 1 (.seq (.ops [oo p41 (.indexAddr 4 (.t p37) (.t p39)), oo p42 (.loadN 4 (.t p41)), oo p15 (.alloc [(iI 0), (iI 0), (iI 0), (iI 0)]), on (.store 4 (.t p15) (.t p42))]) [] (.seq (.ops [oo p16 (.mv (.c (iI 0)))]) [] (.seq (.seq (.ops [oo p43 (.fieldAddr 0 (.t p15)), oo p44 (.load1 (.t p43)), oo p45 (.bin .neq .other (.t p44) (.c (iI 1)))]) [] (.cond (.t p45) (.seq (.draw [oo p46 (.load1 (.t p4)), oo p47 (.nilCheck (.t p46)), oo p48 (.fieldAddr 6 (.t p47)), oo p49 (.fieldAddr 0 (.t p48)), oo p50 (.load1 (.t p49)), oo p51 (.fieldAddr 1 (.t p15)), oo p52 (.load1 (.t p51)), oo p53 (.call (.c (.func (.func 86) #[] #[])) [(.t p50), (.t p52)]), ⟨(some p16), .mv (.t p53), none, 1⟩]) [] (.seq (.ops [oo p54 (.mv (.t p16)), oo p55 (.bin .lss .other (.t p54) (.c (iI 0)))]) [] (.cond (.t p55) (.seq (.ops [oo p56 (.build [(.string ⟨#[]⟩)] [(0, 1, (.c (.string ⟨#[116, 104, 101, 114, 101, 32, 105, 115, 32, 110, 111, 32, 115, 117, 99, 104, 32, 100, 101, 102, 105, 110, 105, 116, 105, 111, 110]⟩)))]), oo p57 (.mkI 100 (.t p56)), oo p8 (.mv (.c (.slice none 0 0))), oo p9 (.mv (.t p57))]) [] .ret) .skip))) .skip)) [] (.seq (.draw [oo p59 (.fieldAddr 0 (.t p15)), oo p60 (.load1 (.t p59)), oo p61 (.indexArr 5 1 (.t p12) (.t p60)), oo p62 (.load1 (.t p61)), oo p63 (.mv (.t p16)), oo p64 (.loadN 4 (.t p15)), oo p65 (.call (.t p62) [(.t p63), (.t p64)]), ⟨(some p58), .mv (.t p65), none, 1⟩, ⟨(some p66), .extract (.t p58) 0, none, 1⟩, oo p17 (.alloc [(iI 0), (iI 0)]), ⟨none, .store 2 (.t p17) (.t p66), none, 1⟩, ⟨(some p67), .extract (.t p58) 1, none, 1⟩, ⟨(some p18), .mv (.t p67), none, 2⟩]) [] (.seq (.seq (.ops [oo p68 (.mv (.t p18)), oo p69 (.bin .neq (.iface true) (.t p68) (.c .nilIface))]) [] (.cond (.t p69) (.seq (.ops [oo p70 (.mv (.t p18)), oo p8 (.mv (.c (.slice none 0 0))), oo p9 (.mv (.t p70))]) [] .ret) .skip)) [] (.ops [oo p71 (.mv (.t p13)), oo p72 (.loadN 2 (.t p17)), oo p73 (.buildSlice 1 2 [(iI 0), (iI 0)] [(0, (.t p72))]), oo p74 (.blt (.append 2 16) [(.t p71), (.t p73)]), oo p13 (.mv (.t p74))]))))))) [] (.ops [oo p75 (.bin .add .other (.t p39) (.c (iI 1))), oo p39 (.mv (.t p75))]))))))) [] (.seq (.ops [oo p76 (.mv (.t p13)), oo p8 (.mv (.t p76)), oo p9 (.mv (.c .nilIface))]) [] .ret))))))), none, none⟩
def f49 : CFunc := ⟨94, [.tmp p6, .tmp p7], (.seq (.ops [oo p5 (.box (.t p2)), oo p6 (.mv (.c (.slice none 0 0))), oo p7 (.mv (.c .nilIface))]) [] (.seq (.draw [oo p16 (.mv (.t p0)), oo p17 (.nilCheck (.t p16)), oo p18 (.fieldAddr 1 (.t p17)), oo p19 (.load1 (.t p18)), oo p20 (.nilCheck (.t p19)), oo p21 (.fieldAddr 0 (.t p20)), oo p22 (.fieldAddr 2 (.t p21)), oo p23 (.load1 (.t p22)), oo p24 (.fieldAddr 0 (.t p5)), oo p25 (.load1 (.t p24)), oo p26 (.indexAddr 3 (.t p23) (.t p25)), oo p27 (.loadN 3 (.t p26)), oo p8 (.alloc [(.slice none 0 0), (.slice none 0 0), (.slice none 0 0)]), on (.store 3 (.t p8) (.t p27))]) [] (.seq (.ops [oo p28 (.fieldAddr 2 (.t p5)), oo p29 (.load1 (.t p28)), oo p30 (.fieldAddr 2 (.t p5)), oo p31 (.load1 (.t p30)), oo p32 (.blt .len [(.t p31)]), oo p33 (.fieldAddr 1 (.t p8)), oo p34 (.load1 (.t p33)), oo p35 (.blt .len [(.t p34)]), oo p36 (.bin .sub .other (.t p32) (.t p35)), oo p37 (.slice 2 (.t p29) (some (.t p36)) none), oo p9 (.mv (.t p37))]) [] (.seq (.ops [oo p10 (.mv (.c (.slice none 0 0)))]) [] (.seq (.seq (.ops [oo p38 (.fieldAddr 0 (.t p8)), oo p39 (.load1 (.t p38)), oo p40 (.blt .len [(.t p39)]), oo p41 (.mv (.c (iI 0)))]) [] (.block 0 (.loop [] (.seq (.ops [oo p42 (.bin .lss .other (.t p41) (.t p40))]) [] (.seq (.cond (.t p42) .skip (.exit 0)) [] (.seq (.block 1 (.seq (.ops [oo p43 (.mv (.t p41)), oo p44 (.indexAddr 2 (.t p39) (.t p41)), oo p45 (.loadN 2 (.t p44)), oo p12 (.alloc [(iI 0), (iI 0)]), oo p11 (.mv (.t p43)), on (.store 2 (.t p12) (.t p45))]) [] (.seq (.ops [oo p47 (.mv (.t p0)), oo p48 (.mv (.t p1)), oo p49 (.mv (.t p11)), oo p50 (.call (.c (.func (.func 87) #[] #[])) [(.t p47), (.t p48), (.t p49)]), oo p46 (.mv (.t p50)), oo p51 (.extract (.t p46) 0), oo p52 (.extract (.t p46) 1), oo p13 (.mv (.t p51)), oo p14 (.mv (.t p52))]) [] (.seq (.seq (.ops [oo p53 (.mv (.t p14)), oo p54 (.bin .neq (.iface true) (.t p53) (.c .nilIface))]) [] (.cond (.t p54) (.seq (.ops [oo p55 (.mv (.t p14)), oo p6 (.mv (.c (.slice none 0 0))), oo p7 (.mv (.t p55))]) [] .ret) .skip)) [] (.seq (.ops [oo p56 (.fieldAddr 1 (.t p5)), oo p57 (.load1 (.t p56)), oo p15 (.mv (.t p57))]) [] (.seq (.seq (.ops [oo p58 (.fieldAddr 0 (.t p12)), oo p59 (.load1 (.t p58)), oo p60 (.bin .gtr .other (.t p59) (.c (iI 0)))]) [] (.cond (.t p60) (.ops [oo p61 (.mv (.t p9)), oo p62 (.fieldAddr 0 (.t p12)), oo p63 (.load1 (.t p62)), oo p64 (.bin .sub .other (.t p63) (.c (iI 1))), oo p65 (.indexAddr 2 (.t p61) (.t p64)), oo p66 (.fieldAddr 1 (.t p65)), oo p67 (.load1 (.t p66)), oo p15 (.mv (.t p67))]) .skip)) [] (.seq (.seq (.ops [oo p68 (.mv (.t p13)), oo p69 (.blt .len [(.t p68)]), oo p70 (.bin .gtr .other (.t p69) (.c (iI 0))), oo p71 (.mv (.t p70)), og p72 (.mv (.t p0)) p71 true, og p73 (.nilCheck (.t p72)) p71 true, og p74 (.fieldAddr 2 (.t p73)) p71 true, og p75 (.fieldAddr 0 (.t p74)) p71 true, og p76 (.load1 (.t p75)) p71 true, og p77 (.mv (.t p15)) p71 true, og p78 (.indexAddr 2 (.t p76) (.t p77)) p71 true, og p79 (.fieldAddr 1 (.t p78)) p71 true, og p80 (.load1 (.t p79)) p71 true, oo p81 (.pick (.t p71) (.t p80) (.c (.bool false)))]) [] (.cond (.t p81) (.seq (.ops [oo p82 (.build [(.string ⟨#[]⟩)] [(0, 1, (.c (.string ⟨#[97, 32, 99, 104, 97, 110, 110, 101, 108, 32, 105, 110, 32, 97, 32, 100, 101, 97, 100, 32, 112, 108, 97, 99, 101]⟩)))]), oo p83 (.mkI 100 (.t p82)), oo p6 (.mv (.c (.slice none 0 0))), oo p7 (.mv (.t p83))]) [] .ret) .skip)) [] (.ops [oo p84 (.mv (.t p10)), oo p85 (.mv (.t p1)), oo p86 (.mv (.t p11)), oo p87 (.mv (.t p15)), oo p88 (.mv (.t p13)), oo p89 (.build [(iI 0), (iI 0), (iI 0), (.slice none 0 0)] [(0, 1, (.t p85)), (1, 1, (.t p86)), (2, 1, (.t p87)), (3, 1, (.t p88))]), oo p90 (.buildSlice 1 4 [(iI 0), (iI 0), (iI 0), (.slice none 0 0)] [(0, (.t p89))]), oo p91 (.blt (.append 4 48) [(.t p84), (.t p90)]), oo p10 (.mv (.t p91))])))))))) [] (.ops [oo p92 (.bin .add .other (.t p41) (.c (iI 1))), oo p41 (.mv (.t p92))]))))))) [] (.seq (.ops [oo p93 (.mv (.t p10)), oo p6 (.mv (.t p93)), oo p7 (.mv (.c .nilIface))]) [] .ret)))))), none, none⟩
def f56 : CFunc := ⟨29, [.tmp p4], (.seq (.ops [oo p4 (.mv (.c (.bool false)))]) [] (.seq (.seq (.ops [oo p6 (.mv (.t p0)), oo p7 (.blt .len [(.t p6)]), oo p8 (.mv (.t p1)), oo p9 (.blt .len [(.t p8)]), oo p10 (.bin .neq .other (.t p7) (.t p9))]) [] (.cond (.t p10) (.seq (.ops [oo p4 (.mv (.c (.bool false)))]) [] .ret) .skip)) [] (.seq (.seq (.ops [oo p5 (.mv (.c (iI 0)))]) [] (.block 0 (.loop [] (.seq (.seq (.ops [oo p11 (.mv (.t p5)), oo p12 (.mv (.t p0)), oo p13 (.blt .len [(.t p12)]), oo p14 (.bin .lss .other (.t p11) (.t p13))]) [] (.cond (.t p14) .skip (.exit 0))) [] (.seq (.block 1 (.seq (.draw [oo p17 (.mv (.t p0)), oo p18 (.mv (.t p5)), oo p19 (.indexAddr 1 (.t p17) (.t p18)), oo p20 (.fieldAddr 0 (.t p19)), oo p21 (.load1 (.t p20)), oo p22 (.mv (.t p1)), oo p23 (.mv (.t p5)), oo p24 (.indexAddr 1 (.t p22) (.t p23)), oo p25 (.fieldAddr 0 (.t p24)), oo p26 (.load1 (.t p25)), oo p27 (.call (.c (.func (.func 55) #[] #[])) [(.t p21), (.t p26)]), ⟨(some p28), .un .not (.t p27), none, 1⟩]) [] (.cond (.t p28) (.seq (.ops [oo p4 (.mv (.c (.bool false)))]) [] .ret) .skip))) [] (.ops [oo p15 (.mv (.t p5)), oo p16 (.bin .add .other (.t p15) (.c (iI 1))), oo p5 (.mv (.t p16))])))))) [] (.seq (.ops [oo p4 (.mv (.c (.bool true)))]) [] .ret)))), none, none⟩
def f65 : CFunc := ⟨131, [], (.seq (.ops [oo p5 (.box (.t p1))]) [] (.seq (.ops [oo p8 (.mv (.c (.slice none 0 0)))]) [] (.seq (.seq (.ops [oo p9 (.mv (.c (iI 0)))]) [] (.block 0 (.loop [] (.seq (.seq (.ops [oo p13 (.mv (.t p9)), oo p14 (.fieldAddr 2 (.t p5)), oo p15 (.load1 (.t p14)), oo p16 (.blt .len [(.t p15)]), oo p17 (.bin .lss .other (.t p13) (.t p16))]) [] (.cond (.t p17) .skip (.exit 0))) [] (.seq (.block 1 (.ops [oo p20 (.mv (.t p8)), oo p21 (.fieldAddr 2 (.t p5)), oo p22 (.load1 (.t p21)), oo p23 (.mv (.t p9)), oo p24 (.indexAddr 3 (.t p22) (.t p23)), oo p25 (.loadN 3 (.t p24)), oo p26 (.mv (.t p3)), oo p27 (.call (.c (.func (.func 68) #[] #[])) [(.t p25), (.t p26)]), oo p28 (.buildSlice 1 2 [(iI 0), (iI 0)] [(0, (.t p27))]), oo p29 (.blt (.append 2 16) [(.t p20), (.t p28)]), oo p8 (.mv (.t p29))])) [] (.ops [oo p18 (.mv (.t p9)), oo p19 (.bin .add .other (.t p18) (.c (iI 1))), oo p9 (.mv (.t p19))])))))) [] (.seq (.ops [oo p30 (.mv (.t p3)), oo p31 (.fieldAddr 1 (.t p5)), oo p32 (.load1 (.t p31)), oo p33 (.indexAddr 2 (.t p30) (.t p32)), oo p34 (.loadN 2 (.t p33)), oo p10 (.alloc [(iI 0), (iI 0)]), on (.store 2 (.t p10) (.t p34))]) [] (.seq (.seq (.ops [oo p35 (.fieldAddr 0 (.t p10)), oo p36 (.load1 (.t p35)), oo p37 (.bin .eql .other (.t p36) (.c (iI 2)))]) [] (.cond (.t p37) (.seq (.draw [oo p39 (.mv (.t p0)), oo p40 (.nilCheck (.t p39)), oo p41 (.fieldAddr 8 (.t p40)), oo p42 (.load1 (.t p41)), oo p43 (.mv (.t p2)), oo p44 (.fieldAddr 1 (.t p10)), oo p45 (.load1 (.t p44)), oo p46 (.mv (.t p8)), oo p47 (.build [(iI 0), (iI 0), (iI 0), (iI 0), (.slice none 0 0)] [(0, 1, (.c (iI 5))), (1, 1, (.t p43)), (2, 1, (.t p45)), (4, 1, (.t p46))]), oo p48 (.buildSlice 1 5 [(iI 0), (iI 0), (iI 0), (iI 0), (.slice none 0 0)] [(0, (.t p47))]), oo p49 (.blt (.append 5 56) [(.t p42), (.t p48)]), oo p38 (.mv (.t p0)), ⟨(some p50), .nilCheck (.t p38), none, 1⟩, ⟨(some p51), .fieldAddr 8 (.t p50), none, 1⟩, ⟨none, .store 1 (.t p51) (.t p49), none, 1⟩]) [] .ret) .skip)) [] (.seq (.seq (.ops [oo p52 (.fieldAddr 0 (.t p10)), oo p53 (.load1 (.t p52)), oo p54 (.bin .neq .other (.t p53) (.c (iI 3)))]) [] (.cond (.t p54) .ret .skip)) [] (.seq (.draw [oo p55 (.mv (.t p0)), oo p56 (.nilCheck (.t p55)), oo p57 (.fieldAddr 4 (.t p56)), oo p58 (.fieldAddr 2 (.t p57)), oo p59 (.load1 (.t p58)), oo p60 (.fieldAddr 1 (.t p10)), oo p61 (.load1 (.t p60)), oo p62 (.indexAddr 4 (.t p59) (.t p61)), oo p63 (.loadN 4 (.t p62)), oo p11 (.alloc [(iI 0), (iI 0), (iI 0), (.slice none 0 0)]), on (.store 4 (.t p11) (.t p63))]) [] (.seq (.draw [oo p64 (.mv (.t p0)), oo p65 (.nilCheck (.t p64)), oo p66 (.fieldAddr 4 (.t p65)), oo p67 (.fieldAddr 1 (.t p66)), oo p68 (.load1 (.t p67)), oo p69 (.fieldAddr 0 (.t p11)), oo p70 (.load1 (.t p69)), oo p71 (.indexAddr 3 (.t p68) (.t p70)), oo p72 (.loadN 3 (.t p71)), oo p12 (.alloc [(iI 0), (iI 0), (.slice none 0 0)]), on (.store 3 (.t p12) (.t p72))]) [] (.seq (.seq (.draw [oo p73 (.mv (.t p0)), oo p74 (.nilCheck (.t p73)), oo p75 (.fieldAddr 4 (.t p74)), oo p76 (.fieldAddr 0 (.t p75)), oo p77 (.load1 (.t p76)), oo p78 (.fieldAddr 2 (.t p11)), oo p79 (.load1 (.t p78)), oo p80 (.indexAddr 2 (.t p77) (.t p79)), oo p81 (.fieldAddr 1 (.t p80)), oo p82 (.load1 (.t p81)), oo p83 (.mv (.t p82)), og p84 (.mv (.t p0)) p83 false, og p85 (.nilCheck (.t p84)) p83 false, og p86 (.fieldAddr 0 (.t p85)) p83 false, og p87 (.fieldAddr 2 (.t p86)) p83 false, og p88 (.load1 (.t p87)) p83 false, og p89 (.fieldAddr 0 (.t p12)) p83 false, og p90 (.load1 (.t p89)) p83 false, og p91 (.indexAddr 3 (.t p88) (.t p90)) p83 false, og p92 (.fieldAddr 0 (.t p91)) p83 false, og p93 (.load1 (.t p92)) p83 false, og p94 (.fieldAddr 1 (.t p11)) p83 false, og p95 (.load1 (.t p94)) p83 false, og p96 (.indexAddr 2 (.t p93) (.t p95)) p83 false, og p97 (.fieldAddr 1 (.t p96)) p83 false, og p98 (.load1 (.t p97)) p83 false, og p99 (.mv (.t p8)) p83 false, og p100 (.blt .len [(.t p99)]) p83 false, og p101 (.bin .neq .other (.t p98) (.t p100)) p83 false, oo p102 (.pick (.t p83) (.c (.bool true)) (.t p101))]) [] (.cond (.t p102) .ret .skip)) [] (.seq (.draw [oo p110 (.fieldAddr 3 (.t p11)), oo p111 (.load1 (.t p110)), oo p112 (.mv (.t p8)), oo p113 (.build [(.slice none 0 0)] [(0, 1, (.t p112))]), oo p114 (.buildSlice 1 1 [(.slice none 0 0)] [(0, (.t p113))]), oo p115 (.blt (.append 1 24) [(.t p111), (.t p114)]), oo p103 (.mv (.t p0)), oo p104 (.nilCheck (.t p103)), oo p105 (.fieldAddr 4 (.t p104)), oo p106 (.fieldAddr 2 (.t p105)), oo p107 (.load1 (.t p106)), oo p108 (.fieldAddr 1 (.t p10)), oo p109 (.load1 (.t p108)), ⟨(some p116), .indexAddr 4 (.t p107) (.t p109), none, 1⟩, ⟨(some p117), .fieldAddr 3 (.t p116), none, 1⟩, ⟨none, .store 1 (.t p117) (.t p115), none, 1⟩]) [] (.ops [oo p118 (.mv (.t p0)), oo p119 (.mv (.t p0)), oo p120 (.nilCheck (.t p119)), oo p121 (.fieldAddr 10 (.t p120)), oo p122 (.load1 (.t p121)), oo p123 (.mv (.t p122)), og p124 (.fieldAddr 3 (.t p11)) p123 false, og p125 (.load1 (.t p124)) p123 false, og p126 (.blt .len [(.t p125)]) p123 false, og p127 (.bin .geq .other (.t p126) (.c (iI 12))) p123 false, oo p128 (.pick (.t p123) (.c (.bool true)) (.t p127)), oo p129 (.nilCheck (.t p118)), oo p130 (.fieldAddr 10 (.t p129)), on (.store 1 (.t p130) (.t p128))]))))))))))), none, none⟩
def f68 : CFunc := ⟨66, [.cell (some 2) p4], (.seq (.ops [oo p2 (.box (.t p0)), oo p4 (.alloc [(iI 0), (iI 0)])]) [] (.seq (.seq (.ops [oo p8 (.fieldAddr 0 (.t p2)), oo p9 (.load1 (.t p8))]) [] (.block 0 (.seq (.ops [oo p11 (.bin .eql .other (.t p9) (.c (iI 1))), oo p10 (.mv (.t p11))]) [] (.cond (.t p10) (.seq (.ops [oo p12 (.fieldAddr 1 (.t p2)), oo p13 (.load1 (.t p12)), oo p14 (.build [(iI 0), (iI 0)] [(0, 1, (.c (iI 1))), (1, 1, (.t p13))]), on (.store 2 (.t p4) (.t p14))]) [] .ret) (.seq (.ops [oo p16 (.bin .eql .other (.t p9) (.c (iI 2))), oo p15 (.mv (.t p16))]) [] (.cond (.t p15) (.seq (.ops [oo p17 (.mv (.t p1)), oo p18 (.fieldAddr 1 (.t p2)), oo p19 (.load1 (.t p18)), oo p20 (.indexAddr 2 (.t p17) (.t p19)), oo p21 (.loadN 2 (.t p20)), on (.store 2 (.t p4) (.t p21))]) [] .ret) .skip)))))) [] (.seq (.draw [oo p22 (.fieldAddr 2 (.t p2)), oo p23 (.load1 (.t p22)), oo p24 (.indexAddr 3 (.t p23) (.c (iI 0))), oo p25 (.loadN 3 (.t p24)), oo p26 (.mv (.t p1)), oo p27 (.call (.c (.func (.func 68) #[] #[])) [(.t p25), (.t p26)]), ⟨(some p28), .call (.c (.func (.func 67) #[] #[])) [(.t p27)], none, 1⟩, oo p29 (.fieldAddr 2 (.t p2)), oo p30 (.load1 (.t p29)), oo p31 (.indexAddr 3 (.t p30) (.c (iI 1))), oo p32 (.loadN 3 (.t p31)), oo p33 (.mv (.t p1)), ⟨(some p34), .call (.c (.func (.func 68) #[] #[])) [(.t p32), (.t p33)], none, 2⟩, ⟨(some p35), .call (.c (.func (.func 67) #[] #[])) [(.t p34)], none, 3⟩, ⟨(some p5), .mv (.t p28), none, 4⟩, ⟨(some p6), .mv (.t p35), none, 4⟩]) [] (.seq (.ops [oo p7 (.mv (.c (iI 0)))]) [] (.seq (.seq (.ops [oo p36 (.fieldAddr 0 (.t p2)), oo p37 (.load1 (.t p36))]) [] (.block 1 (.seq (.ops [oo p39 (.bin .eql .other (.t p37) (.c (iI 3))), oo p38 (.mv (.t p39))]) [] (.cond (.t p38) (.ops [oo p40 (.mv (.t p5)), oo p41 (.mv (.t p6)), oo p42 (.bin .add .other (.t p40) (.t p41)), oo p7 (.mv (.t p42))]) (.seq (.ops [oo p44 (.bin .eql .other (.t p37) (.c (iI 4))), oo p43 (.mv (.t p44))]) [] (.cond (.t p43) (.ops [oo p45 (.mv (.t p5)), oo p46 (.mv (.t p6)), oo p47 (.bin .sub .other (.t p45) (.t p46)), oo p7 (.mv (.t p47))]) (.seq (.ops [oo p49 (.bin .eql .other (.t p37) (.c (iI 5))), oo p48 (.mv (.t p49))]) [] (.cond (.t p48) (.ops [oo p50 (.mv (.t p5)), oo p51 (.mv (.t p6)), oo p52 (.bin .mul .other (.t p50) (.t p51)), oo p7 (.mv (.t p52))]) (.seq (.ops [oo p54 (.bin .eql .other (.t p37) (.c (iI 6))), oo p53 (.mv (.t p54))]) [] (.cond (.t p53) (.seq (.ops [oo p55 (.mv (.t p5)), oo p56 (.mv (.t p6)), oo p57 (.bin .lss .other (.t p55) (.t p56))]) [] (.cond (.t p57) (.ops [oo p7 (.mv (.c (iI 1)))]) .skip)) (.seq (.ops [oo p59 (.bin .eql .other (.t p37) (.c (iI 7))), oo p58 (.mv (.t p59))]) [] (.cond (.t p58) (.seq (.ops [oo p60 (.mv (.t p5)), oo p61 (.mv (.t p6)), oo p62 (.bin .eql .other (.t p60) (.t p61))]) [] (.cond (.t p62) (.ops [oo p7 (.mv (.c (iI 1)))]) .skip)) .skip)))))))))))) [] (.seq (.ops [oo p63 (.mv (.t p7)), oo p64 (.call (.c (.func (.func 95) #[] #[])) [(.t p63)]), oo p65 (.build [(iI 0), (iI 0)] [(0, 1, (.c (iI 1))), (1, 1, (.t p64))]), on (.store 2 (.t p4) (.t p65))]) [] .ret)))))), none, none⟩
def f79 : CFunc := ⟨104, [.tmp p6], (.seq (.ops [oo p6 (.mv (.c (.map none)))]) [] (.seq (.ops [oo p16 (.makeMap), oo p7 (.mv (.t p16))]) [] (.seq (.seq (.ops [oo p17 (.mv (.t p0)), oo p18 (.nilCheck (.t p17)), oo p19 (.fieldAddr 0 (.t p18)), oo p20 (.load1 (.t p19)), oo p21 (.nilCheck (.t p20)), oo p22 (.fieldAddr 4 (.t p21)), oo p23 (.load1 (.t p22)), oo p24 (.mv (.t p1)), oo p25 (.indexAddr 1 (.t p23) (.t p24)), oo p26 (.load1 (.t p25)), oo p27 (.blt .len [(.t p26)]), oo p28 (.mv (.c (iI 0)))]) [] (.block 0 (.loop [] (.seq (.ops [oo p29 (.bin .lss .other (.t p28) (.t p27))]) [] (.seq (.cond (.t p29) .skip (.exit 0)) [] (.seq (.block 1 (.seq (.ops [oo p30 (.mv (.t p28)), oo p31 (.indexAddr 4 (.t p26) (.t p28)), oo p32 (.loadN 4 (.t p31)), oo p9 (.alloc [(iI 0), (iI 0), (iI 0), (iI 0)]), oo p8 (.mv (.t p30)), on (.store 4 (.t p9) (.t p32))]) [] (.seq (.ops [oo p33 (.fieldAddr 0 (.t p9)), oo p34 (.load1 (.t p33)), oo p35 (.bin .eql .other (.t p34) (.c (iI 2))), oo p36 (.mv (.t p35)), og p37 (.fieldAddr 0 (.t p9)) p36 false, og p38 (.load1 (.t p37)) p36 false, og p39 (.bin .eql .other (.t p38) (.c (iI 3))) p36 false, oo p40 (.pick (.t p36) (.c (.bool true)) (.t p39))]) [] (.cond (.t p40) (.draw [oo p44 (.mv (.t p7)), oo p45 (.fieldAddr 1 (.t p9)), oo p46 (.load1 (.t p45)), oo p47 (.lookup .int (.slice none 0 0) false (.t p44) (.t p46)), oo p48 (.mv (.t p2)), oo p49 (.mv (.t p8)), oo p50 (.indexAddr 2 (.t p48) (.t p49)), oo p51 (.loadN 2 (.t p50)), oo p52 (.buildSlice 1 2 [(iI 0), (iI 0)] [(0, (.t p51))]), oo p53 (.blt (.append 2 16) [(.t p47), (.t p52)]), oo p41 (.mv (.t p7)), oo p42 (.fieldAddr 1 (.t p9)), oo p43 (.load1 (.t p42)), ⟨none, .mapUpdate .int (.t p41) (.t p43) (.t p53), none, 1⟩]) .skip)))) [] (.ops [oo p54 (.bin .add .other (.t p28) (.c (iI 1))), oo p28 (.mv (.t p54))]))))))) [] (.seq (.ops [oo p55 (.makeMap), oo p10 (.mv (.t p55))]) [] (.seq (.seq (.ops [oo p56 (.mv (.t p0)), oo p57 (.nilCheck (.t p56)), oo p58 (.fieldAddr 2 (.t p57)), oo p59 (.fieldAddr 1 (.t p58)), oo p60 (.load1 (.t p59)), oo p61 (.blt .len [(.t p60)]), oo p62 (.mv (.c (iI 0)))]) [] (.block 2 (.loop [] (.seq (.ops [oo p63 (.bin .lss .other (.t p62) (.t p61))]) [] (.seq (.cond (.t p63) .skip (.exit 2)) [] (.seq (.block 3 (.seq (.ops [oo p64 (.mv (.t p62)), oo p65 (.indexAddr 3 (.t p60) (.t p62)), oo p66 (.loadN 3 (.t p65)), oo p12 (.alloc [(iI 0), (iI 0), (.slice none 0 0)]), oo p11 (.mv (.t p64)), on (.store 3 (.t p12) (.t p66))]) [] (.seq (.ops [oo p67 (.mv (.t p7)), oo p68 (.fieldAddr 0 (.t p12)), oo p69 (.load1 (.t p68)), oo p70 (.lookup .int (.slice none 0 0) false (.t p67) (.t p69)), oo p13 (.mv (.t p70))]) [] (.seq (.ops [oo p72 (.mv (.t p10)), oo p73 (.fieldAddr 0 (.t p12)), oo p74 (.load1 (.t p73)), oo p75 (.lookup .int (iI 0) true (.t p72) (.t p74)), oo p71 (.mv (.t p75)), oo p76 (.extract (.t p71) 0), oo p77 (.extract (.t p71) 1), oo p14 (.mv (.t p76)), oo p15 (.mv (.t p77))]) [] (.seq (.ops [oo p78 (.mv (.t p15)), oo p79 (.un .not (.t p78)), oo p80 (.mv (.t p79)), og p81 (.mv (.t p13)) p80 true, og p82 (.blt .len [(.t p81)]) p80 true, og p83 (.bin .gtr .other (.t p82) (.c (iI 0))) p80 true, oo p84 (.pick (.t p80) (.t p83) (.c (.bool false))), oo p85 (.mv (.t p84)), og p86 (.fieldAddr 2 (.t p12)) p85 true, og p87 (.load1 (.t p86)) p85 true, og p88 (.fieldAddr 2 (.t p12)) p85 true, og p89 (.load1 (.t p88)) p85 true, og p90 (.blt .len [(.t p89)]) p85 true, og p91 (.mv (.t p13)) p85 true, og p92 (.blt .len [(.t p91)]) p85 true, og p93 (.bin .sub .other (.t p90) (.t p92)) p85 true, og p94 (.slice 2 (.t p87) (some (.t p93)) none) p85 true, og p95 (.mv (.t p13)) p85 true, og p96 (.call (.c (.func (.func 11) #[] #[])) [(.t p94), (.t p95)]) p85 true, oo p97 (.pick (.t p85) (.t p96) (.c (.bool false)))]) [] (.cond (.t p97) (.ops [oo p98 (.mv (.t p10)), oo p99 (.fieldAddr 0 (.t p12)), oo p100 (.load1 (.t p99)), oo p101 (.mv (.t p11)), on (.mapUpdate .int (.t p98) (.t p100) (.t p101))]) .skip)))))) [] (.ops [oo p102 (.bin .add .other (.t p62) (.c (iI 1))), oo p62 (.mv (.t p102))]))))))) [] (.seq (.ops [oo p103 (.mv (.t p10)), oo p6 (.mv (.t p103))]) [] .ret)))))), none, none⟩
def f81 : CFunc := ⟨9, [.cell (some 2) p4, .tmp p5], (.seq (.ops [oo p3 (.box (.t p1)), oo p4 (.alloc [(iI 0), (iI 0)]), oo p5 (.mv (.c .nilIface))]) [] (.seq (.ops [oo p6 (.fieldAddr 2 (.t p3)), oo p7 (.load1 (.t p6)), oo p8 (.build [(iI 0), (iI 0)] [(0, 1, (.c (iI 2))), (1, 1, (.t p7))]), on (.store 2 (.t p4) (.t p8)), oo p5 (.mv (.c .nilIface))]) [] .ret)), none, none⟩
def f9 : CFunc := ⟨21, [.cell (some 4) p0], (.seq (.ops [oo p0 (.alloc [(.slice none 0 0), (.slice none 0 0), (.slice none 0 0), (iI 0)])]) [] (.seq (.ops [oo p2 (.call (.c (.func (.func 4) #[] #[])) []), oo p1 (.alloc [(.slice none 0 0), (.slice none 0 0), (.slice none 0 0), (iI 0)]), on (.store 4 (.t p1) (.t p2))]) [] (.seq (.ops [oo p3 (.build [(iI 0), (iI 0)] []), oo p4 (.build [(iI 0), (iI 0)] [(1, 1, (.c (iI 1)))]), oo p5 (.buildSlice 2 2 [(iI 0), (iI 0)] [(0, (.t p3)), (1, (.t p4))]), oo p6 (.buildSlice 2 1 [(iI 0)] [(0, (.c (iI 1))), (1, (.c (iI 0)))]), oo p7 (.build [(iI 0), (.slice none 0 0), (iI 0)] [(1, 1, (.t p6)), (2, 1, (.c (iI 1)))]), oo p8 (.buildSlice 1 3 [(iI 0), (.slice none 0 0), (iI 0)] [(0, (.t p7))]), oo p9 (.build [(.slice none 0 0), (.slice none 0 0), (.slice none 0 0)] [(0, 1, (.t p5)), (2, 1, (.t p8))]), oo p10 (.buildSlice 1 3 [(.slice none 0 0), (.slice none 0 0), (.slice none 0 0)] [(0, (.t p9))]), oo p11 (.fieldAddr 2 (.t p1)), on (.store 1 (.t p11) (.t p10))]) [] (.seq (.ops [oo p12 (.fieldAddr 1 (.t p1)), oo p13 (.load1 (.t p12)), oo p14 (.indexAddr 4 (.t p13) (.c (iI 3))), oo p15 (.fieldAddr 1 (.t p14)), on (.store 1 (.t p15) (.c (iI 2)))]) [] (.seq (.ops [oo p16 (.fieldAddr 1 (.t p1)), oo p17 (.load1 (.t p16)), oo p18 (.indexAddr 4 (.t p17) (.c (iI 4))), oo p19 (.fieldAddr 1 (.t p18)), on (.store 1 (.t p19) (.c (iI 2)))]) [] (.seq (.ops [oo p20 (.loadN 4 (.t p1)), on (.store 4 (.t p0) (.t p20))]) [] .ret)))))), none, none⟩
def f54 : CFunc := ⟨15, [.tmp p2], (.seq (.ops [oo p2 (.mv (.c (.slice none 0 0)))]) [] (.seq (.ops [oo p3 (.mv (.c (.slice none 0 0)))]) [] (.seq (.seq (.ops [oo p5 (.mv (.t p0)), oo p6 (.mv (.c (iI 0)))]) [] (.block 0 (.loop [] (.seq (.ops [oo p7 (.bin .lss .other (.t p6) (.t p5))]) [] (.seq (.cond (.t p7) .skip (.exit 0)) [] (.seq (.block 1 (.seq (.ops [oo p8 (.mv (.t p6)), oo p4 (.mv (.t p8))]) [] (.ops [oo p9 (.mv (.t p3)), oo p10 (.mv (.t p4)), oo p11 (.buildSlice 1 1 [(iI 0)] [(0, (.t p10))]), oo p12 (.blt (.append 1 8) [(.t p9), (.t p11)]), oo p3 (.mv (.t p12))]))) [] (.ops [oo p13 (.bin .add .other (.t p6) (.c (iI 1))), oo p6 (.mv (.t p13))]))))))) [] (.seq (.ops [oo p14 (.mv (.t p3)), oo p2 (.mv (.t p14))]) [] .ret)))), none, none⟩
def f57 : CFunc := ⟨26, [.tmp p4], (.seq (.ops [oo p4 (.mv (.c (.bool false)))]) [] (.seq (.seq (.ops [oo p6 (.mv (.t p0)), oo p7 (.blt .len [(.t p6)]), oo p8 (.mv (.t p1)), oo p9 (.blt .len [(.t p8)]), oo p10 (.bin .neq .other (.t p7) (.t p9))]) [] (.cond (.t p10) (.seq (.ops [oo p4 (.mv (.c (.bool false)))]) [] .ret) .skip)) [] (.seq (.seq (.ops [oo p5 (.mv (.c (iI 0)))]) [] (.block 0 (.loop [] (.seq (.seq (.ops [oo p11 (.mv (.t p5)), oo p12 (.mv (.t p0)), oo p13 (.blt .len [(.t p12)]), oo p14 (.bin .lss .other (.t p11) (.t p13))]) [] (.cond (.t p14) .skip (.exit 0))) [] (.seq (.block 1 (.seq (.draw [oo p17 (.mv (.t p0)), oo p18 (.mv (.t p5)), oo p19 (.indexAddr 1 (.t p17) (.t p18)), oo p20 (.load1 (.t p19)), oo p21 (.mv (.t p1)), oo p22 (.mv (.t p5)), oo p23 (.indexAddr 1 (.t p21) (.t p22)), oo p24 (.load1 (.t p23)), oo p25 (.bin .neq .other (.t p20) (.t p24))]) [] (.cond (.t p25) (.seq (.ops [oo p4 (.mv (.c (.bool false)))]) [] .ret) .skip))) [] (.ops [oo p15 (.mv (.t p5)), oo p16 (.bin .add .other (.t p15) (.c (iI 1))), oo p5 (.mv (.t p16))])))))) [] (.seq (.ops [oo p4 (.mv (.c (.bool true)))]) [] .ret)))), none, none⟩
end Go.Ideal.X
end
