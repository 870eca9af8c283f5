/- A part of the proof: the ideal machine, and what the functions of the program answer over it. -/
import Derived.RowKit
import Derived.OpenShut
import Derived.WideKeyArgs
import Derived.ChangeSame
import Derived.Test.YtanaepeilcjhcaaA
set_option linter.unusedSimpArgs false
set_option linter.unusedVariables false
/- Calls of functions, and rounds. -/
namespace Go.Ideal
variable {P : Program}

theorem DefOk.tail_put {ρ : Rho} {w : World} {D : Nat} {Ds : List Nat} (h : DefOk ρ w (D :: Ds)) (o : Obj) : DefOk ρ (w.putObj D o) Ds := by
  obtain ⟨h1, h2⟩ := List.nodup_cons.1 h.nodup
  refine ⟨h2, fun D' hD' => ?_⟩
  obtain ⟨q1, q2, q3⟩ := h.ok D' (by simp [hD'])
  have hne : D' ≠ D := fun e => h1 (e ▸ hD')
  exact ⟨by simpa using q1, q2, by rw [World.putObj_heap_other hne]; exact q3⟩

/-- a function leaves: its marks are taken, its results read. -/
theorem leaves_marks {fn : Func} {rs : List CR} (hc : allO (compileResult P) fn.results.toList = some rs) {s : Slots} {tmps : Array Value} {h : H} {o : Out} (ho : resOf rs s h = some o) {ρ0 : Rho} {w0 : World} {σ : Rho} (hs : SR σ s tmps) :
    ∀ (Ds : List Nat) (w : World), DefOk σ w Ds → (∀ D ∈ Ds, w0.heap.size ≤ D) → HR P σ h w → Ext ρ0 w0 σ w → LeavesInM Fence.wide 0 P fn tmps (VPost P ρ0 w0 o) (Ds.map markOf) .returning w
  | [], w, hD, hds, hr, he => by
    obtain ⟨v, v', rfl, h1, h2⟩ := results_run hc hr hs ho
    exact ⟨v', h1, v, h, v', σ, rfl, rfl, h2, hr, he⟩
  | D :: Ds, w, hD, hds, hr, he => by
    obtain ⟨q1, q2, q3⟩ := hD.ok D (by simp)
    obtain ⟨g1, g2⟩ := hr.shut he (o := .deferred none) (calm_deferred _) q3 (calm_deferred _) (hds D (by simp)) q2
    refine ⟨by simp, .inl ⟨D, _, rfl, run_takeDeferred q3, ?_⟩⟩
    exact leaves_marks hc ho hs Ds _ (hD.tail_put _) (fun D' h => hds D' (by simp [h])) g1 g2

theorem CPost.nil_ge {ρ : Rho} {w w' : World} {N : Nat} {o : Out} {e : Exit} {a : Act} (h : CPost P ρ w N [] o e a w') : ∃ σ Ds s h, Ext ρ w σ w' ∧ a.tmps.size = N ∧ a.defers = Ds.map markOf ∧ DefOk σ w' Ds ∧ (∀ D ∈ Ds, w.heap.size ≤ D) ∧ SR σ s a.tmps ∧ HR P σ h w' ∧
    ((o = .nrm s h ∧ e = .normal) ∨ (∃ i, o = .exit i s h ∧ e = .exit i) ∨ (o = .ret s h ∧ e = .ret)) := by
  obtain ⟨σ, Ds, s, h, h1, h2, h3, ⟨h4, h5⟩, h6⟩ := h
  exact ⟨σ, Ds, s, h, h1, h2, h3, h4, fun D hD => (h5 D hD).resolve_left (by simp), h6⟩

theorem compileFunc_some {fn : Func} {cf : CFunc} (h : compileFunc P fn = some (stripF cf)) : (fn.name == "runtime.NumGoroutine") = false ∧ ∃ c, fn.body = some c ∧ compileCode P fn.ntmps c = some (strip cf.body) ∧ allO (compileResult P) fn.results.toList = some cf.results ∧ cf.ntmps = fn.ntmps ∧ cf.prim = none := by
  unfold compileFunc at h
  split at h
  · cases h
  · rename_i hn
    obtain ⟨c, hc, h⟩ := aof h
    obtain ⟨cc, hcc, h⟩ := aof h
    obtain ⟨rs, hrs, h⟩ := amf h
    unfold stripF at h
    simp only [CFunc.mk.injEq] at h
    obtain ⟨h1, h2, h3, h4⟩ := h
    exact ⟨by simpa using hn, c, hc, by rw [hcc, h3], by rw [hrs, h2], h1.symm, h4.symm⟩

theorem func_sound {ih : IH} {M : Nat} (hih : ∀ t o, ih t = some o → Sound P M t o) {g : FuncId} {fn : Func} {cf : CFunc} (hfn : P.funcs[g]? = some fn) (hcf : compileFunc P fn = some (stripF cf)) {args : List Value} {h : H} {o : Out} (hv : runFunc ih cf args h = some o)
    {ρ : Rho} {args' : Array Value} {w : World} (ra : VRL ρ args args'.toList) (hr : HR P ρ h w) : CallsIn Fence.wide 0 P g args' w (VPost P ρ w o) ∧ ∀ w, (callFunc g args').run P w = .ok (.enter g args') w := by
  obtain ⟨hname, c, hbody, hcc, hrs, hnt, hnp⟩ := compileFunc_some hcf
  unfold runFunc at hv
  rw [hnp] at hv
  dsimp only at hv
  split at hv
  · rename_i hle
    have hle' : args'.size ≤ fn.ntmps := by
      have := Nat.le_of_ble_eq_true hle
      rw [hnt, ra.1] at this; simpa using this
    obtain ⟨o1, ho1, hret⟩ := aof hv
    refine ⟨?_, fun w => ?_⟩
    · refine callsIn_of_wp_marks hfn hbody trivial ?_
      have hcode := (hih _ _ ho1 c fn.ntmps hcc none ρ { tmps := args' ++ Array.replicate (fn.ntmps - args'.size) undef, defers := [] } w [] (by intro l hl; cases hl) (by simp; omega) (args_SR ra _) hr rfl ⟨List.nodup_nil, by simp⟩).wpIn
      refine wpIn_mono hcode ?_
      intro e a1 w1 hp
      obtain ⟨σ, Ds, s1, h1, he, hN, hd, hD, hds, hs1, hr1, hcase⟩ := hp.nil_ge
      rcases hcase with ⟨rfl, rfl⟩ | ⟨i, rfl, rfl⟩ | ⟨rfl, rfl⟩
      · show LeavesInM _ _ _ _ _ _ a1.defers _ _
        rw [hd]; exact leaves_marks hrs hret hs1 Ds w1 hD hds hr1 he
      · cases hret
      · show LeavesInM _ _ _ _ _ _ a1.defers _ _
        rw [hd]; exact leaves_marks hrs hret hs1 Ds w1 hD hds hr1 he
    · have hne : ¬ fn.name = "runtime.NumGoroutine" := by simpa using hname
      simp [callFunc, hfn, hne, hbody]
  · cases hv

theorem round_sound {ih : IH} {M : Nat} (hih : ∀ t o, ih t = some o → Sound P M t o) {l : Nat} {args : List Value} {h : H} {o : Out} {lo : IObj} (hlo : h.get l = some lo) (hv : runRound ih l args h lo = some o)
    {ρ : Rho} {R : RB} {args' : Array Value} {w : World} (hi : ρ l = some R) (ra : VRL ρ args args'.toList) (hr : HR P ρ h w) :
    ∃ fn tmps assign body, (Instr.yield R.blk args').run P w = .ok (.round R.blk fn tmps assign body) w ∧ RoundIn Fence.wide 0 P R.blk fn tmps assign body w (VPost P ρ w o) := by
  cases lo with
  | loop st pend sl rc =>
    obtain ⟨s0, hs0, hv1⟩ := aof hv
    obtain ⟨o1, ho1, hv2⟩ := aof hv1
    clear hv hv1
    obtain ⟨lp, p0, p1, p2, p3, p4, p5, p6, p7⟩ := loop_obj hr hi hlo
    rw [p4] at hs0
    obtain ⟨q1, q2, q3⟩ := setSlots_SR lp.params.toList args args'.toList (keepS rc.L sl) s0 lp.tmps hs0 ra (p3.keep _) p5
    have hsz : args'.size = lp.params.size := by rw [← Array.length_toList, ← ra.1, q1, Array.length_toList]
    have hfold : (lp.params.zip args').foldl (fun tmps (x : Tmp × Value) => tmps.setIfInBounds x.1 x.2) lp.tmps = (lp.params.toList.zip args'.toList).foldl (fun tmps (x : Tmp × Value) => tmps.setIfInBounds x.1 x.2) lp.tmps := by
      rw [← Array.foldl_toList, Array.toList_zip]
    refine ⟨lp.fn, _, lp.assign, lp.body, run_yield p0 hsz, ?_⟩
    have hR : RoundOk (some R.blk) w := by intro l hl; cases hl; exact ⟨lp, p0⟩
    refine roundIn_of_wpIn trivial ?_
    have hassign := (hih _ _ ho1 lp.assign lp.tmps.size p6 (some R.blk) ρ { tmps := (lp.params.zip args').foldl (fun tmps (x : Tmp × Value) => tmps.setIfInBounds x.1 x.2) lp.tmps, defers := [] } w [] hR (by dsimp only; rw [hfold]; exact q3) (by dsimp only; rw [hfold]; exact q2) hr rfl ⟨List.nodup_nil, by simp⟩).wpIn
    refine wpIn_mono hassign ?_
    intro e a1 w1 hp
    obtain ⟨σ, Ds, s1, h1, he, hN, hd, hD, hds, hs1, hr1, hcase⟩ := hp.nil_ge
    rcases hcase with ⟨rfl, rfl⟩ | ⟨i, rfl, rfl⟩ | ⟨rfl, rfl⟩
    · obtain ⟨lo1, hlo1, hv3⟩ := aof hv2
      cases lo1 with
      | loop st1 pend1 sl1 rc1 =>
        cases st1 <;> simp only [roundBody, reduceCtorEq] at hv3
        obtain ⟨o2, ho2, hfin⟩ := aof hv3
        have hi1 : σ l = some R := he.le _ _ hi
        obtain ⟨lp1, r0, r1, r2, r3, r4, r5, r6, r7⟩ := loop_obj hr1 hi1 hlo1
        obtain ⟨g1, g2⟩ := loop_put hr1 hi1 hlo1 r0 (lp' := { lp1 with state := .busy }) (st' := .busy) (pend' := pend1) rfl r2 rfl rfl rfl rfl rfl
        refine ⟨_, run_beginRound r0 r1, ?_⟩
        have hRb : RoundOk (some R.blk) (w1.putObj R.blk (.loop { lp1 with state := .busy })) := by
          intro l hl; cases hl; exact ⟨_, World.putObj_heap_same (Array.getElem?_eq_some_iff.1 r0).1⟩
        have hbody := (hih _ _ ho2 lp.body lp.tmps.size p7 (some R.blk) σ a1 _ Ds hRb hN hs1 g1 hd (hD.ext g2)).wpIn
        refine wpIn_mono hbody ?_
        intro e a2 w2 hp2
        obtain ⟨τ, Ds2, s2, h2, he2, hN2, hd2, hD2, hs2, hr2, hcase2⟩ := hp2
        have hi2 : τ l = some R := he2.le _ _ hi1
        have fin : ∀ (p : Option CC) (jump : Option Code) (lo2 : IObj), PendR p jump → h2.get l = some lo2 → finObj l p h2 lo2 = some o → ∃ v w', (Instr.endRound R.blk jump).run P w2 = .ok v w' ∧ VPost P ρ w o (.returned v) w' := by
          intro p jump lo2 hp hlo2 hfin
          cases lo2 with
          | loop st2 pend2 sl2 rc2 =>
            cases hfin
            obtain ⟨lp2, t0, t1, t2, t3, t4⟩ := loop_obj hr2 hi2 hlo2
            have hnone : jump.isNone = p.isNone := by
              cases p with
              | none => cases jump with
                | none => rfl
                | some c => exact hp.elim
              | some c => cases jump with
                | none => cases c <;> exact hp.elim
                | some c' => rfl
            obtain ⟨k1, k2⟩ := loop_put hr2 hi2 hlo2 t0 (lp' := { lp2 with state := if jump.isNone then .ready else .done, pending := jump }) (st' := stOf p) (pend' := p) (by dsimp only; rw [hnone]; cases p <;> rfl) hp rfl rfl rfl rfl rfl
            refine ⟨_, _, run_endRound jump t0, _, _, _, τ, rfl, rfl, ?_, k1, ((he.trans g2).trans he2).trans k2⟩
            rw [hnone]; exact .bool _
          | cells _ _ => cases hfin
          | map _ _ => cases hfin
          | dead => cases hfin
        rcases hcase2 with ⟨rfl, rfl⟩ | ⟨i, rfl, rfl⟩ | ⟨rfl, rfl⟩
        · obtain ⟨lo2, hlo2, hfo⟩ := aof hfin
          exact fin none none lo2 trivial hlo2 hfo
        · obtain ⟨lo2, hlo2, hfo⟩ := aof hfin
          exact fin (some (.exit i)) (some (.exit i)) lo2 rfl hlo2 hfo
        · obtain ⟨lo2, hlo2, hfo⟩ := aof hfin
          exact fin (some .ret) (some .ret) lo2 trivial hlo2 hfo
      | cells _ _ => cases hv3
      | map _ _ => cases hv3
      | dead => cases hv3
    · cases hv2
    · cases hv2
  | cells _ _ => cases hv
  | map _ _ => cases hv
  | dead => cases hv

theorem VRL.of_func {ρ : Rho} {f : FuncId} {x y x' y' : Array Value} (h : VR ρ (.func (.func f) x y) (.func (.func f) x' y')) : VRL ρ x.toList x'.toList ∧ VRL ρ y.toList y'.toList := by
  cases h with
  | func _ ha hb ra rb => exact ⟨⟨by simpa using ha, fun j a b h1 h2 => ra j a b (by simpa using h1) (by simpa using h2)⟩, ⟨by simpa using hb, fun j a b h1 h2 => rb j a b (by simpa using h1) (by simpa using h2)⟩⟩

/-- nothing that was there has turned. -/
structure Same (W W' : World) : Prop where
  os : W'.os = W.os
  out : W'.output = W.output
  heap : ∀ B : Nat, B < W.heap.size → W'.heap[B]? = W.heap[B]?
  froz : ∀ a, W'.frozen? a = W.frozen? a
  size : W.heap.size ≤ W'.heap.size

/-- a function that answers a truth and turns nothing: of such a one the ideal machine needs no text. -/
def primF (b : Bool) : CFunc := ⟨0, [.tmp (bits 0)], .ops [⟨some (bits 0), .mv (.c (.bool b)), none, 0⟩], none⟩
/-- a function that is not walked, and what it answers. -/
def primP (p : List Value → H → Option (Value × H)) : CFunc := ⟨0, [], .skip, some p⟩
/-- what is asked of it. -/
def PrimOk (P : Program) (g : FuncId) (p : List Value → H → Option (Value × H)) : Prop :=
  (∀ args w, (callFunc g args).run P w = .ok (.enter g args) w) ∧
  ∀ args h v h', p args h = some (v, h') → ∀ ρ (args' : Array Value) w, VRL ρ args args'.toList → HR P ρ h w → Calls P g args' w (VPost P ρ w (.val v h'))
def FnOk (P : Program) (g : FuncId) (cf : CFunc) : Prop :=
  (∃ fn, P.funcs[g]? = some fn ∧ compileFunc P fn = some (stripF cf)) ∨
  (∃ fn cf0 b, P.funcs[g]? = some fn ∧ compileFunc P fn = some (stripF cf0) ∧ cf = primF b ∧ ∀ w, Calls P g #[] w fun e w' => e = .returned (.bool b) ∧ Same w w') ∨
  ∃ p, cf = primP p ∧ PrimOk P g p

theorem Same.HR {ρ : Rho} {h : H} {w w' : World} (hs : Same w w') (hr : HR P ρ h w) : HR P ρ h w' where
  obj := fun i R o hi ho => by
    have := hr.obj i R o hi ho
    have hb := hs.heap R.blk (hr.blk i R hi)
    cases o <;> simp only [OR, hb] at this ⊢ <;> exact this
  nxt := hr.nxt
  sep := hr.sep
  blk := fun i R hi => Nat.lt_of_lt_of_le (hr.blk i R hi) hs.size
theorem Same.ext {ρ : Rho} {w w' : World} (hs : Same w w') : Ext ρ w ρ w' where
  le := fun _ _ h => h
  size := hs.size
  fresh := fun i R h => .inl ⟨i, R, h, rfl⟩
  frame := fun B hB _ => hs.heap B hB
  loops := fun B r hr => ⟨r, by rw [hs.heap B (Array.getElem?_eq_some_iff.1 hr).1]; exact hr, rfl⟩
  os := hs.os
  out := hs.out
  froz := hs.froz

theorem call_sound {F : FuncId → Option CFunc} (hF : ∀ g cf, F g = some cf → FnOk P g cf) {ih : IH} (hprim : ∀ b s h o, ih (.code (primF b).body s h) = some o → o = .nrm (s.set (bits 0) (.bool b)) h) {M : Nat} (hih : ∀ t o, ih t = some o → Sound P M t o) {f : Value} {args : List Value} {h : H} {o : Out} (hv : callStep F ih args h f = some o) :
    Sound P (M + 1) (.call f args h) o := by
  intro ρ f' args' w rf ra hr
  unfold callStep at hv
  split at hv
  · rename_i g first captured
    obtain ⟨cf, hcf, hv⟩ := aof hv
    obtain ⟨first', captured', rfl⟩ : ∃ x y, f' = .func (.func g) x y := by cases rf; exact ⟨_, _, rfl⟩
    obtain ⟨r1, r2⟩ := VRL.of_func rf
    have rall : VRL ρ (first.toList ++ args ++ captured.toList) (first' ++ args' ++ captured').toList := by simpa using (r1.append ra).append r2
    rcases hF g cf hcf with ⟨fn, hfn, hcomp⟩ | ⟨fn, cf0, b, hfn, hcomp, rfl, hcalls⟩ | ⟨p, rfl, hent, hpk⟩
    · exact func_sound hih hfn hcomp hv rall hr
    · unfold runFunc at hv
      have hv : (if Nat.ble (first.toList ++ args ++ captured.toList).length (primF b).ntmps then (ih (.code (primF b).body (argSlots (first.toList ++ args ++ captured.toList) 0 .nil) h)).bind (retK (primF b).results) else none) = some o := hv
      split at hv
      · rename_i hle
        have hnil : (first.toList ++ args ++ captured.toList) = [] := List.eq_nil_of_length_eq_zero (by simpa [primF] using Nat.le_of_ble_eq_true hle)
        obtain ⟨o1, ho1, hret⟩ := aof hv
        obtain rfl := hprim _ _ _ _ ho1
        have harr : first' ++ args' ++ captured' = #[] := by
          have := rall.1
          rw [hnil] at this
          exact Array.eq_empty_of_size_eq_zero (by rw [← Array.length_toList, ← this]; rfl)
        have ho : o = .val (.bool b) h := by
          have e : resOf [.tmp (bits 0)] ((argSlots (first.toList ++ args ++ captured.toList) 0 .nil).set (bits 0) (.bool b)) h = some o := hret
          rw [hnil] at e
          exact (Option.some.inj e).symm
        subst ho
        show CallsIn _ _ _ _ (first' ++ args' ++ captured') _ _ ∧ _
        rw [harr]
        refine ⟨callsIn_wide.2 ((hcalls w).mono ?_), fun w => ?_⟩
        · rintro e w' ⟨rfl, hs⟩
          exact ⟨_, _, _, ρ, rfl, rfl, .bool _, hs.HR hr, hs.ext⟩
        · obtain ⟨hname, c, hbody, hcc, hrs, hnt, -⟩ := compileFunc_some hcomp
          have hne : ¬ fn.name = "runtime.NumGoroutine" := by simpa using hname
          simp [callFunc, hfn, hne, hbody]
      · cases hv
    · have hv : (p (first.toList ++ args ++ captured.toList) h).bind (fun x => if Nat.ble h.next x.2.next then some (.val x.1 x.2) else none) = some o := hv
      obtain ⟨⟨v, h'⟩, hp, hv⟩ := aof hv
      split at hv
      · cases hv
        exact ⟨callsIn_wide.2 (hpk _ _ _ _ hp ρ _ w rall hr), hent _⟩
      · cases hv
  · rename_i l first captured
    split at hv
    · obtain ⟨lo, hlo, hv⟩ := aof hv
      obtain ⟨R, hR, rfl⟩ : ∃ R, ρ l = some R ∧ f' = .func (.yield R.blk) #[] #[] := by cases rf with | yield h => exact ⟨_, h, rfl⟩
      exact round_sound hih hlo hv hR ra hr
    · cases hv
  · cases hv
end Go.Ideal
/- Regions that draw their order: the ideal machine's side. -/
namespace Go.Ideal
variable {P : Program}

/-! ### Values that are found alike are alike -/
theorem eqAddr_eq {a b : Addr} (h : eqAddr a b = true) : a = b := by
  obtain ⟨a1, a2, a3⟩ := a; obtain ⟨b1, b2, b3⟩ := b
  simp only [eqAddr, Bool.and_eq_true, Option.isNone_iff_eq_none] at h
  obtain ⟨⟨⟨h1, h2⟩, h3⟩, h4⟩ := h
  rw [Nat.eq_of_beq_eq_true h1, Nat.eq_of_beq_eq_true h2, h3, h4]
theorem eqBytes_eq : ∀ {a b : List UInt8}, eqBytes a b = true → a = b
  | [], [], _ => rfl
  | x :: a, y :: b, h => by
    simp only [eqBytes, Bool.and_eq_true] at h
    rw [eqBytes_eq h.2, UInt8.toNat_inj.1 (Nat.eq_of_beq_eq_true h.1)]
  | [], _ :: _, h => by cases h
  | _ :: _, [], h => by cases h
theorem eqCell_eq {a b : Value} (h : eqCell a b = true) : a = b := by
  unfold eqCell at h
  split at h
  · rw [beq_iff_eq] at h; rw [h]
  · simp only [Bool.and_eq_true, decide_eq_true_eq] at h; rw [h.1]; rw [eqI_eq, beq_iff_eq] at h; rw [h.2]
  · rename_i s t
    have := eqBytes_eq h
    obtain ⟨⟨s⟩⟩ := s; obtain ⟨⟨t⟩⟩ := t
    simp only at this; rw [this]
  · rfl
  · rw [eqAddr_eq h]
  · simp only [Bool.and_eq_true] at h; rw [Nat.eq_of_beq_eq_true h.1, Nat.eq_of_beq_eq_true h.2]
  · simp only [Bool.and_eq_true] at h; rw [eqAddr_eq h.1.1, Nat.eq_of_beq_eq_true h.1.2, Nat.eq_of_beq_eq_true h.2]
  · rfl
  · rw [Nat.eq_of_beq_eq_true h]
  · rfl
  · cases h
theorem eqCells_eq : ∀ {a b : List Value}, eqCells a b = true → a = b
  | [], [], _ => rfl
  | x :: a, y :: b, h => by
    simp only [eqCells, Bool.and_eq_true] at h
    rw [eqCells_eq h.2, eqCell_eq h.1]
  | [], _ :: _, h => by cases h
  | _ :: _, [], h => by cases h
theorem eqVal1_eq {a b : Value} (h : eqVal1 a b = true) : a = b := by
  unfold eqVal1 at h
  split at h
  · rw [Array.toList_inj.1 (eqCells_eq h)]
  · exact eqCell_eq h
theorem eqVals_eq : ∀ {a b : List Value}, eqVals a b = true → a = b
  | [], [], _ => rfl
  | x :: a, y :: b, h => by
    simp only [eqVals, Bool.and_eq_true] at h
    rw [eqVals_eq h.2, eqVal1_eq h.1]
  | [], _ :: _, h => by cases h
  | _ :: _, [], h => by cases h
theorem eqVal_eq {a b : Value} (h : eqVal a b = true) : a = b := by
  unfold eqVal at h
  split at h
  · rw [Array.toList_inj.1 (eqVals_eq h)]
  · exact eqVal1_eq h

theorem beqP_refl : ∀ (l : List Bool), beqP l l = true
  | [] => rfl
  | a :: l => by simp [beqP, beqP_refl l]

/-! ### An operation looks at the slots that it names -/
def AgreeOn (ps : List (List Bool)) (s s' : Slots) : Prop := ∀ p ∈ ps, s.get p = s'.get p
theorem AgreeOn.left {ps qs : List (List Bool)} {s s' : Slots} (h : AgreeOn (ps ++ qs) s s') : AgreeOn ps s s' := fun p hp => h p (List.mem_append_left _ hp)
theorem AgreeOn.right {ps qs : List (List Bool)} {s s' : Slots} (h : AgreeOn (ps ++ qs) s s') : AgreeOn qs s s' := fun p hp => h p (List.mem_append_right _ hp)
theorem AgreeOn.keep {ps qs : List (List Bool)} (s : Slots) (h : ∀ p ∈ ps, p ∈ qs) : AgreeOn ps s (keepS qs s) := fun p hp => by rw [keepS_get, if_pos (h p hp)]
theorem ev_agree {s s' : Slots} {x : CO} (h : AgreeOn (coNames x) s s') : x.ev s = x.ev s' := by
  cases x with
  | t p => exact h p (by simp [coNames])
  | c v => rfl
theorem evO_agree {s s' : Slots} {x : Option CO} (h : AgreeOn (coONames x) s s') : evO s x = evO s' x := by
  cases x with
  | none => rfl
  | some x => simp only [evO]; rw [ev_agree h]
theorem evL_agree {s s' : Slots} : ∀ {l : List CO}, AgreeOn (l.flatMap coNames) s s' → evL s l = evL s' l
  | [], _ => rfl
  | x :: l, h => by
    rw [List.flatMap_cons] at h
    rw [evL_cons, evL_cons, ev_agree h.left, evL_agree h.right]
theorem evParts_agree {s s' : Slots} : ∀ {l : List (Nat × Nat × CO)}, AgreeOn (l.flatMap fun p => coNames p.2.2) s s' → evParts s l = evParts s' l
  | [], _ => rfl
  | (o, n, x) :: l, h => by
    rw [List.flatMap_cons] at h
    simp only [evParts]
    rw [ev_agree h.left, evParts_agree h.right]
theorem evPartsS_agree {s s' : Slots} (sz : Nat) : ∀ {l : List (Nat × CO)}, AgreeOn (l.flatMap fun p => coNames p.2) s s' → evPartsS s sz l = evPartsS s' sz l
  | [], _ => rfl
  | (o, x) :: l, h => by
    rw [List.flatMap_cons] at h
    simp only [evPartsS]
    rw [ev_agree h.left, evPartsS_agree sz h.right]

theorem opV_agree {op : COp} {s s' : Slots} (h : AgreeOn (opNames op) s s') (hp : H) : opV op s hp = opV op s' hp := by
  cases op with
  | mv x => show bMv _ _ _ = bMv _ _ _; unfold bMv; rw [ev_agree h]
  | pick c a b =>
    show bPick _ _ _ _ _ = bPick _ _ _ _ _; unfold bPick
    have h1 := h.left.left; have h2 := h.left.right; have h3 := h.right
    rw [ev_agree h1]
    have e : pickV a b s hp = pickV a b s' hp := by funext v; unfold pickV; rw [ev_agree h2, ev_agree h3]
    rw [e]
  | alloc z => rfl
  | box x => show bBox _ _ _ = bBox _ _ _; unfold bBox; rw [ev_agree h]
  | build z ps => show bBuild _ _ _ _ = bBuild _ _ _ _; unfold bBuild; rw [evParts_agree h]
  | buildSlice n sz z ps => show bBuildSlice _ _ _ _ _ _ = bBuildSlice _ _ _ _ _ _; unfold bBuildSlice; rw [evPartsS_agree sz h]
  | load1 a => show bLoad1 _ _ _ = bLoad1 _ _ _; unfold bLoad1; rw [ev_agree h]
  | loadN n a => show bLoadN _ _ _ _ = bLoadN _ _ _ _; unfold bLoadN; rw [ev_agree h]
  | store n a x => show bStore _ _ _ _ _ = bStore _ _ _ _ _; unfold bStore; rw [ev_agree h.left, ev_agree h.right]
  | nilCheck x => show bNilCheck _ _ _ = bNilCheck _ _ _; unfold bNilCheck; rw [ev_agree h]
  | bin op ek x y => show bBin _ _ _ _ _ _ = bBin _ _ _ _ _ _; unfold bBin; rw [ev_agree h.left, ev_agree h.right]
  | un op x => show bUn _ _ _ _ = bUn _ _ _ _; unfold bUn; rw [ev_agree h]
  | conv k x => show bConv _ _ _ _ = bConv _ _ _ _; unfold bConv; rw [ev_agree h]
  | makeFunc fn a b => show bMakeFunc _ _ _ _ _ = bMakeFunc _ _ _ _ _; unfold bMakeFunc; rw [evL_agree h.left, evL_agree h.right]
  | makeMap => rfl
  | makeSlice sz bt z l c => show bMakeSlice sz bt z l c s hp = bMakeSlice sz bt z l c s' hp; unfold bMakeSlice; rw [ev_agree h.left, ev_agree h.right]
  | slice sz x lo hi => show bSlice _ _ _ _ _ _ = bSlice _ _ _ _ _ _; unfold bSlice; rw [ev_agree h.left.left, evO_agree h.left.right, evO_agree h.right]
  | fieldAddr o x => show bFieldAddr _ _ _ _ = bFieldAddr _ _ _ _; unfold bFieldAddr; rw [ev_agree h]
  | indexAddr sz x i => show bIndexAddr _ _ _ _ _ = bIndexAddr _ _ _ _ _; unfold bIndexAddr; rw [ev_agree h.left, ev_agree h.right]
  | indexArr n sz x i => show bIndexArr _ _ _ _ _ _ = bIndexArr _ _ _ _ _ _; unfold bIndexArr; rw [ev_agree h.left, ev_agree h.right]
  | lookup kk z ok x i => show bLookup _ _ _ _ _ _ _ = bLookup _ _ _ _ _ _ _; unfold bLookup; rw [ev_agree h.left, ev_agree h.right]
  | mapUpdate kk m k x => show bMapUpdate _ _ _ _ _ _ = bMapUpdate _ _ _ _ _ _; unfold bMapUpdate; rw [ev_agree h.left.left, ev_agree h.left.right, ev_agree h.right]
  | extract x i => show bExtract _ _ _ _ = bExtract _ _ _ _; unfold bExtract; rw [ev_agree h]
  | call f as => rfl
  | blt b as => show bBlt _ _ _ _ = bBlt _ _ _ _; unfold bBlt; rw [evL_agree h]
  | strIdx x i => show bStrIdx _ _ _ _ = bStrIdx _ _ _ _; unfold bStrIdx; rw [ev_agree h.left, ev_agree h.right]

theorem doOp_agree {ih : IH} {op : COp} {s s' : Slots} (h : AgreeOn (opNames op) s s') (hp : H) : doOp ih op s hp = doOp ih op s' hp := by
  by_cases hc : ∃ f as, op = .call f as
  · obtain ⟨f, as, rfl⟩ := hc
    show callOp _ _ _ _ _ = callOp _ _ _ _ _
    unfold callOp
    rw [ev_agree (x := f) h.left, evL_agree (l := as) h.right]
  · have e : ∀ s, doOp ih op s hp = opV op s hp := by intro s; cases op <;> first | rfl | exact absurd ⟨_, _, rfl⟩ hc
    rw [e, e, opV_agree h]
theorem wanted_agree {g : Option (List Bool × Bool)} {s s' : Slots} (h : AgreeOn (guardNames g) s s') : wantedC g s = wantedC g s' := by
  cases g with
  | none => rfl
  | some g => obtain ⟨p, b⟩ := g; simp only [wantedC]; rw [h p (by simp [guardNames])]

/-! ### What floats -/
theorem isW_class {op : COp} (h : isW op = false) : opClass op = .pure ∨ opClass op = .alloc := by
  cases op <;> simp [isW, opClass] at h ⊢
  case blt b as => cases b <;> simp [isW, opClass] at h ⊢

theorem opV_of_notCall {ih : IH} {op : COp} (h : isW op = false) (s : Slots) (hp : H) : doOp ih op s hp = opV op s hp := by
  cases op <;> first | rfl | simp [isW] at h

/-- a read: it looks at the memory alone. -/
theorem read_float {op : COp} (hr : isRd op = true) {s : Slots} {n : Nat} {m : PT IObj} {v : Value} {h' : H} (h : opV op s ⟨n, m⟩ = some (v, h')) :
    h' = ⟨n, m⟩ ∧ ∀ n', opV op s ⟨n', m⟩ = some (v, ⟨n', m⟩) := by
  cases op <;> simp only [isRd, Bool.false_eq_true] at hr
  case load1 a =>
    obtain ⟨u, hu, h⟩ := aof h; obtain ⟨ad, ha, h⟩ := aof h; obtain ⟨l, hl, h⟩ := aof h; obtain ⟨x, hx, e⟩ := amf h
    cases e
    refine ⟨rfl, fun n' => ?_⟩
    show bLoad1 _ _ _ = _
    unfold bLoad1
    have hl' : H.readN ⟨n', m⟩ ad.block ad.off 1 = some l := hl
    simp only [hu, ha, hl', hx, Option.bind_some, Option.map_some]
  case loadN k a =>
    obtain ⟨u, hu, h⟩ := aof h; obtain ⟨ad, ha, h⟩ := aof h; obtain ⟨l, hl, e⟩ := amf h
    cases e
    refine ⟨rfl, fun n' => ?_⟩
    show bLoadN _ _ _ _ = _
    unfold bLoadN
    have hl' : H.readN ⟨n', m⟩ ad.block ad.off k = some l := hl
    simp only [hu, ha, hl', Option.bind_some, Option.map_some]
  case lookup kk z ok x i =>
    obtain ⟨u, hu, h⟩ := aof h; obtain ⟨k, hk, h⟩ := aof h; obtain ⟨b, hb, h⟩ := aof h; obtain ⟨es, hes, h⟩ := aof h; obtain ⟨r, hr, e⟩ := amf h
    cases e
    refine ⟨rfl, fun n' => ?_⟩
    show bLookup _ _ _ _ _ _ _ = _
    unfold bLookup
    have hes' : entriesOf ⟨n', m⟩ u = some es := hes
    simp only [hu, hk, hb, hes', hr, Option.bind_some, Option.map_some]
  case slice sz x lo hi =>
    obtain ⟨u, hu, h⟩ := aof h; obtain ⟨l, hlo, h⟩ := aof h; obtain ⟨r, hhi, h⟩ := aof h
    have key : h' = ⟨n, m⟩ ∧ ∀ n', sliceV sz ⟨n', m⟩ l r u = some (v, ⟨n', m⟩) := by
      unfold sliceV at h ⊢
      split at h
      · rename_i base len cap
        split at h
        · rename_i hc
          obtain ⟨a, ha, h⟩ := aof h; obtain ⟨o, ho, h⟩ := aof h
          cases o with
          | cells cs esz =>
            simp only [sliceOpen] at h
            split at h
            · rename_i hz
              obtain ⟨q1, e1, h⟩ := aof h
              obtain ⟨q2, e2, h⟩ := amf h
              cases h
              refine ⟨rfl, fun n' => ?_⟩
              have ho' : H.get ⟨n', m⟩ a.block = some (.cells cs esz) := ho
              simp only [hc, if_true, ha, Option.bind_some, ho', sliceOpen]
              rw [if_pos hz]
              simp only [e1, e2, Option.bind_some, Option.map_some]
            · cases h
          | map _ _ => cases h
          | loop _ _ _ _ => cases h
          | dead => cases h
        · rename_i hc
          obtain ⟨q1, e1, h⟩ := aof h
          obtain ⟨q2, e2, h⟩ := amf h
          cases h
          refine ⟨rfl, fun n' => ?_⟩
          simp only [hc, Bool.false_eq_true, if_false, e1, e2, Option.bind_some, Option.map_some]
      · cases h
    refine ⟨key.1, fun n' => ?_⟩
    show bSlice _ _ _ _ _ _ = _
    unfold bSlice
    simp only [hu, hlo, hhi, Option.bind_some]
    exact key.2 n'
  case blt b as =>
    cases b <;> simp only [isRd, Bool.false_eq_true] at hr
    obtain ⟨l, hl, h⟩ := aof h
    have key : h' = ⟨n, m⟩ ∧ ∀ n', bltV ⟨n', m⟩ .lenMap l = some (v, ⟨n', m⟩) := by
      match l with
      | [] => cases h
      | [.map none] => cases h; exact ⟨rfl, fun _ => rfl⟩
      | [.map (some r)] =>
        simp only [bltV] at h ⊢
        cases hg : H.get ⟨n, m⟩ r with
        | none => rw [hg] at h; cases h
        | some o =>
          rw [hg] at h
          cases o with
          | map es c =>
            cases h
            refine ⟨rfl, fun n' => ?_⟩
            have hg' : H.get ⟨n', m⟩ r = some (.map es c) := hg
            rw [hg']
          | cells _ _ => cases h
          | loop _ _ _ _ => cases h
          | dead => cases h
      | .bool _ :: _ => cases h
      | .int _ _ :: _ => cases h
      | .float _ _ :: _ => cases h
      | .complex _ _ _ :: _ => cases h
      | .string _ :: _ => cases h
      | .pointer _ :: _ => cases h
      | .slice _ _ _ :: _ => cases h
      | .chan _ :: _ => cases h
      | .func _ _ _ :: _ => cases h
      | .nilFunc :: _ => cases h
      | .iface _ _ :: _ => cases h
      | .nilIface :: _ => cases h
      | .agg _ :: _ => cases h
      | .tuple _ :: _ => cases h
      | .map none :: _ :: _ => cases h
      | .map (some _) :: _ :: _ => cases h
    refine ⟨key.1, fun n' => ?_⟩
    show bBlt _ _ _ _ = _
    unfold bBlt
    simp only [hl, Option.bind_some]
    exact key.2 n'

/-- a value that looks at no memory. -/
theorem pure_float {op : COp} (hw : isW op = false) (hr : isRd op = false) (hc : opClass op = .pure) {s : Slots} {h : H} {v : Value} {h' : H} (hv : opV op s h = some (v, h')) :
    h' = h ∧ ∀ g, opV op s g = some (v, g) := by
  cases op <;> simp only [isW, isRd, opClass, reduceCtorEq] at hw hr hc
  case mv x => obtain ⟨u, hu, e⟩ := amf hv; cases e; exact ⟨rfl, fun g => by show bMv _ _ _ = _; unfold bMv; rw [hu]; rfl⟩
  case pick c a b =>
    obtain ⟨u, hu, hv⟩ := aof hv
    unfold pickV at hv
    split at hv
    · obtain ⟨x, hx, e⟩ := amf hv; cases e
      exact ⟨rfl, fun g => by show bPick _ _ _ _ _ = _; unfold bPick; rw [hu]; simp [pickV, hx]⟩
    · obtain ⟨x, hx, e⟩ := amf hv; cases e
      exact ⟨rfl, fun g => by show bPick _ _ _ _ _ = _; unfold bPick; rw [hu]; simp [pickV, hx]⟩
    · cases hv
  case build z ps => obtain ⟨u, hu, hv⟩ := aof hv; obtain ⟨x, hx, e⟩ := amf hv; cases e; exact ⟨rfl, fun g => by show bBuild _ _ _ _ = _; unfold bBuild; simp [hu, hx]⟩
  case nilCheck x => obtain ⟨u, hu, hv⟩ := aof hv; obtain ⟨x, hx, e⟩ := amf hv; cases e; exact ⟨rfl, fun g => by show bNilCheck _ _ _ = _; unfold bNilCheck; simp [hu, hx]⟩
  case bin op ek x y => obtain ⟨u, hu, hv⟩ := aof hv; obtain ⟨u2, hu2, hv⟩ := aof hv; obtain ⟨x, hx, e⟩ := amf hv; cases e; exact ⟨rfl, fun g => by show bBin _ _ _ _ _ _ = _; unfold bBin; simp [hu, hu2, hx]⟩
  case un op x => obtain ⟨u, hu, hv⟩ := aof hv; obtain ⟨x, hx, e⟩ := amf hv; cases e; exact ⟨rfl, fun g => by show bUn _ _ _ _ = _; unfold bUn; simp [hu, hx]⟩
  case conv k x => obtain ⟨u, hu, hv⟩ := aof hv; obtain ⟨x, hx, e⟩ := amf hv; cases e; exact ⟨rfl, fun g => by show bConv _ _ _ _ = _; unfold bConv; simp [hu, hx]⟩
  case makeFunc fn a b => obtain ⟨u, hu, hv⟩ := aof hv; obtain ⟨x, hx, e⟩ := amf hv; cases e; exact ⟨rfl, fun g => by show bMakeFunc _ _ _ _ _ = _; unfold bMakeFunc; simp [hu, hx]⟩
  case fieldAddr o x => obtain ⟨u, hu, hv⟩ := aof hv; obtain ⟨x, hx, e⟩ := amf hv; cases e; exact ⟨rfl, fun g => by show bFieldAddr _ _ _ _ = _; unfold bFieldAddr; simp [hu, hx]⟩
  case indexAddr sz x i => obtain ⟨u, hu, hv⟩ := aof hv; obtain ⟨u2, hu2, hv⟩ := aof hv; obtain ⟨x, hx, e⟩ := amf hv; cases e; exact ⟨rfl, fun g => by show bIndexAddr _ _ _ _ _ = _; unfold bIndexAddr; simp [hu, hu2, hx]⟩
  case indexArr n sz x i => obtain ⟨u, hu, hv⟩ := aof hv; obtain ⟨u2, hu2, hv⟩ := aof hv; obtain ⟨x, hx, e⟩ := amf hv; cases e; exact ⟨rfl, fun g => by show bIndexArr _ _ _ _ _ _ = _; unfold bIndexArr; simp [hu, hu2, hx]⟩
  case extract x i => obtain ⟨u, hu, hv⟩ := aof hv; obtain ⟨x, hx, e⟩ := amf hv; cases e; exact ⟨rfl, fun g => by show bExtract _ _ _ _ = _; unfold bExtract; simp [hu, hx]⟩
  case strIdx x i => obtain ⟨u, hu, hv⟩ := aof hv; obtain ⟨u2, hu2, hv⟩ := aof hv; obtain ⟨x, hx, e⟩ := amf hv; cases e; exact ⟨rfl, fun g => by show bStrIdx _ _ _ _ = _; unfold bStrIdx; simp [hu, hu2, hx]⟩
  case blt b as =>
    obtain ⟨l, hl, hv⟩ := aof hv
    have key : h' = h ∧ ∀ g, bltV g b l = some (v, g) := by
      cases b <;> simp only [isW, isRd, reduceCtorEq] at hw hr
      case len =>
        unfold bltV at hv
        split at hv <;> simp_all [bltV]
      case lenStr =>
        unfold bltV at hv
        split at hv <;> simp_all [bltV]
      case min =>
        cases l with
        | nil => cases hv
        | cons x r => obtain ⟨y, hy, e⟩ := amf hv; cases e; exact ⟨rfl, fun g => by simp [bltV, hy]⟩
      case max =>
        cases l with
        | nil => cases hv
        | cons x r => obtain ⟨y, hy, e⟩ := amf hv; cases e; exact ⟨rfl, fun g => by simp [bltV, hy]⟩
    exact ⟨key.1, fun g => by show bBlt _ _ _ _ = _; unfold bBlt; rw [hl]; exact key.2 g⟩

/-- a new object: it looks at no memory. -/
theorem alloc_float {op : COp} (hc : opClass op = .alloc) {s : Slots} {h : H} {v : Value} {h' : H} (hv : opV op s h = some (v, h')) :
    ∃ (f : Nat → Value) (io : IObj), v = f h.next ∧ h' = h.new io ∧ ∀ g, opV op s g = some (f g.next, g.new io) := by
  cases op <;> simp only [opClass, reduceCtorEq] at hc
  case alloc z => cases hv; exact ⟨fun i => .pointer (some ⟨i, 0, none⟩), _, rfl, rfl, fun g => rfl⟩
  case box x => obtain ⟨u, hu, e⟩ := amf hv; cases e; exact ⟨fun i => .pointer (some ⟨i, 0, none⟩), _, rfl, rfl, fun g => by show bBox _ _ _ = _; unfold bBox; rw [hu]; rfl⟩
  case buildSlice n sz z ps =>
    obtain ⟨u, hu, hv⟩ := aof hv; obtain ⟨x, hx, e⟩ := amf hv; cases e
    exact ⟨fun i => .slice (some ⟨i, 0, none⟩) n n, _, rfl, rfl, fun g => by show bBuildSlice _ _ _ _ _ _ = _; unfold bBuildSlice; simp [hu, hx]⟩
  case makeMap => cases hv; exact ⟨fun i => .map (some i), _, rfl, rfl, fun g => rfl⟩
  case makeSlice sz bt z l c =>
    obtain ⟨u, hu, hv⟩ := aof hv; obtain ⟨u2, hu2, hv⟩ := aof hv
    unfold makeSliceV at hv
    split at hv
    · split at hv
      · rename_i hc
        cases hv
        refine ⟨fun i => .slice (some ⟨i, 0, none⟩) _ _, _, rfl, rfl, fun g => ?_⟩
        show bMakeSlice sz bt z l c s g = _
        unfold bMakeSlice
        simp only [hu, hu2, Option.bind_some, makeSliceV]
        rw [if_pos hc]
      · cases hv
    · cases hv
  case blt b as => cases b <;> cases hc

/-! ### Nothing is taken back -/
theorem writeNext {h : H} {i off : Nat} {vs : List Value} {h' : H} (hw : h.write i off vs = some h') : h'.next = h.next := by
  obtain ⟨o, ho, hw⟩ := aof hw
  cases o with
  | cells cs esz =>
    simp only [writeObj] at hw
    split at hw
    · obtain ⟨c, hc, e⟩ := amf hw; subst e; rfl
    · cases hw
  | map _ _ => cases hw
  | loop _ _ _ _ => cases hw
  | dead => cases hw

theorem growNext {size : Nat} {a : Addr} {len n : Nat} {new : List Value} {h : H} {cs : List Value} {v : Value} {h' : H} (hv : growIn size a len n new h cs = some (v, h')) : h.next ≤ h'.next := by
  obtain ⟨o, ho, e⟩ := amf hv; cases e; simp
theorem putNext {size : Nat} {a : Addr} {len cap n : Nat} {new : List Value} {h : H} {v : Value} {h' : H} (hv : putIn size a len cap n new h = some (v, h')) : h.next ≤ h'.next := by
  obtain ⟨o, ho, e⟩ := amf hv; cases e; rw [writeNext ho]; exact Nat.le_refl _

theorem opV_next {op : COp} {s : Slots} {h : H} {v : Value} {h' : H} (hv : opV op s h = some (v, h')) : h.next ≤ h'.next := by
  by_cases hw : isW op = false
  · by_cases hr : isRd op = true
    · have := (read_float hr (n := h.next) (m := h.mem) hv).1; rw [this]; exact Nat.le_refl _
    · rcases isW_class hw with hc | hc
      · rw [(pure_float hw (by simpa using hr) hc hv).1]; exact Nat.le_refl _
      · obtain ⟨f, io, -, e, -⟩ := alloc_float hc hv; rw [e]; simp
  · cases op <;> simp only [isW, not_true_eq_false, reduceCtorEq, not_false_eq_true] at hw
    case store n a x =>
      obtain ⟨u, hu, hv⟩ := aof hv; obtain ⟨u2, hu2, hv⟩ := aof hv; obtain ⟨ad, ha, hv⟩ := aof hv
      split at hv
      · obtain ⟨g, hg, e⟩ := amf hv; cases e; rw [writeNext hg]; exact Nat.le_refl _
      · cases hv
    case mapUpdate kk m k x =>
      obtain ⟨u, hu, hv⟩ := aof hv; obtain ⟨u2, hu2, hv⟩ := aof hv; obtain ⟨u3, hu3, hv⟩ := aof hv
      unfold mapUpd at hv
      split at hv
      · obtain ⟨o, ho, hv⟩ := aof hv
        cases o with
        | map es c => obtain ⟨y, hy, hv⟩ := aof hv; obtain ⟨z, hz, e⟩ := amf hv; cases e; exact Nat.le_refl _
        | cells _ _ => cases hv
        | loop _ _ _ _ => cases hv
        | dead => cases hv
      · cases hv
    case call f as => cases hv
    case blt b as =>
      cases b <;> simp only [isW, not_true_eq_false, reduceCtorEq, not_false_eq_true] at hw
      case clear z =>
        obtain ⟨l, hl, hv⟩ := aof hv
        match l with
        | [] => cases hv
        | _ :: _ :: _ => simp [bltV] at hv
        | [sv] =>
          cases sv with
          | slice b n c =>
            cases b with
            | none => cases hv; exact Nat.le_refl _
            | some ad =>
              simp only [bltV] at hv
              split at hv
              · cases hv; exact Nat.le_refl _
              · obtain ⟨g, hg, e⟩ := amf hv
                cases e
                rw [writeNext hg]; exact Nat.le_refl _
          | _ => simp [bltV] at hv
      rename_i size bytes
      obtain ⟨l, hl, hv⟩ := aof hv
      match l with
      | [] => cases hv
      | [_] => cases hv
      | _ :: _ :: _ :: _ => cases hv
      | [sv, x] =>
        obtain ⟨nl, hnl, hv⟩ := aof hv
        unfold appendTo at hv
        split at hv
        · split at hv
          · cases hv; exact Nat.le_refl _
          · split at hv
            · split at hv
              · split at hv
                · cases hv; simp
                · cases hv
              · obtain ⟨o, ho, hv⟩ := aof hv
                cases o with
                | cells cs esz =>
                  simp only [appendIn] at hv
                  split at hv
                  · split at hv
                    · split at hv
                      · exact putNext hv
                      · have := growNext hv; simpa using this
                    · cases hv
                  · split at hv
                    · exact putNext hv
                    · exact growNext hv
                | map _ _ => cases hv
                | loop _ _ _ _ => cases hv
                | dead => cases hv
            · cases hv
        · cases hv
end Go.Ideal
/- Regions that draw their order: the order of the ideal machine, its states on the way. -/
namespace Go.Ideal
variable {P : Program}

/-! ### What surely comes before -/
theorem ancs_snoc (l : List Oper) (o : Oper) : ancs (l ++ [o]) = ancs l ++ [ancOf (ancs l) o] := by simp [ancs, List.foldl_append]
theorem ancs_length (l : List Oper) : (ancs l).length = l.length := by
  have : ∀ (r : List Oper), (ancs r.reverse).length = r.length := by
    intro r
    induction r with
    | nil => rfl
    | cons o r ih => rw [List.reverse_cons, ancs_snoc, List.length_append, ih]; rfl
  have h := this l.reverse
  simpa using h

theorem testBit_two_pow_or {s m i k : Nat} (h : (s ||| 2 ^ k ||| m).testBit i = true) : s.testBit i = true ∨ i = k ∨ m.testBit i = true := by
  rw [Nat.testBit_or, Nat.testBit_or, Nat.testBit_two_pow] at h
  simp only [Bool.or_eq_true, decide_eq_true_eq] at h
  rcases h with (h | h) | h
  · exact .inl h
  · exact .inr (.inl h.symm)
  · exact .inr (.inr h)

theorem fold_bits (d : List Nat) : ∀ (es : List Edge) (s i : Nat), (es.foldl (fun s e => s ||| 2 ^ e.on ||| d.getD e.on 0) s).testBit i = true → s.testBit i = true ∨ ∃ e ∈ es, i = e.on ∨ (d.getD e.on 0).testBit i = true
  | [], s, i, h => .inl h
  | e :: es, s, i, h => by
    rw [List.foldl_cons] at h
    rcases fold_bits d es _ i h with h | ⟨e', he, h⟩
    · rcases testBit_two_pow_or h with h | h | h
      · exact .inl h
      · exact .inr ⟨e, by simp, .inl h⟩
      · exact .inr ⟨e, by simp, .inr h⟩
    · exact .inr ⟨e', by simp [he], h⟩

/-- what holds of an operation's edges holds of all that surely come before it. -/
theorem anc_closed {S : Nat → Prop} : ∀ (r : List Oper), (∀ j, S j → ∀ o, r.reverse[j]? = some o → ∀ e ∈ o.after.toList, Region.binds .any e = true → S e.on) →
    ∀ j o, r.reverse[j]? = some o → (∀ e ∈ o.after.toList, Region.binds .any e = true → S e.on) → ∀ i, ((ancs r.reverse).getD j 0).testBit i = true → S i
  | [], _, j, o, ho, _, i, _ => by simp at ho
  | x :: r, hS, j, o, ho, hj, i, hi => by
    rw [List.reverse_cons] at hS ho hi
    have hS' : ∀ j, S j → ∀ o, r.reverse[j]? = some o → ∀ e ∈ o.after.toList, Region.binds .any e = true → S e.on := fun j hj o ho => hS j hj o (by rw [List.getElem?_append_left (List.getElem?_eq_some_iff.1 ho).1]; exact ho)
    have hlen : (ancs r.reverse).length = r.reverse.length := ancs_length _
    rw [ancs_snoc] at hi
    by_cases hlt : j < r.reverse.length
    · rw [List.getElem?_append_left hlt] at ho
      have e : (ancs r.reverse ++ [ancOf (ancs r.reverse) x]).getD j 0 = (ancs r.reverse).getD j 0 := by
        rw [List.getD_eq_getElem?_getD, List.getElem?_append_left (by omega), ← List.getD_eq_getElem?_getD]
      rw [e] at hi
      exact anc_closed r hS' j o ho hj i hi
    · have hjl := (List.getElem?_eq_some_iff.1 ho).1
      simp only [List.length_append, List.length_cons, List.length_nil] at hjl
      have hje : j = r.reverse.length := by omega
      subst hje
      rw [List.getElem?_append_right (Nat.le_refl _), Nat.sub_self] at ho
      cases ho
      have e : (ancs r.reverse ++ [ancOf (ancs r.reverse) x]).getD r.reverse.length 0 = ancOf (ancs r.reverse) x := by
        rw [List.getD_eq_getElem?_getD, List.getElem?_append_right (by omega), hlen, Nat.sub_self]; rfl
      rw [e] at hi
      unfold ancOf at hi
      rcases fold_bits _ _ 0 i hi with h | ⟨ed, hed, h⟩
      · simp at h
      · rw [List.mem_filter] at hed
        have hs := hj ed hed.1 hed.2
        rcases h with rfl | h
        · exact hs
        · by_cases hb : ed.on < r.reverse.length
          · exact anc_closed r hS' ed.on _ (List.getElem?_eq_getElem hb) (fun e' he' hbi => hS' _ hs _ (List.getElem?_eq_getElem hb) e' he' hbi) i h
          · rw [List.getD_eq_getElem?_getD, List.getElem?_eq_none (by omega)] at h; simp at h

/-! ### The order -/
structure OrdOk (anc : List Nat) (cis : List CI) (order : List Nat) : Prop where
  lt : ∀ (q j : Nat), order[q]? = some j → j < cis.length
  inj : ∀ (q q' j : Nat), order[q]? = some j → order[q']? = some j → q = q'
  before : ∀ (q j i : Nat), order[q]? = some j → (anc.getD j 0).testBit i = true → ∃ q', q' < q ∧ order[q']? = some i
  writer : ∀ (q j : Nat) (c : CI), order[q]? = some j → cis[j]? = some c → isW c.op = true → ∀ (q' i : Nat) (d : CI), q' < q → order[q']? = some i → cis[i]? = some d → isFl d.op = false → (anc.getD j 0).testBit i = true
  names : ∀ (q j : Nat) (c : CI), order[q]? = some j → cis[j]? = some c → namesOk anc cis j c = true

theorem testBit_seen {seen j i : Nat} : (seen ||| 2 ^ j).testBit i = true ↔ seen.testBit i = true ∨ i = j := by
  rw [Nat.testBit_or, Nat.testBit_two_pow, Bool.or_eq_true, decide_eq_true_eq]; exact or_congr Iff.rfl eq_comm

theorem and_eq_sub {a s i : Nat} (h : Nat.beq (a &&& s) a = true) (hi : a.testBit i = true) : s.testBit i = true := by
  have := Nat.eq_of_beq_eq_true h
  rw [← this, Nat.testBit_and, Bool.and_eq_true] at hi
  exact hi.2

theorem orderOk_spec (anc : List Nat) (cis : List CI) : ∀ (l : List Nat) (seen : Nat) (seenL : List Nat), orderOk anc cis l seen seenL = true →
    (∀ (q j : Nat), l[q]? = some j → j < cis.length ∧ seen.testBit j = false) ∧ (∀ (q q' j : Nat), l[q]? = some j → l[q']? = some j → q = q') ∧
    (∀ (q j i : Nat), l[q]? = some j → (anc.getD j 0).testBit i = true → seen.testBit i = true ∨ ∃ q', q' < q ∧ l[q']? = some i) ∧
    (∀ (q j : Nat) (c : CI), l[q]? = some j → cis[j]? = some c → isW c.op = true → (∀ i ∈ seenL, hardIn anc cis j i = true) ∧ ∀ q' i : Nat, q' < q → l[q']? = some i → hardIn anc cis j i = true) ∧
    (∀ (q j : Nat) (c : CI), l[q]? = some j → cis[j]? = some c → namesOk anc cis j c = true)
  | [], seen, _, _ => ⟨fun _ _ h => by simp at h, fun _ _ _ h => by simp at h, fun _ _ _ h => by simp at h, fun _ _ _ h => by simp at h, fun _ _ _ h => by simp at h⟩
  | j0 :: l, seen, seenL, h => by
    unfold orderOk at h
    cases hc : cis[j0]? with
    | none => rw [hc] at h; cases h
    | some c0 =>
      rw [hc] at h
      simp only [Bool.and_eq_true, Bool.not_eq_true', Bool.or_eq_true] at h
      obtain ⟨⟨⟨⟨h1, h2⟩, h3⟩, h4⟩, h5⟩ := h
      obtain ⟨p1, p2, p3, p4, p5⟩ := orderOk_spec anc cis l _ _ h5
      have hj0 := (List.getElem?_eq_some_iff.1 hc).1
      have notj0 : ∀ q, l[q]? ≠ some j0 := fun q hq => by
        have := (p1 q j0 hq).2
        rw [Bool.eq_false_iff] at this
        exact this (testBit_seen.2 (.inr rfl))
      refine ⟨fun q j hq => ?_, fun q q' j hq hq' => ?_, fun q j i hq hi => ?_, fun q j c hq hcj hw => ?_, fun q j c hq hcj => ?_⟩
      · cases q with
        | zero => simp at hq; subst hq; exact ⟨hj0, h1⟩
        | succ q =>
          simp at hq
          obtain ⟨a, b⟩ := p1 q j hq
          refine ⟨a, ?_⟩
          rw [Bool.eq_false_iff] at b ⊢
          exact fun h => b (testBit_seen.2 (.inl h))
      · cases q with
        | zero => cases q' with
          | zero => rfl
          | succ q' => simp at hq hq'; subst hq; exact absurd hq' (notj0 _)
        | succ q => cases q' with
          | zero => simp at hq hq'; subst hq'; exact absurd hq (notj0 _)
          | succ q' => simp at hq hq'; rw [p2 q q' j hq hq']
      · cases q with
        | zero => simp at hq; subst hq; exact .inl (and_eq_sub h2 hi)
        | succ q =>
          simp at hq
          rcases p3 q j i hq hi with h | ⟨q', a, b⟩
          · rcases testBit_seen.1 h with h | rfl
            · exact .inl h
            · exact .inr ⟨0, by omega, by simp⟩
          · exact .inr ⟨q' + 1, by omega, by simpa using b⟩
      · cases q with
        | zero =>
          simp at hq; subst hq; rw [hc] at hcj; cases hcj
          rcases h3 with h3 | h3
          · rw [hw] at h3; cases h3
          · exact ⟨fun i hi => List.all_eq_true.1 h3 i hi, fun q' i hq' => by omega⟩
        | succ q =>
          simp at hq
          obtain ⟨a, b⟩ := p4 q j c hq hcj hw
          refine ⟨fun i hi => a i (by simp [hi]), fun q' i hq' hi => ?_⟩
          cases q' with
          | zero => simp at hi; subst hi; exact a _ (by simp)
          | succ q' => simp at hi; exact b q' i (by omega) hi
      · cases q with
        | zero => simp at hq; subst hq; rw [hc] at hcj; cases hcj; exact h4
        | succ q => simp at hq; exact p5 q j c hq hcj

theorem hardIn_spec {anc : List Nat} {cis : List CI} {j i : Nat} {d : CI} (h : hardIn anc cis j i = true) (hd : cis[i]? = some d) (hf : isFl d.op = false) : (anc.getD j 0).testBit i = true := by
  unfold hardIn at h
  rw [hd] at h
  simpa [hf] using h

theorem ordOk_of {anc : List Nat} {cis : List CI} {order : List Nat} (h : orderOk anc cis order 0 [] = true) : OrdOk anc cis order := by
  obtain ⟨p1, p2, p3, p4, p5⟩ := orderOk_spec anc cis order 0 [] h
  exact ⟨fun q j hq => (p1 q j hq).1, p2, fun q j i hq hi => (p3 q j i hq hi).resolve_left (by simp), fun q j c hq hc hw q' i d hq' hi hd hf => hardIn_spec ((p4 q j c hq hc hw).2 q' i hq' hi) hd hf, p5⟩

theorem namesOk_spec {anc : List Nat} {cis : List CI} {j : Nat} {c : CI} (h : namesOk anc cis j c = true) {x : List Bool} (hx : x ∈ ciNames c) {i : Nat} {d : CI} (hd : cis[i]? = some d) (hdst : d.dst = some x) :
    i = j ∨ (anc.getD j 0).testBit i = true ∨ (anc.getD i 0).testBit j = true := by
  have h1 := List.all_eq_true.1 (List.all_eq_true.1 h x hx) (d, i) (List.mem_zipIdx_iff_getElem?.2 hd)
  simp only [hdst, beqP_refl, Bool.not_true, Bool.false_or, Bool.or_eq_true, beq_iff_eq] at h1
  rcases h1 with (h1 | h1) | h1
  · exact .inl h1
  · exact .inr (.inl h1)
  · exact .inr (.inr h1)

/-! ### The states on the way -/
theorem drawOps_nil (ih : IH) (bs : List (Nat × H)) (s : Slots) (h : H) : drawOps ih [] bs s h = some (s, h) := rfl
theorem drawOps_cons (ih : IH) (o : CI) (l : List CI) (bs : List (Nat × H)) (s : Slots) (h : H) : drawOps ih (o :: l) bs s h = (drawStep ih o bs s h).bind fun x => drawOps ih l x.2.2 (putDst o.dst x.1 s) x.2.1 := rfl

/-- how many writers stand ahead of a place. -/
def wcount (l : List CI) (q : Nat) : Nat := ((l.take q).filter fun c => isW c.op).length
/-- a place at which a phase begins. -/
def IsBase (l : List CI) (q : Nat) : Prop := q = 0 ∨ ∃ p c, q = p + 1 ∧ l[p]? = some c ∧ isW c.op = true

structure Tr (ih : IH) (l : List CI) (ss : Nat → Slots) (hs : Nat → H) (vs : Nat → Value) : Prop where
  slots : ∀ (q : Nat) c, l[q]? = some c → ss (q + 1) = putDst c.dst (vs q) (ss q)
  step : ∀ (q : Nat) c, l[q]? = some c → ∃ b, wantedC c.guard (ss q) = some b ∧ (b = false → vs q = undefV ∧ hs (q + 1) = hs q) ∧
    (b = true → isW c.op = true → doOp ih c.op (ss q) (hs q) = some (vs q, hs (q + 1))) ∧
    (b = true → isW c.op = false → isRd c.op = false → opV c.op (ss q) (hs q) = some (vs q, hs (q + 1))) ∧
    (b = true → isW c.op = false → isRd c.op = true → hs (q + 1) = hs q ∧ ∀ p, p ≤ q → IsBase l p → c.lo ≤ wcount l p → opV c.op (ss q) (hs p) = some (vs q, hs p))

theorem readsAs_spec {op : COp} {s : Slots} {lo : Nat} {v : Value} : ∀ {bs : List (Nat × H)}, readsAs op s lo v bs = true → ∀ x ∈ bs, lo ≤ x.1 → ∃ h', opV op s x.2 = some (v, h')
  | [], _, x, hx, _ => by cases hx
  | y :: bs, h, x, hx, hlo => by
    unfold readsAs at h
    rcases List.mem_cons.1 hx with rfl | hx
    · have : ¬ Nat.blt x.1 lo = true := by
        simp only [Nat.blt_eq]; omega
      rw [if_neg this] at h
      split at h
      · rename_i y hy
        rw [Bool.and_eq_true] at h
        obtain ⟨v', h'⟩ := y
        rw [eqVal_eq h.1]; exact ⟨h', hy⟩
      · cases h
    · refine readsAs_spec ?_ x hx hlo
      split at h
      · exact h
      · split at h
        · rw [Bool.and_eq_true] at h; exact h.2
        · cases h

/-- the run gives the states. -/
theorem tr_of {ih : IH} : ∀ (l pre : List CI) (bs : List (Nat × H)) (ss0 : Nat → Slots) (hs0 : Nat → H) (vs0 : Nat → Value) (sF : Slots) (hF : H), Tr ih pre ss0 hs0 vs0 →
    (∃ r, bs = (wcount pre pre.length, r) :: bs.tail) → (∀ p, p ≤ pre.length → IsBase pre p → (wcount pre p, hs0 p) ∈ bs) → drawOps ih l bs (ss0 pre.length) (hs0 pre.length) = some (sF, hF) →
    ∃ ss hs vs, Tr ih (pre ++ l) ss hs vs ∧ (∀ q, q ≤ pre.length → ss q = ss0 q ∧ hs q = hs0 q) ∧ ss (pre ++ l).length = sF ∧ hs (pre ++ l).length = hF
  | [], pre, bs, ss0, hs0, vs0, sF, hF, ht, hb, hbs, hrun => by
    rw [drawOps_nil] at hrun; cases hrun
    exact ⟨ss0, hs0, vs0, by simpa using ht, fun q _ => ⟨rfl, rfl⟩, by simp, by simp⟩
  | o :: l, pre, bs, ss0, hs0, vs0, sF, hF, ht, hb, hbs, hrun => by
    rw [drawOps_cons] at hrun
    obtain ⟨⟨v, h1, bs1⟩, hstep, hrest⟩ := aof hrun
    obtain ⟨b, hwant, hstep⟩ := aof hstep
    let n := pre.length
    let ss1 : Nat → Slots := fun q => if q ≤ n then ss0 q else putDst o.dst v (ss0 n)
    let hs1 : Nat → H := fun q => if q ≤ n then hs0 q else h1
    let vs1 : Nat → Value := fun q => if q < n then vs0 q else v
    have s1a : ∀ q, q ≤ n → ss1 q = ss0 q := fun q hq => if_pos hq
    have h1a : ∀ q, q ≤ n → hs1 q = hs0 q := fun q hq => if_pos hq
    have v1a : ∀ q, q < n → vs1 q = vs0 q := fun q hq => if_pos hq
    have s1b : ss1 (n + 1) = putDst o.dst v (ss0 n) := if_neg (by omega)
    have h1b : hs1 (n + 1) = h1 := if_neg (by omega)
    have v1b : vs1 n = v := if_neg (by omega)
    have len1 : (pre ++ [o]).length = n + 1 := by simp [n]
    have get1 : ∀ (q : Nat) c, (pre ++ [o])[q]? = some c → (q < n ∧ pre[q]? = some c) ∨ (q = n ∧ c = o) := by
      intro q c hq
      by_cases hlt : q < n
      · rw [List.getElem?_append_left hlt] at hq; exact .inl ⟨hlt, hq⟩
      · have := (List.getElem?_eq_some_iff.1 hq).1
        have hqn : q = n := by rw [len1] at this; omega
        subst hqn
        rw [List.getElem?_append_right (Nat.le_refl _)] at hq
        simp [n] at hq
        exact .inr ⟨rfl, hq.symm⟩
    have wc1 : ∀ q, q ≤ n → wcount (pre ++ [o]) q = wcount pre q := fun q hq => by unfold wcount; rw [List.take_append_of_le_length hq]
    have wc2 : wcount (pre ++ [o]) (n + 1) = wcount pre n + if isW o.op = true then 1 else 0 := by
      unfold wcount
      rw [← len1, List.take_length, List.filter_append, List.length_append]
      simp only [n, List.take_length]
      by_cases hw : isW o.op = true <;> simp [hw]
    have base1 : ∀ p, p ≤ n → (IsBase (pre ++ [o]) p ↔ IsBase pre p) := by
      intro p hp
      constructor
      · rintro (rfl | ⟨p', c, rfl, hc, hw⟩)
        · exact .inl rfl
        · rw [List.getElem?_append_left (by omega)] at hc; exact .inr ⟨p', c, rfl, hc, hw⟩
      · rintro (rfl | ⟨p', c, rfl, hc, hw⟩)
        · exact .inl rfl
        · exact .inr ⟨p', c, rfl, by rw [List.getElem?_append_left (by omega)]; exact hc, hw⟩
    have base2 : IsBase (pre ++ [o]) (n + 1) → isW o.op = true := by
      rintro (h | ⟨p', c, h, hc, hw⟩)
      · omega
      · have : p' = n := by omega
        subst this
        rw [List.getElem?_append_right (Nat.le_refl _)] at hc
        simp [n] at hc; subst hc; exact hw
    -- the step itself
    have key : (b = false → v = undefV ∧ h1 = hs0 n) ∧ (b = true → isW o.op = true → doOp ih o.op (ss0 n) (hs0 n) = some (v, h1)) ∧
        (b = true → isW o.op = false → isRd o.op = false → opV o.op (ss0 n) (hs0 n) = some (v, h1)) ∧
        (b = true → isW o.op = false → isRd o.op = true → h1 = hs0 n ∧ ∀ p, p ≤ n → IsBase pre p → o.lo ≤ wcount pre p → opV o.op (ss0 n) (hs0 p) = some (v, hs0 p)) ∧
        ((isW o.op = true → bs1 = (nextB bs, h1) :: bs) ∧ (isW o.op = false → bs1 = bs)) := by
      cases b with
      | false =>
        simp only [Option.some.injEq, Prod.mk.injEq] at hstep
        obtain ⟨rfl, rfl, rfl⟩ := hstep
        exact ⟨fun _ => ⟨rfl, rfl⟩, nofun, nofun, nofun, fun hw => by rw [if_pos hw], fun hw => by rw [if_neg (by simp [hw])]⟩
      | true =>
        simp only [drawDo] at hstep
        by_cases hw : isW o.op = true
        · rw [if_pos hw] at hstep
          obtain ⟨x, hx, e⟩ := amf hstep
          simp only [Prod.mk.injEq] at e
          obtain ⟨rfl, rfl, rfl⟩ := e
          exact ⟨nofun, fun _ _ => hx, fun _ h => by (rw [hw] at h; cases h), fun _ h => by (rw [hw] at h; cases h), fun _ => rfl, fun h => by (rw [hw] at h; cases h)⟩
        · rw [if_neg hw] at hstep
          have hw' : isW o.op = false := by simpa using hw
          by_cases hr : isRd o.op = true
          · rw [if_pos hr] at hstep
            obtain ⟨r, hr0⟩ := hb
            rw [hr0] at hstep
            unfold drawRd at hstep
            obtain ⟨⟨v', h'⟩, hy, hstep⟩ := aof hstep
            split at hstep
            · rename_i hreads
              simp only [Option.some.injEq, Prod.mk.injEq] at hstep
              obtain ⟨rfl, rfl, rfl⟩ := hstep
              refine ⟨nofun, fun _ h => absurd h hw, fun _ _ h => by (rw [hr] at h; cases h), fun _ _ _ => ⟨rfl, fun p hp hbase hlo => ?_⟩, fun h => absurd h hw, fun _ => hr0.symm⟩
              have hm := hbs p hp hbase
              rw [hr0] at hm
              have fix : ∀ {g : H} {h''}, opV o.op (ss0 n) g = some (v', h'') → opV o.op (ss0 n) g = some (v', g) := by
                intro g h'' hg
                have := (read_float hr (n := g.next) (m := g.mem) hg).1
                rw [this] at hg; exact hg
              rcases List.mem_cons.1 hm with hm | hm
              · rw [Prod.mk.injEq] at hm
                rw [hm.2]; exact fix hy
              · obtain ⟨h'', hx⟩ := readsAs_spec hreads _ hm hlo
                exact fix hx
            · cases hstep
          · rw [if_neg hr] at hstep
            obtain ⟨x, hx, e⟩ := amf hstep
            simp only [Prod.mk.injEq] at e
            obtain ⟨rfl, rfl, rfl⟩ := e
            exact ⟨nofun, fun _ h => absurd h hw, fun _ _ _ => hx, fun _ _ h => absurd h hr, fun h => absurd h hw, fun _ => rfl⟩
    obtain ⟨k1, k2, k3, k4, k5, k6⟩ := key
    have ht1 : Tr ih (pre ++ [o]) ss1 hs1 vs1 := by
      refine ⟨fun q c hq => ?_, fun q c hq => ?_⟩
      · rcases get1 q c hq with ⟨hlt, hc⟩ | ⟨rfl, rfl⟩
        · rw [s1a (q + 1) (by omega), s1a q (by omega), v1a q hlt]; exact ht.slots q c hc
        · rw [s1b, s1a n (Nat.le_refl _), v1b]
      · rcases get1 q c hq with ⟨hlt, hc⟩ | ⟨rfl, rfl⟩
        · rw [s1a q (by omega), v1a q hlt, h1a q (by omega), h1a (q + 1) (by omega)]
          obtain ⟨b', a1, a2, a3, a4, a5⟩ := ht.step q c hc
          refine ⟨b', a1, a2, a3, a4, fun x1 x2 x3 => ⟨(a5 x1 x2 x3).1, fun p hp hbase hlo => ?_⟩⟩
          rw [wc1 p (by omega)] at hlo
          rw [h1a p (by omega)]
          exact (a5 x1 x2 x3).2 p hp ((base1 p (by omega)).1 hbase) hlo
        · rw [s1a n (Nat.le_refl _), v1b, h1a n (Nat.le_refl _), h1b]
          refine ⟨b, hwant, k1, k2, k3, fun x1 x2 x3 => ⟨(k4 x1 x2 x3).1, fun p hp hbase hlo => ?_⟩⟩
          rw [wc1 p hp] at hlo
          rw [h1a p hp]
          exact (k4 x1 x2 x3).2 p hp ((base1 p hp).1 hbase) hlo
    obtain ⟨ss, hs, vs, q1, q2, q3, q4⟩ := tr_of l (pre ++ [o]) bs1 ss1 hs1 vs1 sF hF ht1
      (by
        obtain ⟨r, hr0⟩ := hb
        rw [len1, wc2]
        by_cases hw : isW o.op = true
        · rw [if_pos hw, k5 hw]; refine ⟨h1, ?_⟩; rw [hr0]; simp [nextB, n]
        · rw [if_neg hw, k6 (by simpa using hw)]; exact ⟨r, by simpa using hr0⟩)
      (by
        intro p hp hbase
        rw [len1] at hp
        by_cases hpn : p ≤ n
        · rw [wc1 p hpn, h1a p hpn]
          have := hbs p hpn ((base1 p hpn).1 hbase)
          by_cases hw : isW o.op = true
          · rw [k5 hw]; exact List.mem_cons_of_mem _ this
          · rw [k6 (by simpa using hw)]; exact this
        · have : p = n + 1 := by omega
          subst this
          have hw := base2 hbase
          obtain ⟨r, hr0⟩ := hb
          rw [wc2, if_pos hw, h1b, k5 hw]
          have : nextB bs = wcount pre n + 1 := by rw [hr0]; rfl
          rw [this]; exact List.mem_cons_self)
      (by rw [len1, s1b, h1b]; exact hrest)
    refine ⟨ss, hs, vs, by simpa using q1, fun q hq => ?_, by simpa using q3, by simpa using q4⟩
    obtain ⟨r1, r2⟩ := q2 q (by rw [len1]; have : q ≤ n := hq; omega)
    exact ⟨r1.trans (s1a q hq), r2.trans (h1a q hq)⟩

theorem tr_exists {ih : IH} {l : List CI} {s : Slots} {h : H} {sF : Slots} {hF : H} (hrun : drawOps ih l [(0, h)] s h = some (sF, hF)) :
    ∃ ss hs vs, Tr ih l ss hs vs ∧ ss 0 = s ∧ hs 0 = h ∧ ss l.length = sF ∧ hs l.length = hF := by
  obtain ⟨ss, hs, vs, q1, q2, q3, q4⟩ := tr_of l [] [(0, h)] (fun _ => s) (fun _ => h) (fun _ => undefV) sF hF ⟨fun _ _ h => by simp at h, fun _ _ h => by simp at h⟩ ⟨h, rfl⟩
    (fun p hp _ => by simp at hp; subst hp; simp [wcount]) hrun
  exact ⟨ss, hs, vs, by simpa using q1, (q2 0 (Nat.zero_le _)).1, (q2 0 (Nat.zero_le _)).2, by simpa using q3, by simpa using q4⟩
end Go.Ideal
/- Regions that draw their order: the given machine takes the operations in any order that the edges allow; the ideal machine in one of its own. -/
namespace Go.Ideal
variable {P : Program}

def cut (ρ : Rho) (m : Nat) : Rho := fun i => if i < m then ρ i else none
theorem cut_some {ρ : Rho} {m i : Nat} {R : RB} : cut ρ m i = some R ↔ i < m ∧ ρ i = some R := by
  unfold cut
  split
  · rename_i h; exact ⟨fun e => ⟨h, e⟩, fun e => e.2⟩
  · rename_i h; exact ⟨fun e => (by cases e), fun e => absurd e.1 h⟩
theorem cut_le (ρ : Rho) (m : Nat) : RhoLe (cut ρ m) ρ := fun _ _ h => (cut_some.1 h).2
theorem cut_mono {ρ σ : Rho} {m m' : Nat} (h : RhoLe ρ σ) (hm : m ≤ m') : RhoLe (cut ρ m) (cut σ m') := fun i R hi => by
  obtain ⟨h1, h2⟩ := cut_some.1 hi
  exact cut_some.2 ⟨by omega, h i R h2⟩

theorem HR.get_lt {ρ : Rho} {h : H} {w : World} (hr : HR P ρ h w) {i : Nat} {o : IObj} (hg : h.get i = some o) : i < h.next := hr.lt hg

theorem HR.lift {ρ : Rho} {B : H} {w : World} {m : Nat} (hr : HR P (cut ρ B.next) B w) (hm : B.next ≤ m) (hb : ∀ i R, ρ i = some R → R.blk < w.heap.size) : HR P (cut ρ m) ⟨m, B.mem⟩ w where
  obj := fun i R o hi ho => by
    have ho' : B.get i = some o := ho
    exact (hr.obj i R o (cut_some.2 ⟨hr.lt ho', (cut_some.1 hi).2⟩) ho').mono (cut_mono (fun _ _ h => h) hm) rfl
  nxt := fun i hi => by
    have hi' : m ≤ i := hi
    exact ⟨by unfold cut; rw [if_neg (by omega)], (hr.nxt i (by omega)).2⟩
  sep := fun i j R S hi hj ai aj e => by
    obtain ⟨x, hx, hxd⟩ := ai
    obtain ⟨y, hy, hyd⟩ := aj
    have hx' : B.get i = some x := hx
    have hy' : B.get j = some y := hy
    exact hr.sep i j R S (cut_some.2 ⟨hr.lt hx', (cut_some.1 hi).2⟩) (cut_some.2 ⟨hr.lt hy', (cut_some.1 hj).2⟩) ⟨x, hx', hxd⟩ ⟨y, hy', hyd⟩ e
  blk := fun i R hi => hb i R (cut_some.1 hi).2

theorem HR.addLate {ρ : Rho} {h : H} {w : World} {R : RB} {io : IObj} (hr : HR P (cut ρ h.next) h w) (hR : ρ h.next = some R) (ho : OR P (cut ρ (h.next + 1)) w R io) (hlt : R.blk < w.heap.size)
    (hinj : ∀ i S, ρ i = some S → S.blk = R.blk → i = h.next) : HR P (cut ρ (h.next + 1)) (h.new io) w where
  obj := fun i S o hi hg => by
    obtain ⟨h1, h2⟩ := cut_some.1 hi
    rw [H.get_new] at hg
    by_cases e : h.next = i
    · rw [if_pos e] at hg; cases hg; subst e; rw [hR] at h2; cases h2; exact ho
    · rw [if_neg e] at hg
      exact (hr.obj i S o (cut_some.2 ⟨by omega, h2⟩) hg).mono (cut_mono (fun _ _ h => h) (by omega)) rfl
  nxt := fun i hi => by
    rw [H.next_new] at hi
    exact ⟨by unfold cut; rw [if_neg (by omega)], by rw [H.get_new, if_neg (by omega)]; exact (hr.nxt i (by omega)).2⟩
  sep := fun i j S T hi hj ai aj e => by
    obtain ⟨h1, h2⟩ := cut_some.1 hi
    obtain ⟨h3, h4⟩ := cut_some.1 hj
    by_cases ei : i = h.next
    · subst ei; rw [hR] at h2; cases h2; exact (hinj j T h4 e.symm).symm
    · by_cases ej : j = h.next
      · subst ej; rw [hR] at h4; cases h4; exact hinj i S h2 e
      · have k : ∀ i, i ≠ h.next → alive (h.new io) i → alive h i := by
          intro i hne ⟨x, hx, hxd⟩
          rw [H.get_new, if_neg (fun h => hne h.symm)] at hx
          exact ⟨x, hx, hxd⟩
        exact hr.sep i j S T (cut_some.2 ⟨by omega, h2⟩) (cut_some.2 ⟨by omega, h4⟩) (k i ei ai) (k j ej aj) e
  blk := fun i S hi => by
    obtain ⟨h1, h2⟩ := cut_some.1 hi
    by_cases ei : i = h.next
    · subst ei; rw [hR] at h2; cases h2; exact hlt
    · exact hr.blk i S (cut_some.2 ⟨by omega, h2⟩)

theorem allO_get {α β : Type} {f : α → Option β} : ∀ {xs : List α} {ys : List β}, allO f xs = some ys → ys.length = xs.length ∧ ∀ (i : Nat) x, xs[i]? = some x → ∃ y, f x = some y ∧ ys[i]? = some y
  | [], ys, h => by cases h; exact ⟨rfl, fun i x hx => by simp at hx⟩
  | x :: xs, ys, h => by
    obtain ⟨y, hy, h⟩ := aof h
    obtain ⟨zs, hz, rfl⟩ := amf h
    obtain ⟨h1, h2⟩ := allO_get hz
    refine ⟨by simp [h1], fun i u hu => ?_⟩
    cases i with
    | zero => simp at hu; subst hu; exact ⟨y, hy, rfl⟩
    | succ i => simp at hu; obtain ⟨v, a, b⟩ := h2 i u hu; exact ⟨v, a, by simpa using b⟩

/-- how far a task's heap goes. -/
def nextT : Task → Nat
  | .code _ _ h => h.next
  | .call _ _ h => h.next
def nextO : Out → Nat
  | .nrm _ h => h.next
  | .exit _ _ h => h.next
  | .ret _ h => h.next
  | .val _ h => h.next

theorem doOp_next {ih : IH} (hnx : ∀ t o, ih t = some o → nextT t ≤ nextO o) {op : COp} {s : Slots} {h : H} {v : Value} {h' : H} (hv : doOp ih op s h = some (v, h')) : h.next ≤ h'.next := by
  by_cases hc : ∃ f as, op = .call f as
  · obtain ⟨f, as, rfl⟩ := hc
    obtain ⟨u, hu, hv⟩ := aof hv
    obtain ⟨l, hl, hv⟩ := aof hv
    obtain ⟨o, ho, hv⟩ := aof hv
    have := hnx _ _ ho
    cases o <;> simp only [valOf, Option.some.injEq, Prod.mk.injEq, reduceCtorEq] at hv
    obtain ⟨rfl, rfl⟩ := hv
    exact this
  · have e : doOp ih op s h = opV op s h := by cases op <;> first | rfl | exact absurd ⟨_, _, rfl⟩ hc
    rw [e] at hv
    exact opV_next hv

/-! ### The region -/
structure Reg (P : Program) (ih : IH) (M N : Nat) (ex : Nat → Prop) (ops : Array Oper) (cis l : List CI) (order ws : List Nat) (ss : Nat → Slots) (hs : Nat → H) (vs : Nat → Value) : Prop where
  hih : ∀ t o, ih t = some o → Sound P M t o
  hnx : ∀ t o, ih t = some o → nextT t ≤ nextO o
  hcis : allO (compileOper P N ops) ops.toList = some cis
  hord : OrdOk (ancs ops.toList) cis order
  hsur : ∀ i, i < cis.length → ¬ ex i → ∃ q : Nat, order[q]? = some i
  hex : ∀ q i : Nat, order[q]? = some i → ¬ ex i
  hws : ws = wsOf cis
  hl : permute (ancs ops.toList) cis order = some l
  htr : Tr ih l ss hs vs

theorem isFl_spec {op : COp} (h : isFl op = true) : isW op = false ∧ isRd op = false ∧ opClass op = .pure := by
  cases op <;> first
    | (rename_i b as; cases b <;> simp [isFl, isW, isRd, opClass] at h ⊢; done)
    | (simp [isFl, isW, isRd, opClass] at h ⊢; done)

structure At (P : Program) (N : Nat) (ops : Array Oper) (cis l : List CI) (order ws : List Nat) (q j : Nat) (o : Oper) (c : CI) : Prop where
  ord : order[q]? = some j
  op : ops[j]? = some o
  ci : cis[j]? = some c
  comp : compileOper P N ops o = some c
  can : l[q]? = some { c with lo := loOf (ancs ops.toList) ws j }

section
variable {ih : IH} {M N : Nat} {ex : Nat → Prop} {ops : Array Oper} {cis l : List CI} {order ws : List Nat} {ss : Nat → Slots} {hs : Nat → H} {vs : Nat → Value}

theorem Reg.cisLen (G : Reg P ih M N ex ops cis l order ws ss hs vs) : cis.length = ops.size := by have := (allO_get G.hcis).1; simpa using this
theorem Reg.ordLen (G : Reg P ih M N ex ops cis l order ws ss hs vs) : order.length = l.length := (allO_get G.hl).1.symm

theorem Reg.at (G : Reg P ih M N ex ops cis l order ws ss hs vs) {q : Nat} (hq : q < l.length) : ∃ j o c, At P N ops cis l order ws q j o c := by
  have hq' : q < order.length := by rw [G.ordLen]; exact hq
  have hj := G.hord.lt q _ (List.getElem?_eq_getElem hq')
  have hjo : order[q] < ops.size := by rw [← G.cisLen]; exact hj
  obtain ⟨y, hy, hyl⟩ := (allO_get G.hl).2 q _ (List.getElem?_eq_getElem hq')
  obtain ⟨c, hc, rfl⟩ := amf hy
  have hws := G.hws
  subst hws
  obtain ⟨c', hc', hcl⟩ := (allO_get G.hcis).2 order[q] ops[order[q]] (by simp [hjo])
  rw [hcl] at hc; cases hc
  exact ⟨order[q], ops[order[q]], _, List.getElem?_eq_getElem hq', by simp [hjo], hcl, hc', hyl⟩

theorem Reg.atOp (G : Reg P ih M N ex ops cis l order ws ss hs vs) {j : Nat} (hj : j < ops.size) (hx : ¬ ex j) : ∃ q, q < l.length ∧ order[q]? = some j := by
  obtain ⟨q, hq⟩ := G.hsur j (by rw [G.cisLen]; exact hj) hx
  exact ⟨q, by have := (List.getElem?_eq_some_iff.1 hq).1; rw [G.ordLen] at this; exact this, hq⟩

theorem At.lt {q j : Nat} {o : Oper} {c : CI} (G : Reg P ih M N ex ops cis l order ws ss hs vs) (A : At P N ops cis l order ws q j o c) : q < l.length := by
  have := (List.getElem?_eq_some_iff.1 A.ord).1; rw [G.ordLen] at this; exact this

/-- what is put at a place. -/
def dstAt (l : List CI) (q : Nat) : Option (List Bool) := (l[q]?).bind (·.dst)
theorem At.dst {q j : Nat} {o : Oper} {c : CI} (A : At P N ops cis l order ws q j o c) : dstAt l q = c.dst := by unfold dstAt; rw [A.can]; rfl

theorem Reg.nextStep (G : Reg P ih M N ex ops cis l order ws ss hs vs) {q : Nat} (hq : q < l.length) : (hs q).next ≤ (hs (q + 1)).next := by
  obtain ⟨j, o, c, A⟩ := G.at hq
  obtain ⟨b, hb, h1, h2, h3, h4⟩ := G.htr.step q _ A.can
  cases b with
  | false => rw [(h1 rfl).2]; exact Nat.le_refl _
  | true =>
    by_cases hw : isW c.op = true
    · exact doOp_next G.hnx (h2 rfl hw)
    · by_cases hr : isRd c.op = true
      · rw [(h4 rfl (by simpa using hw) hr).1]; exact Nat.le_refl _
      · exact opV_next (h3 rfl (by simpa using hw) (by simpa using hr))
theorem Reg.nextMono (G : Reg P ih M N ex ops cis l order ws ss hs vs) {p : Nat} : ∀ {q : Nat}, p ≤ q → q ≤ l.length → (hs p).next ≤ (hs q).next
  | 0, h, _ => by have : p = 0 := by omega
                  subst this; exact Nat.le_refl _
  | q + 1, h, hq => by
    by_cases e : p = q + 1
    · subst e; exact Nat.le_refl _
    · exact Nat.le_trans (G.nextMono (q := q) (by omega) (by omega)) (G.nextStep (by omega))

/-- where a slot has its value from. -/
theorem Reg.slotAt (G : Reg P ih M N ex ops cis l order ws ss hs vs) (p : List Bool) : ∀ {q : Nat}, q ≤ l.length →
    (∃ q1, q1 < q ∧ dstAt l q1 = some p ∧ (∀ q', q1 < q' → q' < q → dstAt l q' ≠ some p) ∧ (ss q).get p = some (vs q1)) ∨ ((∀ q', q' < q → dstAt l q' ≠ some p) ∧ (ss q).get p = (ss 0).get p)
  | 0, _ => .inr ⟨fun q' h => by omega, rfl⟩
  | q + 1, hq => by
    obtain ⟨j, o, c, A⟩ := G.at (q := q) (by omega)
    have hs1 := G.htr.slots q _ A.can
    have hd : dstAt l q = c.dst := A.dst
    by_cases e : c.dst = some p
    · refine .inl ⟨q, by omega, hd.trans e, fun q' h1 h2 => by omega, ?_⟩
      rw [hs1]
      show (putDst c.dst (vs q) (ss q)).get p = _
      rw [e]; exact PT.get_set_same _ _ _
    · have hg : (ss (q + 1)).get p = (ss q).get p := by
        rw [hs1]
        show (putDst c.dst (vs q) (ss q)).get p = _
        cases hcd : c.dst with
        | none => rfl
        | some u => exact PT.get_set_ne _ _ _ _ (fun h => e (by rw [hcd, h]))
      rw [hg]
      rcases G.slotAt p (q := q) (by omega) with ⟨q1, h1, h2, h3, h4⟩ | ⟨h1, h2⟩
      · refine .inl ⟨q1, by omega, h2, fun q' a b => ?_, h4⟩
        by_cases eq : q' = q
        · subst eq; rw [hd]; exact e
        · exact h3 q' a (by omega)
      · refine .inr ⟨fun q' a => ?_, h2⟩
        by_cases eq : q' = q
        · subst eq; rw [hd]; exact e
        · exact h1 q' (by omega)

/-! ### What holds on the way -/
structure Inv (P : Program) (N : Nat) (n : Nat) (l : List CI) (ss : Nat → Slots) (hs : Nat → H) (vs : Nat → Value) (ρ0 : Rho) (w0 : World) (Ds : List Nat) (live : Prop) (D : Nat → Prop) (pb : Nat) (ρ : Rho) (a : Act) (w : World) : Prop where
  base : live → IsBase l pb
  le : pb ≤ n
  done : ∀ q c, q < pb → l[q]? = some c → isFl c.op = false → D q
  now : ∀ q c, pb ≤ q → D q → l[q]? = some c → isW c.op = false
  hr : live → HR P (cut ρ (hs pb).next) (hs pb) w
  fl : ∀ q, pb ≤ q → q < n → D q → ∀ io, hs (q + 1) = (hs q).new io → ∃ R, ρ (hs q).next = some R ∧ OR P (cut ρ (hs (q + 1)).next) w R io ∧ ∀ i S, ρ i = some S → S.blk = R.blk → i = (hs q).next
  blk : ∀ i R, ρ i = some R → R.blk < w.heap.size
  dom : ∀ i R, ρ i = some R → i < (hs pb).next ∨ ∃ q io, pb ≤ q ∧ q < n ∧ D q ∧ hs (q + 1) = (hs q).new io ∧ i = (hs q).next
  old : ∀ t : Nat, (∀ q, D q → dstAt l q ≠ some (bits t)) → ∀ v, (ss 0).get (bits t) = some v → ∃ v', a.tmps[t]? = some v' ∧ VR ρ0 v v'
  new : ∀ q, q < n → D q → ∀ t : Nat, dstAt l q = some (bits t) → (∀ q', q < q' → D q' → dstAt l q' ≠ some (bits t)) → ∃ v', a.tmps[t]? = some v' ∧ VR (cut ρ (hs (q + 1)).next) (vs q) v'
  size : a.tmps.size = N
  defers : a.defers = Ds.map markOf
  ext : Ext ρ0 w0 ρ w
  zero : ∀ i R, ρ0 i = some R → i < (hs 0).next

variable {ρ0 ρ : Rho} {w0 w : World} {Ds : List Nat} {live : Prop} {D : Nat → Prop} {pb : Nat} {a : Act}

/-- the heap as it stands ahead of a place all before which is done. -/
theorem Inv.absorb (G : Reg P ih M N ex ops cis l order ws ss hs vs) (hlive : live) (I : Inv P N l.length l ss hs vs ρ0 w0 Ds live D pb ρ a w) : ∀ {q : Nat}, pb ≤ q → q ≤ l.length → (∀ p c, p < q → l[p]? = some c → isFl c.op = false → D p) → HR P (cut ρ (hs q).next) (hs q) w
  | 0, h, _, _ => by have : pb = 0 := by omega
                     subst this; exact I.hr hlive
  | q + 1, h, hq, hD => by
    by_cases e : pb = q + 1
    · subst e; exact I.hr hlive
    · have hr := I.absorb G hlive (q := q) (by omega) (by omega) (fun p c hp hc hf => hD p c (by omega) hc hf)
      obtain ⟨j, o, c, A⟩ := G.at (q := q) (by omega)
      obtain ⟨b, hb, h1, h2, h3, h4⟩ := G.htr.step q _ A.can
      cases b with
      | false => rw [(h1 rfl).2]; exact hr
      | true =>
        by_cases hf : isFl c.op = true
        · obtain ⟨k1, k2, k3⟩ := isFl_spec hf
          rw [(pure_float k1 k2 k3 (h3 rfl k1 k2)).1]; exact hr
        · have hDq := hD q _ (by omega) A.can (by simpa using hf)
          have hw0 := I.now q _ (by omega) hDq A.can
          have hw : isW c.op = false := hw0
          by_cases hrd : isRd c.op = true
          · rw [(h4 rfl hw hrd).1]; exact hr
          · have hop := h3 rfl hw (by simpa using hrd)
            rcases isW_class hw with hc | hc
            · rw [(pure_float hw (by simpa using hrd) hc hop).1]; exact hr
            · obtain ⟨f, io, -, e2, -⟩ := alloc_float hc hop
              obtain ⟨R, hR, ho, hinj⟩ := I.fl q (by omega) (by omega) hDq io e2
              rw [e2] at ho ⊢
              exact hr.addLate hR ho (I.blk _ _ hR) hinj

/-- what is being done. -/
structure Now (P : Program) (N : Nat) (ops : Array Oper) (cis l : List CI) (order ws : List Nat) (D : Nat → Prop) (q j : Nat) (o : Oper) (c : CI) : Prop where
  A : At P N ops cis l order ws q j o c
  not : ¬ D q
  anc : ∀ i, ((ancs ops.toList).getD j 0).testBit i = true → ∃ p, order[p]? = some i ∧ D p
  down : ∀ p i k, D p → order[p]? = some i → ((ancs ops.toList).getD i 0).testBit k = true → ∃ p', order[p']? = some k ∧ D p'
  lt : ∀ p, D p → p < l.length

variable {q j : Nat} {o : Oper} {c : CI}

theorem Now.later (G : Reg P ih M N ex ops cis l order ws ss hs vs) (W : Now P N ops cis l order ws D q j o c) {p : Nat} (hp : D p) (hq : q < p) {x : List Bool} (hx : x ∈ ciNames c) : dstAt l p ≠ some x := by
  intro hd
  obtain ⟨i, o', d, A'⟩ := G.at (W.lt p hp)
  rw [A'.dst] at hd
  rcases namesOk_spec (G.hord.names q j c W.A.ord W.A.ci) hx A'.ci hd with h | h | h
  · subst h; have := G.hord.inj q p _ W.A.ord A'.ord; omega
  · obtain ⟨q', h1, h2⟩ := G.hord.before q j i W.A.ord h
    have := G.hord.inj q' p _ h2 A'.ord; omega
  · obtain ⟨p', h1, h2⟩ := W.down p i j hp A'.ord h
    have := G.hord.inj p' q _ h1 W.A.ord
    subst this; exact W.not h2

theorem Now.earlier (G : Reg P ih M N ex ops cis l order ws ss hs vs) (W : Now P N ops cis l order ws D q j o c) {p : Nat} (hq : p < q) {x : List Bool} (hx : x ∈ ciNames c) (hd : dstAt l p = some x) : D p := by
  have hps : p < l.length := by have := W.A.lt G; omega
  obtain ⟨i, o', d, A'⟩ := G.at hps
  rw [A'.dst] at hd
  rcases namesOk_spec (G.hord.names q j c W.A.ord W.A.ci) hx A'.ci hd with h | h | h
  · subst h; have := G.hord.inj q p _ W.A.ord A'.ord; omega
  · obtain ⟨p', h1, h2⟩ := W.anc i h
    have := G.hord.inj p' p _ h1 A'.ord
    subst this; exact h2
  · obtain ⟨p', h1, h2⟩ := G.hord.before p i j A'.ord h
    have := G.hord.inj p' q _ h2 W.A.ord; omega

/-- the slots that the operation names are as the ideal machine has them. -/
theorem Inv.slots (G : Reg P ih M N ex ops cis l order ws ss hs vs) (I : Inv P N l.length l ss hs vs ρ0 w0 Ds live D pb ρ a w) (W : Now P N ops cis l order ws D q j o c) : SR (cut ρ (hs q).next) (keepS (ciNames c) (ss q)) a.tmps := by
  intro t v hv
  have hqs := W.A.lt G
  rw [keepS_get] at hv
  split at hv
  · rename_i hx
    rcases G.slotAt (bits t) (q := q) (by omega) with ⟨q1, h1, h2, h3, h4⟩ | ⟨h1, h2⟩
    · have hD1 := W.earlier G h1 hx h2
      rw [h4] at hv; cases hv
      obtain ⟨v', a1, a2⟩ := I.new q1 (by omega) hD1 t h2 (fun q' b1 b2 => by
        by_cases hlt : q' < q
        · exact h3 q' b1 hlt
        · have hne : q' ≠ q := fun e => W.not (e ▸ b2)
          exact W.later G b2 (by omega) hx)
      exact ⟨v', a1, a2.mono (cut_mono (fun _ _ h => h) (G.nextMono (by omega) (by omega)))⟩
    · rw [h2] at hv
      obtain ⟨v', a1, a2⟩ := I.old t (fun q' b => by
        by_cases hlt : q' < q
        · exact h1 q' hlt
        · have hne : q' ≠ q := fun e => W.not (e ▸ b)
          exact W.later G b (by omega) hx) v hv
      exact ⟨v', a1, a2.mono (fun i R hi => cut_some.2 ⟨Nat.lt_of_lt_of_le (I.zero i R hi) (G.nextMono (Nat.zero_le _) (by omega)), I.ext.le i R hi⟩)⟩
  · cases hv

/-- the slots behind it. -/
theorem Inv.putSlots (G : Reg P ih M N ex ops cis l order ws ss hs vs) (I : Inv P N l.length l ss hs vs ρ0 w0 Ds live D pb ρ a w) (W : Now P N ops cis l order ws D q j o c) {v' : Value} {σ : Rho} (hle : RhoLe ρ σ) (hv : VR (cut σ (hs (q + 1)).next) (vs q) v') :
    (∀ t : Nat, (∀ p, (D p ∨ p = q) → dstAt l p ≠ some (bits t)) → ∀ v, (ss 0).get (bits t) = some v → ∃ v0, (a.put o.dst v').tmps[t]? = some v0 ∧ VR ρ0 v v0) ∧
    (∀ p, p < l.length → (D p ∨ p = q) → ∀ t : Nat, dstAt l p = some (bits t) → (∀ p', p < p' → (D p' ∨ p' = q) → dstAt l p' ≠ some (bits t)) → ∃ v0, (a.put o.dst v').tmps[t]? = some v0 ∧ VR (cut σ (hs (p + 1)).next) (vs p) v0) ∧
    (a.put o.dst v').tmps.size = N ∧ (a.put o.dst v').defers = Ds.map markOf := by
  obtain ⟨hop, hdst, hdlt⟩ := compileOper_op W.A.comp
  have hdq : dstAt l q = o.dst.map bits := W.A.dst.trans hdst
  have put_ne : ∀ t : Nat, o.dst ≠ some t → (a.put o.dst v').tmps[t]? = a.tmps[t]? := by
    intro t ht
    cases hd : o.dst with
    | none => rfl
    | some d => 
      show (a.tmps.setIfInBounds d v')[t]? = _
      rw [Array.getElem?_setIfInBounds, if_neg (fun e => ht (by rw [hd, e]))]
  have ne_of : ∀ t : Nat, dstAt l q ≠ some (bits t) → o.dst ≠ some t := by
    intro t h e; apply h; rw [hdq, e]; rfl
  refine ⟨fun t ht v hv => ?_, fun p hp hDp t ht hlater => ?_, ?_, ?_⟩
  · rw [put_ne t (ne_of t (ht q (.inr rfl)))]
    exact I.old t (fun p hp => ht p (.inl hp)) v hv
  · by_cases e : p = q
    · subst e
      rw [hdq] at ht
      obtain ⟨d, hd, hbt⟩ := Option.map_eq_some_iff.1 ht
      have := bits_inj hbt; subst this
      refine ⟨v', ?_, hv⟩
      rw [hd]
      show (a.tmps.setIfInBounds d v')[d]? = _
      have : d < a.tmps.size := by rw [I.size]; exact hdlt d hd
      simp [this]
    · have hDp' : D p := hDp.resolve_right e
      have hne : dstAt l q ≠ some (bits t) := by
        intro h
        by_cases hlt : q < p
        · refine W.later G hDp' hlt (x := bits t) ?_ ht
          have : c.dst = some (bits t) := W.A.dst.symm.trans h
          simp [ciNames, this]
        · exact hlater q (by omega) (.inr rfl) h
      rw [put_ne t (ne_of t hne)]
      obtain ⟨v0, a1, a2⟩ := I.new p hp hDp' t ht (fun p' b1 b2 => hlater p' b1 (.inl b2))
      exact ⟨v0, a1, a2.mono (cut_mono hle (Nat.le_refl _))⟩
  · cases o.dst <;> simp [Act.put, I.size]
  · cases o.dst <;> simp [Act.put, I.defers]

theorem Inv.pb_le (I : Inv P N l.length l ss hs vs ρ0 w0 Ds live D pb ρ a w) (W : Now P N ops cis l order ws D q j o c) (hf : isFl c.op = false) : pb ≤ q := by
  by_cases h : pb ≤ q
  · exact h
  · exact absurd (I.done q _ (by omega) W.A.can hf) W.not

theorem new_ne (h : H) (io : IObj) : h.new io ≠ h := by
  intro e
  have := congrArg H.next e
  simp at this

/-- a value. -/
theorem Inv.pure (G : Reg P ih M N ex ops cis l order ws ss hs vs) (I : Inv P N l.length l ss hs vs ρ0 w0 Ds live D pb ρ a w) (W : Now P N ops cis l order ws D q j o c) (hw : isW c.op = false) (hh : hs (q + 1) = hs q) {v' : Value} (hv : VR (cut ρ (hs q).next) (vs q) v') :
    Inv P N l.length l ss hs vs ρ0 w0 Ds live (fun p => D p ∨ p = q) pb ρ (a.put o.dst v') w := by
  obtain ⟨s1, s2, s3, s4⟩ := I.putSlots G W (σ := ρ) (fun _ _ h => h) (by rw [hh]; exact hv)
  refine ⟨I.base, I.le, fun p d hp hd hf => .inl (I.done p d hp hd hf), fun p d hp hD hd => ?_, I.hr, fun p hp hps hD io hio => ?_, I.blk, fun i R hi => ?_, s1, s2, s3, s4, I.ext, I.zero⟩
  · rcases hD with hD | rfl
    · exact I.now p d hp hD hd
    · rw [W.A.can] at hd; cases hd; exact hw
  · rcases hD with hD | rfl
    · exact I.fl p hp hps hD io hio
    · rw [hh] at hio; exact absurd hio.symm (new_ne _ _)
  · rcases I.dom i R hi with h | ⟨p, io, h1, h2, h3, h4⟩
    · exact .inl h
    · exact .inr ⟨p, io, h1, h2, .inl h3, h4⟩

/-- a new object. -/
theorem Inv.alloc (G : Reg P ih M N ex ops cis l order ws ss hs vs) (I : Inv P N l.length l ss hs vs ρ0 w0 Ds live D pb ρ a w) (W : Now P N ops cis l order ws D q j o c) (hw : isW c.op = false) (hf : isFl c.op = false) {io : IObj} (hh : hs (q + 1) = (hs q).new io) {v' : Value} {R : RB} {ob : Obj}
    (hR : R.blk = w.heap.size) (hcalm : Calm ob) (hv : VR (upd (cut ρ (hs q).next) (hs q).next R) (vs q) v') (ho : OR P (upd (cut ρ (hs q).next) (hs q).next R) (w.alloc ob) R io) :
    Inv P N l.length l ss hs vs ρ0 w0 Ds live (fun p => D p ∨ p = q) pb (upd ρ (hs q).next R) (a.put o.dst v') (w.alloc ob) := by
  have hqs := W.A.lt G
  have hpq := I.pb_le W hf
  have hfree : ρ (hs q).next = none := by
    cases hn : ρ (hs q).next with
    | none => rfl
    | some S =>
      exfalso
      rcases I.dom _ _ hn with h | ⟨p, io', h1, h2, h3, h4, h5⟩
      · have := G.nextMono hpq (by omega); omega
      · have hne : p ≠ q := fun e => W.not (e ▸ h3)
        have hp1 : (hs (p + 1)).next = (hs p).next + 1 := by rw [h4]; simp
        by_cases hlt : p < q
        · have := G.nextMono (p := p + 1) (q := q) (by omega) (by omega); omega
        · have := G.nextMono (p := q + 1) (q := p) (by omega) (by omega)
          have hq1 : (hs (q + 1)).next = (hs q).next + 1 := by rw [hh]; simp
          omega
  have hle : RhoLe ρ (upd ρ (hs q).next R) := upd_le R hfree
  have hq1 : (hs (q + 1)).next = (hs q).next + 1 := by rw [hh]; simp
  have hcut : upd (cut ρ (hs q).next) (hs q).next R = cut (upd ρ (hs q).next R) (hs (q + 1)).next := by
    funext i
    rw [hq1]
    unfold upd cut
    by_cases e : i = (hs q).next
    · subst e; simp
    · by_cases hlt : i < (hs q).next
      · simp only [e, hlt, if_true, if_false]; rw [if_pos (by omega)]
      · simp only [e, hlt, if_false]; rw [if_neg (by omega)]
  obtain ⟨s1, s2, s3, s4⟩ := I.putSlots G W hle (by rw [← hcut]; exact hv)
  have hcb : cut (upd ρ (hs q).next R) (hs pb).next = cut ρ (hs pb).next := by
    funext i
    unfold cut upd
    have := G.nextMono hpq (by omega)
    by_cases hlt : i < (hs pb).next
    · rw [if_pos hlt, if_pos hlt, if_neg (by omega)]
    · rw [if_neg hlt, if_neg hlt]
  have blk' : ∀ i S, upd ρ (hs q).next R i = some S → (i = (hs q).next ∧ S = R) ∨ (i ≠ (hs q).next ∧ ρ i = some S) := by
    intro i S hi
    unfold upd at hi
    split at hi
    · rename_i e; cases hi; exact .inl ⟨e, rfl⟩
    · rename_i e; exact .inr ⟨e, hi⟩
  refine ⟨I.base, I.le, fun p d hp hd hf => .inl (I.done p d hp hd hf), fun p d hp hD hd => ?_, fun hl => by rw [hcb]; exact ((I.hr hl).garbage hcalm).1, fun p hp hps hD io' hio => ?_, fun i S hi => ?_, fun i S hi => ?_, s1, s2, s3, s4, ?_, I.zero⟩
  · rcases hD with hD | rfl
    · exact I.now p d hp hD hd
    · rw [W.A.can] at hd; cases hd; exact hw
  · by_cases e : p = q
    · subst e
      rw [hh] at hio
      have e2 : io = io' := by
        have h1 : ((hs p).new io).get (hs p).next = some io := by simp
        rw [hio] at h1
        simpa using h1.symm
      subst e2
      refine ⟨R, upd_same _ _ _, by rw [← hcut]; exact ho, fun i S hi hS => ?_⟩
      rcases blk' i S hi with ⟨h, _⟩ | ⟨_, h⟩
      · exact h
      · have := I.blk i S h; omega
    · obtain ⟨S, h1, h2, h3⟩ := I.fl p hp hps (hD.resolve_right e) io' hio
      refine ⟨S, hle _ _ h1, h2.mono (cut_mono hle (Nat.le_refl _)) (heap_alloc_lt (I.blk _ _ h1)), fun i T hi hT => ?_⟩
      rcases blk' i T hi with ⟨_, rfl⟩ | ⟨_, h⟩
      · have := I.blk _ _ h1; omega
      · exact h3 i T h hT
  · rcases blk' i S hi with ⟨_, rfl⟩ | ⟨_, h⟩
    · simp [hR]
    · have := I.blk i S h; simp; omega
  · rcases blk' i S hi with ⟨h, _⟩ | ⟨_, h⟩
    · exact .inr ⟨q, io, hpq, hqs, .inr rfl, hh, h⟩
    · rcases I.dom i S h with h | ⟨p, io', h1, h2, h3, h4⟩
      · exact .inl h
      · exact .inr ⟨p, io', h1, h2, .inl h3, h4⟩
  · refine I.ext.trans ⟨hle, by simp, fun i S hi => ?_, fun B hB _ => heap_alloc_lt hB, fun B r hr' => ⟨r, by rw [heap_alloc_lt (Array.getElem?_eq_some_iff.1 hr').1]; exact hr', rfl⟩, rfl, rfl, froz_alloc hcalm⟩
    rcases blk' i S hi with ⟨_, rfl⟩ | ⟨_, h⟩
    · exact .inr (by omega)
    · exact .inl ⟨i, S, h, rfl⟩

/-- a writer. -/
theorem Inv.write (G : Reg P ih M N ex ops cis l order ws ss hs vs) (I : Inv P N l.length l ss hs vs ρ0 w0 Ds live D pb ρ a w) (W : Now P N ops cis l order ws D q j o c) (hw : isW c.op = true) {v' : Value} {σ : Rho} {w' : World}
    (hv : VR σ (vs q) v') (hr : HR P σ (hs (q + 1)) w') (he : Ext (cut ρ (hs q).next) w σ w') :
    ∃ τ, Inv P N l.length l ss hs vs ρ0 w0 Ds live (fun p => D p ∨ p = q) (q + 1) τ (a.put o.dst v') w' := by
  have hqs := W.A.lt G
  have hfl : isFl c.op = false := by
    cases h : isFl c.op with
    | false => rfl
    | true => have := (isFl_spec h).1; rw [hw] at this; cases this
  have hpq := I.pb_le W hfl
  have hst := G.nextStep hqs
  have hall : ∀ p d, p < q → l[p]? = some d → isFl d.op = false → D p := fun p d hp hd hf => by
    obtain ⟨i, o', d', A'⟩ := G.at (q := p) (by omega)
    rw [A'.can] at hd; cases hd
    have := G.hord.writer q j c W.A.ord W.A.ci hw p i d' hp A'.ord A'.ci hf
    obtain ⟨p', h1, h2⟩ := W.anc i this
    have := G.hord.inj p' p _ h1 A'.ord
    subst this; exact h2
  let τ : Rho := fun i => if i < (hs (q + 1)).next then σ i else ρ i
  have τ1 : ∀ i, i < (hs (q + 1)).next → τ i = σ i := fun i h => if_pos h
  have τ2 : ∀ i, ¬ i < (hs (q + 1)).next → τ i = ρ i := fun i h => if_neg h
  have split : ∀ i R, ρ i = some R → i < (hs q).next ∨ (hs (q + 1)).next ≤ i := by
    intro i R hi
    rcases I.dom i R hi with h | ⟨p, io, h1, h2, h3, h4, h5⟩
    · have := G.nextMono hpq (by omega); exact .inl (by omega)
    · have hne : p ≠ q := fun e => W.not (e ▸ h3)
      have hp1 : (hs (p + 1)).next = (hs p).next + 1 := by rw [h4]; simp
      by_cases hlt : p < q
      · have := G.nextMono (p := p + 1) (q := q) (by omega) (by omega); exact .inl (by omega)
      · have := G.nextMono (p := q + 1) (q := p) (by omega) (by omega); exact .inr (by omega)
  have hle : RhoLe ρ τ := by
    intro i R hi
    rcases split i R hi with h | h
    · rw [τ1 i (by omega)]; exact he.le i R (cut_some.2 ⟨h, hi⟩)
    · rw [τ2 i (by omega)]; exact hi
  have hcut : cut τ (hs (q + 1)).next = σ := by
    funext i
    unfold cut
    by_cases h : i < (hs (q + 1)).next
    · rw [if_pos h, τ1 i h]
    · rw [if_neg h]; exact (hr.nxt i (by omega)).1.symm
  obtain ⟨s1, s2, s3, s4⟩ := I.putSlots G W hle (by rw [hcut]; exact hv)
  have hext : Ext ρ0 w0 τ w' := by
    refine ⟨fun i R hi => hle i R (I.ext.le i R hi), Nat.le_trans I.ext.size he.size, fun i R hi => ?_, fun B hB hn => ?_, fun B r hr' => ?_, he.os.trans I.ext.os, he.out.trans I.ext.out, fun a => (he.froz a).trans (I.ext.froz a)⟩
    · by_cases h : i < (hs (q + 1)).next
      · rw [τ1 i h] at hi
        rcases he.fresh i R hi with ⟨k, S, hk, hS⟩ | hb
        · rcases I.ext.fresh k S (cut_some.1 hk).2 with ⟨k', T, hk', hT⟩ | hb
          · exact .inl ⟨k', T, hk', hT.trans hS⟩
          · exact .inr (hS ▸ hb)
        · exact .inr (Nat.le_trans I.ext.size hb)
      · rw [τ2 i h] at hi; exact I.ext.fresh i R hi
    · rw [he.frame B (Nat.lt_of_lt_of_le hB I.ext.size) ?_, I.ext.frame B hB hn]
      intro i R hi e
      rcases I.ext.fresh i R (cut_some.1 hi).2 with ⟨k, S, hk, hS⟩ | hb
      · exact hn k S hk (hS.trans e)
      · omega
    · obtain ⟨r1, h1, h2⟩ := I.ext.loops B r hr'
      obtain ⟨r2, h3, h4⟩ := he.loops B r1 h1
      exact ⟨r2, h3, h4.trans h2⟩
  refine ⟨τ, fun _ => .inr ⟨q, _, rfl, W.A.can, hw⟩, hqs, fun p d hp hd hf => ?_, fun p d hp hD hd => ?_, fun _ => by rw [hcut]; exact hr, fun p hp hps hD io hio => ?_, fun i R hi => ?_, fun i R hi => ?_, s1, s2, s3, s4, hext, I.zero⟩
  · by_cases e : p = q
    · exact .inr e
    · exact .inl (hall p d (by omega) hd hf)
  · rcases hD with hD | rfl
    · exact I.now p d (by omega) hD hd
    · omega
  · have hD' : D p := hD.resolve_right (by omega)
    obtain ⟨R, h1, h2, h3⟩ := I.fl p (by omega) hps hD' io hio
    have hnp := G.nextMono (p := q + 1) (q := p) hp (by omega)
    have hnot : ∀ i S, cut ρ (hs q).next i = some S → S.blk ≠ R.blk := by
      intro i S hi e
      obtain ⟨k1, k2⟩ := cut_some.1 hi
      have := h3 i S k2 e
      omega
    refine ⟨R, hle _ _ h1, h2.mono (cut_mono hle (Nat.le_refl _)) (he.frame R.blk (I.blk _ _ h1) hnot), fun i S hi hS => ?_⟩
    by_cases h : i < (hs (q + 1)).next
    · rw [τ1 i h] at hi
      rcases he.fresh i S hi with ⟨k, T, hk, hT⟩ | hb
      · exact absurd (hT.trans hS) (hnot k T hk)
      · have := I.blk _ _ h1; omega
    · rw [τ2 i h] at hi; exact h3 i S hi hS
  · by_cases h : i < (hs (q + 1)).next
    · rw [τ1 i h] at hi; exact hr.blk i R hi
    · rw [τ2 i h] at hi; exact Nat.lt_of_lt_of_le (I.blk i R hi) he.size
  · by_cases h : i < (hs (q + 1)).next
    · exact .inl h
    · rw [τ2 i h] at hi
      rcases I.dom i R hi with h' | ⟨p, io, h1, h2, h3, h4, h5⟩
      · have := G.nextMono (p := pb) (q := q + 1) (by omega) (by omega); exact .inl (by omega)
      · have hne : p ≠ q := fun e => W.not (e ▸ h3)
        by_cases hlt : p < q
        · have hp1 : (hs (p + 1)).next = (hs p).next + 1 := by rw [h4]; simp
          have := G.nextMono (p := p + 1) (q := q) (by omega) (by omega)
          exact .inl (by omega)
        · exact .inr ⟨p, io, by omega, h2, .inl h3, h4, h5⟩
end
end Go.Ideal
/- Regions that draw their order: whatever order is drawn, what the ideal machine returns is met. -/
namespace Go.Ideal
variable {P : Program}

theorem nodup_le : ∀ (l m : List Nat), l.Nodup → (∀ x ∈ l, x ∈ m) → l.length ≤ m.length
  | [], m, _, _ => Nat.zero_le _
  | x :: l, m, hn, hs => by
    obtain ⟨h1, h2⟩ := List.nodup_cons.1 hn
    have hx := hs x (by simp)
    have := nodup_le l (m.erase x) h2 (fun y hy => (List.mem_erase_of_ne (fun e => h1 (by rw [← e]; exact hy))).2 (hs y (by simp [hy])))
    rw [List.length_erase_of_mem hx] at this
    have : 0 < m.length := List.length_pos_of_mem hx
    simp only [List.length_cons]; omega

theorem fold_bits_mono (d : List Nat) : ∀ (es : List Edge) (s i : Nat), s.testBit i = true → (es.foldl (fun s e => s ||| 2 ^ e.on ||| d.getD e.on 0) s).testBit i = true
  | [], s, i, h => h
  | e :: es, s, i, h => by
    rw [List.foldl_cons]
    exact fold_bits_mono d es _ i (by simp [Nat.testBit_or, h])
theorem fold_bits_mem (d : List Nat) : ∀ (es : List Edge) (s : Nat) (e : Edge), e ∈ es → (es.foldl (fun s e => s ||| 2 ^ e.on ||| d.getD e.on 0) s).testBit e.on = true
  | e' :: es, s, e, h => by
    rw [List.foldl_cons]
    rcases List.mem_cons.1 h with rfl | h
    · exact fold_bits_mono d es _ _ (by simp [Nat.testBit_or, Nat.testBit_two_pow])
    · exact fold_bits_mem d es _ e h
theorem anc_direct : ∀ (r : List Oper) (j : Nat) (o : Oper), r.reverse[j]? = some o → ∀ e ∈ o.after.toList, Region.binds .any e = true → ((ancs r.reverse).getD j 0).testBit e.on = true
  | [], j, o, h, e, he, hb => by simp at h
  | x :: r, j, o, h, e, he, hb => by
    rw [List.reverse_cons] at h ⊢
    rw [ancs_snoc]
    have hlen : (ancs r.reverse).length = r.reverse.length := ancs_length _
    by_cases hlt : j < r.reverse.length
    · rw [List.getElem?_append_left hlt] at h
      rw [List.getD_eq_getElem?_getD, List.getElem?_append_left (by omega), ← List.getD_eq_getElem?_getD]
      exact anc_direct r j o h e he hb
    · have hjl := (List.getElem?_eq_some_iff.1 h).1
      simp only [List.length_append, List.length_cons, List.length_nil] at hjl
      have hje : j = r.reverse.length := by omega
      subst hje
      rw [List.getElem?_append_right (Nat.le_refl _), Nat.sub_self] at h
      cases h
      rw [List.getD_eq_getElem?_getD, List.getElem?_append_right (by omega), hlen, Nat.sub_self]
      exact fold_bits_mem _ _ 0 e (List.mem_filter.2 ⟨he, hb⟩)

section
variable {ih : IH} {M N : Nat} {ex : Nat → Prop} {ops : Array Oper} {cis l : List CI} {order ws : List Nat} {ss : Nat → Slots} {hs : Nat → H} {vs : Nat → Value}
variable {ρ0 ρ : Rho} {w0 w : World} {Ds : List Nat} {live : Prop} {D : Nat → Prop} {pb : Nat} {a : Act} {q j : Nat} {o : Oper} {c : CI}

def wIdx (cis : List CI) (i : Nat) : Bool := match cis[i]? with | some c => isW c.op | none => false

theorem Reg.wcount_eq (G : Reg P ih M N ex ops cis l order ws ss hs vs) (q : Nat) : wcount l q = ((order.take q).filter (wIdx cis)).length := by
  have hmap : l.map (fun c => isW c.op) = order.map (wIdx cis) := by
    apply List.ext_getElem?
    intro i
    rw [List.getElem?_map, List.getElem?_map]
    by_cases hi : i < order.length
    · obtain ⟨y, hy, hyl⟩ := (allO_get G.hl).2 i _ (List.getElem?_eq_getElem hi)
      obtain ⟨c, hc, rfl⟩ := amf hy
      rw [hyl, List.getElem?_eq_getElem hi]
      simp [wIdx, hc]
    · rw [List.getElem?_eq_none (by have := (allO_get G.hl).1; omega), List.getElem?_eq_none (by omega)]; rfl
  unfold wcount
  rw [← List.countP_eq_length_filter, ← List.countP_eq_length_filter]
  have e1 : ∀ (xs : List CI), List.countP (fun c => isW c.op) xs = List.countP id (xs.map fun c => isW c.op) := fun xs => by rw [List.countP_map]; rfl
  have e2 : ∀ (xs : List Nat), List.countP (wIdx cis) xs = List.countP id (xs.map (wIdx cis)) := fun xs => by rw [List.countP_map]; rfl
  rw [e1, e2, List.map_take, List.map_take, hmap]

/-- what a read must follow has been done. -/
theorem Inv.lo (G : Reg P ih M N ex ops cis l order ws ss hs vs) (I : Inv P N l.length l ss hs vs ρ0 w0 Ds live D pb ρ a w) (W : Now P N ops cis l order ws D q j o c) : loOf (ancs ops.toList) ws j ≤ wcount l pb := by
  rw [G.wcount_eq]
  unfold loOf
  refine nodup_le _ _ ?_ ?_
  · rw [G.hws]; unfold wsOf; exact (List.nodup_range.filter _).filter _
  · intro k hk
    obtain ⟨hk1, hk2⟩ := List.mem_filter.1 hk
    rw [G.hws] at hk1
    unfold wsOf at hk1
    obtain ⟨hk3, hk4⟩ := List.mem_filter.1 hk1
    obtain ⟨p, h1, h2⟩ := W.anc k hk2
    obtain ⟨k', o', d, A'⟩ := G.at (W.lt p h2)
    have e : k' = k := by have := A'.ord; rw [h1] at this; exact (Option.some.inj this).symm
    subst e
    have hw : isW d.op = true := by rw [A'.ci] at hk4; exact hk4
    have hlt : p < pb := by
      by_cases h : p < pb
      · exact h
      · have hn := I.now p _ (by omega) h2 A'.can
        have hn' : isW d.op = false := hn
        rw [hw] at hn'; cases hn'
    refine List.mem_filter.2 ⟨?_, by simp [wIdx, A'.ci, hw]⟩
    have : (order.take pb)[p]? = some k' := by rw [List.getElem?_take, if_pos hlt]; exact h1
    exact List.mem_of_getElem? this

theorem Now.allDone (G : Reg P ih M N ex ops cis l order ws ss hs vs) (W : Now P N ops cis l order ws D q j o c) (hw : isW c.op = true) : ∀ p d, p < q → l[p]? = some d → isFl d.op = false → D p := fun p d hp hd hf => by
  have := W.A.lt G
  obtain ⟨i, o', d', A'⟩ := G.at (q := p) (by omega)
  rw [A'.can] at hd; cases hd
  have := G.hord.writer q j c W.A.ord W.A.ci hw p i d' hp A'.ord A'.ci hf
  obtain ⟨p', h1, h2⟩ := W.anc i this
  have := G.hord.inj p' p _ h1 A'.ord
  subst this; exact h2

theorem isW_hard {op : COp} (h : isW op = true) : isFl op = false := by
  cases e : isFl op with
  | false => rfl
  | true => have := (isFl_spec e).1; rw [h] at this; cases this

/-- a value, while whatever heap stands there. -/
theorem float_run (W : Now P N ops cis l order ws D q j o c) {ρ : Rho} (hS : SR (cut ρ (hs q).next) (keepS (ciNames c) (ss q)) a.tmps) (hblk : ∀ i R, ρ i = some R → R.blk < w.heap.size) (hf : isFl c.op = true)
    (hv : opV c.op (ss q) (hs q) = some (vs q, hs (q + 1))) : hs (q + 1) = hs q ∧ ∃ v', (execOp a.eval o).run P w = .ok (.value v') w ∧ VR (cut ρ (hs q).next) (vs q) v' := by
  obtain ⟨k1, k2, k3⟩ := isFl_spec hf
  obtain ⟨hop, hdst, hdlt⟩ := compileOper_op W.A.comp
  obtain ⟨e1, e2⟩ := pure_float k1 k2 k3 hv
  have hag : AgreeOn (opNames c.op) (ss q) (keepS (ciNames c) (ss q)) := .keep _ fun p hp => by simp [ciNames, hp]
  have hno : ∀ i, H.get ⟨(hs q).next, .nil⟩ i = none := fun i => PT.get_nil _
  have hE : HR P (cut ρ (hs q).next) ⟨(hs q).next, .nil⟩ w := by
    refine ⟨fun i R o _ ho => ?_, fun i hi => ⟨?_, hno i⟩, fun i j R S _ _ hai _ _ => ?_, fun i R hi => hblk i R (cut_some.1 hi).2⟩
    · rw [hno] at ho; cases ho
    · have : (hs q).next ≤ i := hi
      unfold cut; rw [if_neg (by omega)]
    · obtain ⟨x, hx, _⟩ := hai
      rw [hno] at hx; cases hx
  have hv' := e2 ⟨(hs q).next, .nil⟩
  rw [opV_agree hag] at hv'
  have hsim := op_sim hop hE hS hv'
  rw [k3] at hsim
  exact ⟨e1, hsim.2⟩

/-- one operation, whichever is ready. -/
theorem Inv.step (G : Reg P ih M N ex ops cis l order ws ss hs vs) (hlive : live ∨ isFl c.op = true) (I : Inv P N l.length l ss hs vs ρ0 w0 Ds live D pb ρ a w) (W : Now P N ops cis l order ws D q j o c) (r : Option Nat) {Q : Exit → Act → World → Prop} {K : Act → World → Prop}
    (hK : ∀ pb' τ a' w', Inv P N l.length l ss hs vs ρ0 w0 Ds live (fun p => D p ∨ p = q) pb' τ a' w' → K a' w') : wpOpIn (Wf r) 0 P ops Q j K a w := by
  have hqs := W.A.lt G
  have hS := I.slots G W
  obtain ⟨hop, hdst, hdlt⟩ := compileOper_op W.A.comp
  obtain ⟨b, hb, h1, h2, h3, h4⟩ := G.htr.step q _ W.A.can
  have hag : AgreeOn (opNames c.op) (ss q) (keepS (ciNames c) (ss q)) := .keep _ fun p hp => by simp [ciNames, hp]
  have hgg : AgreeOn (guardNames c.guard) (ss q) (keepS (ciNames c) (ss q)) := .keep _ fun p hp => by simp [ciNames, hp]
  have hb' : wantedC c.guard (keepS (ciNames c) (ss q)) = some b := by rw [← wanted_agree hgg]; exact hb
  have hwant := guard_wanted W.A.comp hS hb'
  unfold wpOpIn
  simp only [W.A.op, hwant]
  cases b with
  | false =>
    simp only [Bool.false_eq_true, if_false]
    refine ⟨fun f _ => Wf_fn r f, ?_⟩
    obtain ⟨e1, e2⟩ := h1 rfl
    have hvu : ∀ σ, VR σ (vs q) undef := fun σ => by rw [e1]; exact VR.tuple_of (VRL.nil σ)
    by_cases hw : isW c.op = true
    · have hl : live := hlive.resolve_right (by rw [isW_hard hw]; simp)
      obtain ⟨τ, hI⟩ := I.write G W hw (σ := cut ρ (hs q).next) (w' := w) (hvu _) (by rw [e2]; exact I.absorb G hl (I.pb_le W (isW_hard hw)) (by omega) (W.allDone G hw)) (.refl _ _)
      exact hK _ _ _ _ hI
    · exact hK _ _ _ _ (I.pure G W (by simpa using hw) e2 (hvu _))
  | true =>
    simp only [if_true]
    by_cases hw : isW c.op = true
    · have hl : live := hlive.resolve_right (by rw [isW_hard hw]; simp)
      have hr := I.absorb G hl (I.pb_le W (isW_hard hw)) (by omega) (W.allDone G hw)
      have hv := h2 rfl hw
      rw [doOp_agree hag] at hv
      refine op_wpIn G.hih W.A.comp r hr hS hv (fun v' w' σ q1 q2 q3 => ?_)
      obtain ⟨τ, hI⟩ := I.write G W hw q1 q2 q3
      exact hK _ _ _ _ hI
    · have hw' : isW c.op = false := by simpa using hw
      refine ⟨fun f _ => Wf_fn r f, ?_⟩
      rw [Oper.semAt_eq _ _ _ (notDefer hop)]
      by_cases hfl : isFl c.op = true
      · obtain ⟨e1, v', e2, e3⟩ := float_run (vs := vs) W hS I.blk hfl (h3 rfl hw' (isFl_spec hfl).2.1)
        rw [e2]
        exact hK _ _ _ _ (I.pure G W hw' e1 e3)
      have hl : live := hlive.resolve_right hfl
      have hfl' : isFl c.op = false := by simpa using hfl
      have hpq := I.pb_le W hfl'
      have hlift : HR P (cut ρ (hs q).next) ⟨(hs q).next, (hs pb).mem⟩ w := (I.hr hl).lift (G.nextMono hpq (by omega)) I.blk
      have pureCase : hs (q + 1) = hs q → opClass c.op = .pure → opV c.op (ss q) ⟨(hs q).next, (hs pb).mem⟩ = some (vs q, ⟨(hs q).next, (hs pb).mem⟩) → o.uponIn (Wf r) 0 P a K Q ((execOp a.eval o).run P w) := by
        intro hh hc hv
        rw [opV_agree hag] at hv
        have hsim := op_sim hop hlift hS hv
        rw [hc] at hsim
        obtain ⟨-, v', e1, e2⟩ := hsim
        rw [e1]
        exact hK _ _ _ _ (I.pure G W hw' hh e2)
      by_cases hr : isRd c.op = true
      · obtain ⟨e1, e2⟩ := h4 rfl hw' hr
        have hcl : opClass c.op = .pure := by
          rcases isW_class hw' with h | h
          · exact h
          · exfalso
            cases hcop : c.op <;> rw [hcop] at hr h <;> simp [isRd, opClass] at hr h
            rename_i b as; cases b <;> simp [opClass] at h
        refine pureCase e1 hcl ?_
        have := e2 pb hpq (I.base hl) (I.lo G W)
        exact (read_float hr (n := (hs pb).next) (m := (hs pb).mem) this).2 _
      · have hv := h3 rfl hw' (by simpa using hr)
        rcases isW_class hw' with hc | hc
        · obtain ⟨e1, e2⟩ := pure_float hw' (by simpa using hr) hc hv
          exact pureCase e1 hc (e2 _)
        · obtain ⟨f, io, e1, e2, e3⟩ := alloc_float hc hv
          have hv' := e3 ⟨(hs q).next, (hs pb).mem⟩
          rw [opV_agree hag] at hv'
          have hsim := op_sim hop hlift hS hv'
          rw [hc] at hsim
          obtain ⟨f', io', k1, k2, k3⟩ := hsim
          obtain ⟨v', ob, R, z1, z2, z3, z4, z5⟩ := k3 (hs q).next (hlift.nxt _ (Nat.le_refl _)).1
          rw [z1]
          have eio : io = io' := by
            have h1 : (H.new ⟨(hs q).next, (hs pb).mem⟩ io).get (hs q).next = some io := by rw [H.get_new]; exact if_pos rfl
            have h2 : (H.new ⟨(hs q).next, (hs pb).mem⟩ io').get (hs q).next = some io' := by rw [H.get_new]; exact if_pos rfl
            rw [k2, h2] at h1
            exact (Option.some.inj h1).symm
          subst eio
          have ev : f' (hs q).next = vs q := by rw [e1]; exact k1.symm
          rw [ev] at z3
          exact hK _ _ _ _ (I.alloc G W hw' hfl' e2 z2 z5 z3 z4)

/-! ### All orders -/
def Listed (listed : Array Bool) (i : Nat) : Prop := listed[i]? = some true
def DoneIn (order : List Nat) (listed : Array Bool) (q : Nat) : Prop := ∃ j, order[q]? = some j ∧ Listed listed j

theorem getD_false {listed : Array Bool} {i : Nat} (h : listed.getD i false = true) : Listed listed i := by
  unfold Listed
  rw [Array.getD_eq_getD_getElem?] at h
  cases e : listed[i]? with
  | none => rw [e] at h; cases h
  | some b => rw [e] at h; simp at h; rw [h]
theorem getD_true {listed : Array Bool} {i : Nat} (hi : i < listed.size) : listed.getD i true = true ↔ Listed listed i := by
  unfold Listed
  rw [Array.getD_eq_getD_getElem?, Array.getElem?_eq_getElem hi]; simp

theorem mem_ready {listed : Array Bool} (hsz : listed.size = ops.size) {i : Nat} : i ∈ Region.ready .any ops listed ↔ ∃ o, ops[i]? = some o ∧ ¬ Listed listed i ∧ ∀ e ∈ o.after.toList, Region.binds .any e = true → Listed listed e.on := by
  unfold Region.ready
  rw [List.mem_filter, List.mem_range]
  constructor
  · rintro ⟨h1, h2⟩
    rw [Bool.and_eq_true] at h2
    obtain ⟨h2, h3⟩ := h2
    have hn : ¬ Listed listed i := by
      rw [← getD_true (by omega)]; simpa using h2
    refine ⟨ops[i], Array.getElem?_eq_getElem h1, hn, fun e he hb => ?_⟩
    rw [Array.getElem?_eq_getElem h1] at h3
    simp only [Option.map_some, Option.getD_some, Array.all_eq_true_iff_forall_mem] at h3
    have := h3 e (by simpa using he)
    rw [hb] at this
    exact getD_false (by simpa using this)
  · rintro ⟨o, ho, hn, hall⟩
    have h1 := (Array.getElem?_eq_some_iff.1 ho).1
    refine ⟨h1, ?_⟩
    rw [Bool.and_eq_true]
    constructor
    · rw [← getD_true (by omega)] at hn; simpa using hn
    · rw [ho]
      simp only [Option.map_some, Option.getD_some, Array.all_eq_true_iff_forall_mem]
      intro e he
      by_cases hb : Region.binds .any e = true
      · have := hall e (by simpa using he) hb
        unfold Listed at this
        rw [Array.getD_eq_getD_getElem?, this]; simp
      · simp [hb]

def unl (n : Nat) (listed : Array Bool) : List Nat := (List.range n).filter fun i => !listed.getD i true

theorem unl_set {n : Nat} {listed : Array Bool} (hsz : listed.size = n) {i : Nat} (hi : i < n) (hn : ¬ Listed listed i) : (unl n (listed.setIfInBounds i true)).length + 1 = (unl n listed).length := by
  have key : ∀ m, i < m ∨ m ≤ i → m ≤ n → ((List.range m).filter fun k => !(listed.setIfInBounds i true).getD k true).length + (if i < m then 1 else 0) = ((List.range m).filter fun k => !listed.getD k true).length := by
    intro m _
    induction m with
    | zero => intro _; simp
    | succ m ih =>
      intro hm
      rw [List.range_succ, List.filter_append, List.filter_append, List.length_append, List.length_append]
      have one : ∀ (f : Nat → Bool), (List.filter f [m]).length = if f m = true then 1 else 0 := fun f => by
        by_cases h : f m = true
        · rw [List.filter_cons_of_pos h, if_pos h]; rfl
        · rw [List.filter_cons_of_neg h, if_neg h]; rfl
      rw [one, one]
      have ihm := ih (by omega) (by omega)
      by_cases e : i = m
      · subst e
        rw [if_neg (by omega)] at ihm
        have h1 : (listed.setIfInBounds i true).getD i true = true := by rw [Array.getD_eq_getD_getElem?]; simp [hsz, hi]
        have h2 : listed.getD i true = false := by rw [← getD_true (by omega)] at hn; simpa using hn
        rw [if_pos (by omega : i < i + 1), h1, h2]
        simp only [Bool.not_true, Bool.not_false, if_true, Bool.false_eq_true, if_false]
        omega
      · have h1 : (listed.setIfInBounds i true).getD m true = listed.getD m true := by
          rw [Array.getD_eq_getD_getElem?, Array.getD_eq_getD_getElem?, Array.getElem?_setIfInBounds, if_neg e]
        rw [h1]
        by_cases hlt : i < m
        · rw [if_pos hlt] at ihm; rw [if_pos (by omega : i < m + 1)]; omega
        · rw [if_neg hlt] at ihm; rw [if_neg (by omega : ¬ i < m + 1)]; omega
  have := key n (.inl hi) (Nat.le_refl _)
  rw [if_pos hi] at this
  exact this

theorem all_of_unl {n : Nat} {listed : Array Bool} (hsz : listed.size = n) (h : unl n listed = []) : ∀ i, i < n → Listed listed i := by
  intro i hi
  rw [← getD_true (by omega)]
  have := List.filter_eq_nil_iff.1 h i (List.mem_range.2 hi)
  simpa using this

theorem DoneIn.lt (G : Reg P ih M N ex ops cis l order ws ss hs vs) {listed : Array Bool} {q : Nat} (h : DoneIn order listed q) : q < l.length := by
  obtain ⟨j, hj, -⟩ := h
  have := (List.getElem?_eq_some_iff.1 hj).1
  rw [G.ordLen] at this; exact this

def Closed (ops : Array Oper) (listed : Array Bool) : Prop := ∀ j, Listed listed j → ∀ o, ops[j]? = some o → ∀ e ∈ o.after.toList, Region.binds .any e = true → Listed listed e.on

/-- what surely comes before something that is ready has been done. -/
theorem anc_listed {listed : Array Bool} (hcl : Closed ops listed) {j : Nat} {o : Oper} (ho : ops[j]? = some o) (hj : ∀ e ∈ o.after.toList, Region.binds .any e = true → Listed listed e.on) {i : Nat} (hi : ((ancs ops.toList).getD j 0).testBit i = true) : Listed listed i :=
  anc_closed (S := Listed listed) ops.toList.reverse (by rw [List.reverse_reverse]; intro j hj o ho; exact hcl j hj o (by simpa using ho)) j o (by simpa using ho) hj i (by simpa using hi)

theorem done_of (G : Reg P ih M N ex ops cis l order ws ss hs vs) {listed : Array Bool} (hsz : listed.size = ops.size) {i : Nat} (h : Listed listed i) (hx : ¬ ex i) : ∃ p, order[p]? = some i ∧ DoneIn order listed p := by
  have hlt : i < ops.size := by rw [← hsz]; exact (Array.getElem?_eq_some_iff.1 h).1
  obtain ⟨p, -, hp⟩ := G.atOp hlt hx
  exact ⟨p, hp, i, hp, h⟩

theorem now_of (G : Reg P ih M N ex ops cis l order ws ss hs vs) {listed : Array Bool} (hsz : listed.size = ops.size) (hcl : Closed ops listed) {i : Nat} {o : Oper} (ho : ops[i]? = some o) (hn : ¬ Listed listed i) (hx : ¬ ex i) (hall : ∀ e ∈ o.after.toList, Region.binds .any e = true → Listed listed e.on) :
    ∃ q c, Now P N ops cis l order ws (DoneIn order listed) q i o c := by
  have hio := (Array.getElem?_eq_some_iff.1 ho).1
  obtain ⟨q, hq, hqo⟩ := G.atOp hio hx
  obtain ⟨j, o', c, A⟩ := G.at hq
  have ej : j = i := by have := A.ord; rw [hqo] at this; exact (Option.some.inj this).symm
  subst ej
  have eo : o' = o := by have := A.op; rw [ho] at this; exact (Option.some.inj this).symm
  subst eo
  have inOrd : ∀ {p k m : Nat}, order[p]? = some k → ((ancs ops.toList).getD k 0).testBit m = true → ¬ ex m := by
    intro p k m hk hm
    obtain ⟨p', -, h2⟩ := G.hord.before p k m hk hm
    exact G.hex p' m h2
  refine ⟨q, c, A, fun ⟨k, h1, h2⟩ => ?_, fun m hm => done_of G hsz (anc_listed hcl ho hall hm) (inOrd A.ord hm), fun p k m ⟨k', h1, h2⟩ hk hm => ?_, fun p hp => hp.lt G⟩
  · rw [A.ord] at h1; cases h1; exact hn h2
  · rw [hk] at h1; cases h1
    have hk' : k < ops.size := by rw [← hsz]; exact (Array.getElem?_eq_some_iff.1 h2).1
    exact done_of G hsz (anc_listed hcl (Array.getElem?_eq_getElem hk') (hcl k h2 _ (Array.getElem?_eq_getElem hk')) hm) (inOrd hk hm)

theorem listed_set {listed : Array Bool} {j : Nat} (hj : j < listed.size) (k : Nat) : Listed (listed.setIfInBounds j true) k ↔ Listed listed k ∨ k = j := by
  unfold Listed
  rw [Array.getElem?_setIfInBounds]
  by_cases e : j = k
  · subst e; simp [hj]
  · rw [if_neg e]; exact ⟨.inl, fun h => h.resolve_right (fun h => e h.symm)⟩
theorem closed_set {listed : Array Bool} (hsz : listed.size = ops.size) (hcl : Closed ops listed) {j : Nat} {o : Oper} (ho : ops[j]? = some o) (hall : ∀ e ∈ o.after.toList, Region.binds .any e = true → Listed listed e.on) : Closed ops (listed.setIfInBounds j true) := by
  have hj : j < listed.size := by rw [hsz]; exact (Array.getElem?_eq_some_iff.1 ho).1
  intro k hk o2 ho2 e he hb
  rcases (listed_set hj k).1 hk with hk | rfl
  · exact (listed_set hj _).2 (.inl (hcl k hk o2 ho2 e he hb))
  · rw [ho] at ho2; cases ho2; exact (listed_set hj _).2 (.inl (hall e he hb))
theorem done_set (G : Reg P ih M N ex ops cis l order ws ss hs vs) {listed : Array Bool} {j q : Nat} (hj : j < listed.size) (hq : order[q]? = some j) : (fun p => DoneIn order listed p ∨ p = q) = DoneIn order (listed.setIfInBounds j true) := by
  funext p
  apply propext
  constructor
  · rintro (⟨k, h1, h2⟩ | rfl)
    · exact ⟨k, h1, (listed_set hj k).2 (.inl h2)⟩
    · exact ⟨j, hq, (listed_set hj j).2 (.inr rfl)⟩
  · rintro ⟨k, h1, h2⟩
    rcases (listed_set hj k).1 h2 with h2 | rfl
    · exact .inl ⟨k, h1, h2⟩
    · exact .inr (G.hord.inj p q _ h1 hq)
theorem done_set_ex (G : Reg P ih M N ex ops cis l order ws ss hs vs) {listed : Array Bool} {j : Nat} (hj : j < listed.size) (hx : ex j) : DoneIn order listed = DoneIn order (listed.setIfInBounds j true) := by
  funext p
  apply propext
  constructor
  · rintro ⟨k, h1, h2⟩; exact ⟨k, h1, (listed_set hj k).2 (.inl h2)⟩
  · rintro ⟨k, h1, h2⟩
    rcases (listed_set hj k).1 h2 with h2 | rfl
    · exact ⟨k, h1, h2⟩
    · exact absurd hx (G.hex p _ h1)

/-- something is ready while not all is listed. -/
theorem some_ready {listed : Array Bool} (hsz : listed.size = ops.size) {i : Nat} (hi : i < ops.size) (hn : ¬ Listed listed i) (hback : ∀ j o, ops[j]? = some o → ∀ e ∈ o.after.toList, Region.binds .any e = true → e.on < j) : Region.ready .any ops listed ≠ [] := by
  intro hnil
  have hex : ∀ m, m ≤ ops.size → (∀ q, q < m → Listed listed q) := by
    intro m
    induction m with
    | zero => intro _ q hq; omega
    | succ m ihm =>
      intro hm q hq
      have hprev := ihm (by omega)
      by_cases hqm : q < m
      · exact hprev q hqm
      · have : q = m := by omega
        subst this
        refine Classical.byContradiction fun hn => ?_
        have : q ∈ Region.ready .any ops listed := (mem_ready hsz).2 ⟨ops[q], Array.getElem?_eq_getElem (by omega), hn, fun e he hb => hprev _ (hback q _ (Array.getElem?_eq_getElem (by omega)) e he hb)⟩
        rw [hnil] at this; cases this
  exact hn (hex ops.size (Nat.le_refl _) i hi)

/-- all is done: the slots are the ideal machine's. -/
theorem Inv.slotsAll (G : Reg P ih M N ex ops cis l order ws ss hs vs) (I : Inv P N l.length l ss hs vs ρ0 w0 Ds live D pb ρ a w) (hlt : ∀ p, D p → p < l.length) {ps : List (List Bool)} (hps : ∀ p ∈ ps, ∀ q, q < l.length → dstAt l q = some p → D q) : SR ρ (keepS ps (ss l.length)) a.tmps := by
  intro t v hv
  rw [keepS_get] at hv
  split at hv
  · rename_i hx
    rcases G.slotAt (bits t) (q := l.length) (Nat.le_refl _) with ⟨q1, h1, h2, h3, h4⟩ | ⟨h1, h2⟩
    · rw [h4] at hv; cases hv
      obtain ⟨v', a1, a2⟩ := I.new q1 h1 (hps _ hx q1 h1 h2) t h2 (fun q' b1 b2 => h3 q' b1 (hlt q' b2))
      exact ⟨v', a1, a2.mono (cut_le _ _)⟩
    · rw [h2] at hv
      obtain ⟨v', a1, a2⟩ := I.old t (fun q' b => h1 q' (hlt q' b)) v hv
      exact ⟨v', a1, a2.mono I.ext.le⟩
  · cases hv
theorem Inv.slotsFin (G : Reg P ih M N ex ops cis l order ws ss hs vs) (I : Inv P N l.length l ss hs vs ρ0 w0 Ds live D pb ρ a w) (hlt : ∀ p, D p → p < l.length) (hall : ∀ q, q < l.length → D q) : SR ρ (ss l.length) a.tmps := by
  intro t v hv
  have := I.slotsAll G hlt (ps := [bits t]) (fun p _ q hq _ => hall q hq)
  exact this t v (by rw [keepS_get, if_pos (by simp)]; exact hv)
theorem Inv.cut_all (G : Reg P ih M N ex ops cis l order ws ss hs vs) (I : Inv P N l.length l ss hs vs ρ0 w0 Ds live D pb ρ a w) : cut ρ (hs l.length).next = ρ := by
  funext i
  unfold cut
  by_cases h : i < (hs l.length).next
  · rw [if_pos h]
  · rw [if_neg h]
    cases hi : ρ i with
    | none => rfl
    | some R =>
      exfalso
      rcases I.dom i R hi with h' | ⟨q, io, h1, h2, h3, h4, h5⟩
      · have := G.nextMono I.le (Nat.le_refl _); omega
      · have := G.nextMono (p := q + 1) (q := l.length) (by omega) (Nat.le_refl _)
        have hq1 : (hs (q + 1)).next = (hs q).next + 1 := by rw [h4]; simp
        omega

theorem draw_any (G : Reg P ih M N (fun _ => False) ops cis l order ws ss hs vs) (hback : ∀ j o, ops[j]? = some o → ∀ e ∈ o.after.toList, Region.binds .any e = true → e.on < j) (r : Option Nat) (hD0 : DefOk ρ0 w0 Ds) : ∀ (fuel : Nat) (listed : Array Bool) (a : Act) (w : World) (pb : Nat) (ρ : Rho), listed.size = ops.size → (unl ops.size listed).length = fuel → Closed ops listed →
    Inv P N l.length l ss hs vs ρ0 w0 Ds True (DoneIn order listed) pb ρ a w → wpAnyIn (Wf r) 0 P .any ops (CPost P ρ0 w0 N Ds (.nrm (ss l.length) (hs l.length))) fuel listed a w := by
  intro fuel
  induction fuel with
  | zero =>
    intro listed a w pb ρ hsz hfuel hcl I
    have hall := all_of_unl hsz (List.length_eq_zero_iff.1 hfuel)
    have hDall : ∀ q, q < l.length → DoneIn order listed q := by
      intro q hq
      obtain ⟨j, o, c, A⟩ := G.at hq
      exact ⟨j, A.ord, hall j (Array.getElem?_eq_some_iff.1 A.op).1⟩
    refine ⟨?_, ?_⟩
    · cases hr : Region.ready .any ops listed with
      | nil => rfl
      | cons i r' =>
        exfalso
        obtain ⟨o, ho, hn, -⟩ := (mem_ready hsz).1 (hr ▸ List.mem_cons_self : i ∈ Region.ready .any ops listed)
        exact hn (hall i (Array.getElem?_eq_some_iff.1 ho).1)
    · have hr := I.absorb G trivial I.le (Nat.le_refl _) (fun p _ hp _ _ => hDall p hp)
      rw [I.cut_all G] at hr
      exact ⟨ρ, Ds, ss l.length, hs l.length, I.ext, I.size, I.defers, ⟨hD0.ext I.ext, fun D h => .inl h⟩, I.slotsFin G (fun p hp => hp.lt G) hDall, hr, .inl ⟨rfl, rfl⟩⟩
  | succ fuel ihf =>
    intro listed a w pb ρ hsz hfuel hcl I
    refine ⟨fun hnil => ?_, fun i hi => ?_⟩
    · exfalso
      have hne : unl ops.size listed ≠ [] := by intro h; rw [h] at hfuel; cases hfuel
      obtain ⟨i, hi⟩ := List.exists_mem_of_ne_nil _ hne
      obtain ⟨hi1, hi2⟩ := List.mem_filter.1 hi
      have hi1 := List.mem_range.1 hi1
      exact some_ready hsz hi1 (fun h => by rw [(getD_true (by omega)).2 h] at hi2; cases hi2) hback hnil
    · obtain ⟨o, ho, hn, hall⟩ := (mem_ready hsz).1 hi
      have hio := (Array.getElem?_eq_some_iff.1 ho).1
      obtain ⟨q, c, W⟩ := now_of G hsz hcl ho hn (fun h => h) hall
      refine I.step G (.inl trivial) W r (fun pb' τ a' w' hI => ?_)
      rw [done_set G (by omega) W.A.ord] at hI
      refine ihf _ a' w' pb' τ (by simpa using hsz) ?_ (closed_set hsz hcl ho hall) hI
      have := unl_set hsz hio hn; omega
end

end Go.Ideal
/- Regions that draw their order: two stores at the end; what a compiled region is. -/
namespace Go.Ideal
variable {P : Program}

/-! ### Two stores to two blocks -/
theorem PT.set_comm {α : Type} (a b : α) : ∀ (p q : List Bool) (t : PT α), p ≠ q → (t.set p a).set q b = (t.set q b).set p a := by
  intro p
  induction p with
  | nil =>
    intro q t hne
    cases q with
    | nil => exact absurd rfl hne
    | cons c q => cases t <;> cases c <;> rfl
  | cons c p ih =>
    intro q t hne
    cases q with
    | nil => cases t <;> cases c <;> rfl
    | cons d q =>
      cases c <;> cases d
      · have hpq : p ≠ q := fun e => hne (by rw [e])
        cases t with
        | nil => show PT.node ((PT.nil.set p a).set q b) none .nil = PT.node ((PT.nil.set q b).set p a) none .nil; rw [ih q .nil hpq]
        | node l v r => show PT.node ((l.set p a).set q b) v r = PT.node ((l.set q b).set p a) v r; rw [ih q l hpq]
      · cases t <;> rfl
      · cases t <;> rfl
      · have hpq : p ≠ q := fun e => hne (by rw [e])
        cases t with
        | nil => show PT.node .nil none ((PT.nil.set p a).set q b) = PT.node .nil none ((PT.nil.set q b).set p a); rw [ih q .nil hpq]
        | node l v r => show PT.node l v ((r.set p a).set q b) = PT.node l v ((r.set q b).set p a); rw [ih q r hpq]
theorem H.put_comm (h : H) {i j : Nat} (hne : i ≠ j) (a b : IObj) : (h.put i a).put j b = (h.put j b).put i a := by
  unfold H.put
  congr 1
  exact PT.set_comm a b _ _ _ (fun e => hne (bits_inj e))

theorem write_some {h : H} {i off : Nat} {vs : List Value} {h' : H} (hw : h.write i off vs = some h') : ∃ cs esz cs', h.get i = some (.cells cs esz) ∧ (vs.all isCell && !Nat.beq esz roE) = true ∧ writeAt cs off vs = some cs' ∧ h' = h.put i (.cells cs' esz) := by
  obtain ⟨o, ho, hw⟩ := aof hw
  cases o with
  | cells cs esz =>
    simp only [writeObj] at hw
    split at hw
    · rename_i hc
      obtain ⟨c, hcw, e⟩ := amf hw
      exact ⟨cs, esz, c, ho, hc, hcw, e.symm⟩
    · cases hw
  | map _ _ => cases hw
  | loop _ _ _ _ => cases hw
  | dead => cases hw
theorem write_of {h : H} {i off : Nat} {vs cs cs' : List Value} {esz : Nat} (h1 : h.get i = some (.cells cs esz)) (h2 : (vs.all isCell && !Nat.beq esz roE) = true) (h3 : writeAt cs off vs = some cs') : h.write i off vs = some (h.put i (.cells cs' esz)) := by
  unfold H.write
  rw [h1, Option.bind_some]
  simp only [writeObj]
  rw [if_pos h2, h3]; rfl

theorem store2_spec {x y : COp} {s : Slots} {h h2 : H} (hv : store2Of x y s h = some h2) : ∃ h1 h1', opV x s h = some (undefV, h1) ∧ opV y s h1 = some (undefV, h2) ∧ opV y s h = some (undefV, h1') ∧ opV x s h1' = some (undefV, h2) ∧ h1.next = h.next ∧ h1'.next = h.next ∧ h2.next = h.next := by
  unfold store2Of at hv
  split at hv
  · rename_i n a b m c d
    obtain ⟨p, hp, hv⟩ := aof hv
    obtain ⟨v, hvv, hv⟩ := aof hv
    obtain ⟨q, hq, hv⟩ := aof hv
    obtain ⟨u, hu, hv⟩ := aof hv
    unfold store2 at hv
    obtain ⟨pa, hpa, hv⟩ := aof hv
    obtain ⟨qa, hqa, hv⟩ := aof hv
    split at hv
    · cases hv
    · rename_i hne
      have hne' : pa.block ≠ qa.block := fun e => hne (by rw [e]; exact Nat.beq_refl _)
      split at hv
      · rename_i hlen
        rw [Bool.and_eq_true] at hlen
        obtain ⟨h1, hw1, hw2⟩ := aof hv
        obtain ⟨cs, esz, cs', a1, a2, a3, rfl⟩ := write_some hw1
        obtain ⟨ds, esz', ds', b1, b2, b3, rfl⟩ := write_some hw2
        rw [H.get_put, if_neg hne'] at b1
        have st : ∀ {k : Nat} {e f : CO} {pv vv : Value} {ad : Addr} {g g' : H}, e.ev s = some pv → f.ev s = some vv → ptrOf pv = some ad → Nat.beq (cellsL vv).length k = true → g.write ad.block ad.off (cellsL vv) = some g' → opV (.store k e f) s g = some (undefV, g') := by
          intro k e f pv vv ad g g' e1 e2 e3 e4 e5
          show bStore _ _ _ _ _ = _
          unfold bStore
          simp only [e1, e2, e3, Option.bind_some]
          rw [if_pos e4, e5]; rfl
        refine ⟨_, _, st hp hvv hpa hlen.1 hw1, st hq hu hqa hlen.2 hw2, st hq hu hqa hlen.2 (write_of b1 b2 b3), ?_, rfl, rfl, rfl⟩
        rw [H.put_comm _ hne']
        exact st hp hvv hpa hlen.1 (write_of (by rw [H.get_put, if_neg (fun e => hne' e.symm)]; exact a1) a2 a3)
      · cases hv
  · cases hv

/-! ### What a compiled region is -/
theorem back_spec {ops : Array Oper} (h : ops.toList.zipIdx.all (fun x => (x.1.after.toList.filter (Region.binds .any)).all fun e => Nat.blt e.on x.2) = true) : ∀ (j : Nat) o, ops[j]? = some o → ∀ e ∈ o.after.toList, Region.binds .any e = true → e.on < j := by
  intro j o ho e he hb
  have h1 := List.all_eq_true.1 h (o, j) (List.mem_zipIdx_iff_getElem?.2 (by simpa using ho))
  have h2 := List.all_eq_true.1 h1 e (List.mem_filter.2 ⟨he, hb⟩)
  simpa using h2

theorem any_beq {l : List Nat} {i : Nat} (h : l.any (Nat.beq i) = true) : ∃ q : Nat, l[q]? = some i := by
  obtain ⟨x, hx, e⟩ := List.any_eq_true.1 h
  have := Nat.eq_of_beq_eq_true e
  subst this
  exact List.mem_iff_getElem?.1 hx

structure LastOk (anc : List Nat) (cis : List CI) (rest : List Nat) (x y : Nat) (c : CI) : Prop where
  dst : c.dst = none
  guard : c.guard = none
  hard : ∀ i ∈ rest, hardIn anc cis x i = true
  apart : (anc.getD x 0).testBit y = false
  self : (anc.getD x 0).testBit x = false
  first : ∀ j ∈ rest, (anc.getD j 0).testBit x = false
  names : ∀ p ∈ opNames c.op, ∀ (i : Nat) (d : CI), cis[i]? = some d → d.dst = some p → (anc.getD x 0).testBit i = true
theorem lastOk_spec {anc : List Nat} {cis : List CI} {rest : List Nat} {x y : Nat} {c : CI} (h : lastOk anc cis rest x y c = true) : LastOk anc cis rest x y c := by
  unfold lastOk at h
  simp only [Bool.and_eq_true, Option.isNone_iff_eq_none, Bool.not_eq_true', List.all_eq_true] at h
  obtain ⟨⟨⟨⟨⟨⟨⟨h0, h1⟩, h2⟩, h3⟩, h4⟩, h5⟩, h6⟩, h7⟩ := h
  refine ⟨h1, h2, h3, h4, h5, fun j hj => by simpa using h6 j hj, fun p hp i d hd hdst => ?_⟩
  have := h7 p hp (d, i) (List.mem_zipIdx_iff_getElem?.2 hd)
  simp only [hdst, beqP_refl, Bool.not_true, Bool.false_or] at this
  exact this

theorem drawIn_some {anc : List Nat} {cis : List CI} {cc : CC} (h : drawIn anc cis = some cc) :
    (∃ l order, cc = .draw l ∧ OrdOk anc cis order ∧ (∀ i, i < cis.length → ∃ q : Nat, order[q]? = some i) ∧ permute anc cis order = some l) ∨
    (∃ l order x y c d rest, cc = .draw2 l c d ∧ OrdOk anc cis order ∧ rest = ((List.range cis.length).filter fun i => !(Nat.beq i x) && !(Nat.beq i y)) ∧ (∀ i ∈ rest, ∃ q : Nat, order[q]? = some i) ∧ (∀ (q i : Nat), order[q]? = some i → i ∈ rest) ∧
      cis[x]? = some c ∧ cis[y]? = some d ∧ LastOk anc cis rest x y c ∧ LastOk anc cis rest y x d ∧ x ≠ y ∧ permute anc cis order = some l) := by
  unfold drawIn at h
  dsimp only at h
  split at h
  · rename_i hc
    simp only [Bool.and_eq_true, List.all_eq_true] at hc
    obtain ⟨l, hl, e⟩ := amf h
    exact .inl ⟨l, _, e.symm, ordOk_of hc.1.1, fun i hi => any_beq (hc.2 i (List.mem_range.2 hi)), hl⟩
  · split at h
    · rename_i y x r hws
      unfold draw2In at h
      obtain ⟨c, hc, h⟩ := aof h
      obtain ⟨d, hd, h⟩ := aof h
      dsimp only at h
      split at h
      · rename_i hk
        simp only [Bool.and_eq_true, List.all_eq_true] at hk
        obtain ⟨⟨⟨⟨⟨h1, h2⟩, h3⟩, h4⟩, h5⟩, h6⟩ := hk
        obtain ⟨l, hl, e⟩ := amf h
        refine .inr ⟨l, _, x, y, c, d, _, e.symm, ordOk_of h1, rfl, fun i hi => any_beq (h2 i hi), fun q i hq => ?_, hc, hd, lastOk_spec h4, lastOk_spec h5, fun e => by subst e; simp at h6, hl⟩
        have := h3 i (List.mem_of_getElem? hq)
        obtain ⟨z, hz, e⟩ := List.any_eq_true.1 this
        rw [Nat.eq_of_beq_eq_true e]; exact hz
      · cases h
    · cases h

section
variable {ih : IH} {M N : Nat} {ex : Nat → Prop} {ops : Array Oper} {cis l : List CI} {order ws : List Nat} {ss : Nat → Slots} {hs : Nat → H} {vs : Nat → Value}
variable {ρ0 ρ σ : Rho} {w0 w w' : World} {Ds : List Nat} {live : Prop} {D : Nat → Prop} {pb : Nat} {a : Act} {q j : Nat} {o : Oper} {c : CI}

/-- a value, when all else is done. -/
theorem Inv.stepFl (G : Reg P ih M N ex ops cis l order ws ss hs vs) (I : Inv P N l.length l ss hs vs ρ0 w0 Ds live D pb ρ a w) (W : Now P N ops cis l order ws D q j o c) (hf : isFl c.op = true) (r : Option Nat) {Q : Exit → Act → World → Prop} {K : Act → World → Prop}
    (hK : ∀ a', Inv P N l.length l ss hs vs ρ0 w0 Ds live (fun p => D p ∨ p = q) pb ρ a' w → K a' w) : wpOpIn (Wf r) 0 P ops Q j K a w := by
  have hS := I.slots G W
  obtain ⟨hop, hdst, hdlt⟩ := compileOper_op W.A.comp
  obtain ⟨b, hb, h1, h2, h3, h4⟩ := G.htr.step q _ W.A.can
  have hgg : AgreeOn (guardNames c.guard) (ss q) (keepS (ciNames c) (ss q)) := .keep _ fun p hp => by simp [ciNames, hp]
  have hb' : wantedC c.guard (keepS (ciNames c) (ss q)) = some b := by rw [← wanted_agree hgg]; exact hb
  have hwant := guard_wanted W.A.comp hS hb'
  have hw := (isFl_spec hf).1
  unfold wpOpIn
  simp only [W.A.op, hwant]
  cases b with
  | false =>
    simp only [Bool.false_eq_true, if_false]
    refine ⟨fun f _ => Wf_fn r f, ?_⟩
    obtain ⟨e1, e2⟩ := h1 rfl
    exact hK _ (I.pure G W hw e2 (by rw [e1]; exact VR.tuple_of (VRL.nil _)))
  | true =>
    simp only [if_true]
    refine ⟨fun f _ => Wf_fn r f, ?_⟩
    rw [Oper.semAt_eq _ _ _ (notDefer hop)]
    obtain ⟨e1, v', e2, e3⟩ := float_run (vs := vs) W hS I.blk hf (h3 rfl hw (isFl_spec hf).2.1)
    rw [e2]
    exact hK _ (I.pure G W hw e1 e3)

/-- the world goes on behind all that is hard. -/
theorem Inv.over (I : Inv P N l.length l ss hs vs ρ0 w0 Ds live D pb ρ a w) (he : Ext ρ w σ w') {hh : H} (hr : HR P σ hh w') (hn : hh.next = (hs l.length).next) (hall : ∀ q c, q < l.length → l[q]? = some c → isFl c.op = false → D q) (hlt : ∀ p, D p → p < l.length) :
    Inv P N l.length l ss hs vs ρ0 w0 Ds False D l.length σ a w' where
  base := nofun
  le := Nat.le_refl _
  done := hall
  now := fun q c hq hD _ => by have := hlt q hD; omega
  hr := nofun
  fl := fun q h1 h2 => by omega
  blk := hr.blk
  dom := fun i R hi => .inl (by
    by_cases h : i < (hs l.length).next
    · exact h
    · rw [(hr.nxt i (by omega)).1] at hi; cases hi)
  old := I.old
  new := fun q hq hD t ht hl => let ⟨v', a1, a2⟩ := I.new q hq hD t ht hl; ⟨v', a1, a2.mono (cut_mono he.le (Nat.le_refl _))⟩
  size := I.size
  defers := I.defers
  ext := I.ext.trans he
  zero := I.zero

structure Two (P : Program) (N : Nat) (ops : Array Oper) (cis l : List CI) (order : List Nat) (ss : Nat → Slots) (hs : Nat → H) (x y : Nat) (c : CI) (ox : Oper) (rest : List Nat) : Prop where
  op : ops[x]? = some ox
  comp : compileOper P N ops ox = some c
  last : LastOk (ancs ops.toList) cis rest x y c
  wr : isW c.op = true
  ne : x ≠ y

/-- one of the two stores. -/
theorem Two.step {y x : Nat} {ox : Oper} {rest : List Nat} (G : Reg P ih M N (fun i => i = x ∨ i = y) ops cis l order ws ss hs vs) (T : Two P N ops cis l order ss hs x y c ox rest) {listed : Array Bool} (hsz : listed.size = ops.size) (hcl : Closed ops listed)
    (hall : ∀ e ∈ ox.after.toList, Region.binds .any e = true → Listed listed e.on) (hrest : ∀ (q i : Nat), order[q]? = some i → i ∈ rest) (I : Inv P N l.length l ss hs vs ρ0 w0 Ds live (DoneIn order listed) pb ρ a w)
    {hh hh' : H} (hr : HR P ρ hh w) (hn : hh'.next = (hs l.length).next) (hv : opV c.op (ss l.length) hh = some (undefV, hh')) (r : Option Nat) {Q : Exit → Act → World → Prop} {K : Act → World → Prop}
    (hK : ∀ σ w', Inv P N l.length l ss hs vs ρ0 w0 Ds False (DoneIn order (listed.setIfInBounds x true)) l.length σ a w' → HR P σ hh' w' → K a w') : wpOpIn (Wf r) 0 P ops Q x K a w := by
  have hxlt : x < listed.size := by rw [hsz]; exact (Array.getElem?_eq_some_iff.1 T.op).1
  have hdone : ∀ {i : Nat}, ((ancs ops.toList).getD x 0).testBit i = true → i ≠ x → i ≠ y → ∃ p, order[p]? = some i ∧ DoneIn order listed p := fun hi h1 h2 =>
    done_of G hsz (anc_listed hcl T.op hall hi) (fun h => h.elim h1 h2)
  have hhard : ∀ q c', q < l.length → l[q]? = some c' → isFl c'.op = false → DoneIn order listed q := by
    intro q c' hq hc' hf
    obtain ⟨i, o', d, A⟩ := G.at hq
    rw [A.can] at hc'; cases hc'
    have hbit := hardIn_spec (T.last.hard i (hrest q i A.ord)) A.ci hf
    obtain ⟨p, h1, h2⟩ := hdone hbit (fun e => G.hex q i A.ord (.inl e)) (fun e => G.hex q i A.ord (.inr e))
    have := G.hord.inj p q _ h1 A.ord
    subst this; exact h2
  have hS : SR ρ (keepS (opNames c.op) (ss l.length)) a.tmps := I.slotsAll G (fun p hp => hp.lt G) (fun p hp q hq hd => by
    obtain ⟨i, o', d, A⟩ := G.at hq
    rw [A.dst] at hd
    have hbit := T.last.names p hp i d A.ci hd
    obtain ⟨p', h1, h2⟩ := hdone hbit (fun e => G.hex q i A.ord (.inl e)) (fun e => G.hex q i A.ord (.inr e))
    have := G.hord.inj p' q _ h1 A.ord
    subst this; exact h2)
  have hag : AgreeOn (opNames c.op) (ss l.length) (keepS (opNames c.op) (ss l.length)) := .keep _ fun p hp => hp
  rw [opV_agree hag] at hv
  have hv' : doOp ih c.op (keepS (opNames c.op) (ss l.length)) hh = some (undefV, hh') := by
    have : ¬ ∃ f as, c.op = .call f as := by
      rintro ⟨f, as, e⟩
      rw [e] at hv; cases hv
    have e : doOp ih c.op (keepS (opNames c.op) (ss l.length)) hh = opV c.op (keepS (opNames c.op) (ss l.length)) hh := by
      cases hc : c.op <;> first | rfl | exact absurd ⟨_, _, hc⟩ this
    rw [e]; exact hv
  have hwant := guard_wanted (b := true) T.comp hS (by rw [T.last.guard]; rfl)
  obtain ⟨hop, hdst, -⟩ := compileOper_op T.comp
  have hod : ox.dst = none := by
    rw [T.last.dst] at hdst
    cases h : ox.dst with
    | none => rfl
    | some d => rw [h] at hdst; cases hdst
  unfold wpOpIn
  simp only [T.op, hwant, if_true]
  refine op_wpIn G.hih T.comp r hr hS hv' (fun v' w' σ q1 q2 q3 => ?_)
  rw [hod]
  have hI := I.over q3 q2 hn hhard (fun p hp => hp.lt G)
  rw [done_set_ex G hxlt (.inl rfl)] at hI
  exact hK σ w' hI q2

theorem draw_two {x y : Nat} {ox oy : Oper} {c d : CI} {rest : List Nat} (G : Reg P ih M N (fun i => i = x ∨ i = y) ops cis l order ws ss hs vs) (G' : Reg P ih M N (fun i => i = y ∨ i = x) ops cis l order ws ss hs vs)
    (Tx : Two P N ops cis l order ss hs x y c ox rest) (Ty : Two P N ops cis l order ss hs y x d oy rest) (hrest : ∀ (q i : Nat), order[q]? = some i → i ∈ rest)
    (hback : ∀ j o, ops[j]? = some o → ∀ e ∈ o.after.toList, Region.binds .any e = true → e.on < j) {h1 h1' h2 : H} (e1 : opV c.op (ss l.length) (hs l.length) = some (undefV, h1)) (e2 : opV d.op (ss l.length) h1 = some (undefV, h2)) (e3 : opV d.op (ss l.length) (hs l.length) = some (undefV, h1'))
    (e4 : opV c.op (ss l.length) h1' = some (undefV, h2)) (n1 : h1.next = (hs l.length).next) (n1' : h1'.next = (hs l.length).next) (n2 : h2.next = (hs l.length).next) (r : Option Nat) (hD0 : DefOk ρ0 w0 Ds) :
    ∀ (fuel : Nat) (listed : Array Bool) (a : Act) (w : World), listed.size = ops.size → (unl ops.size listed).length = fuel → Closed ops listed →
      ((¬ Listed listed x ∧ ¬ Listed listed y ∧ ∃ pb ρ, Inv P N l.length l ss hs vs ρ0 w0 Ds True (DoneIn order listed) pb ρ a w) ∨
       (∃ ρ hh, Inv P N l.length l ss hs vs ρ0 w0 Ds False (DoneIn order listed) l.length ρ a w ∧ HR P ρ hh w ∧ ((Listed listed x ∧ ¬ Listed listed y ∧ hh = h1) ∨ (¬ Listed listed x ∧ Listed listed y ∧ hh = h1') ∨ (Listed listed x ∧ Listed listed y ∧ hh = h2)))) →
      wpAnyIn (Wf r) 0 P .any ops (CPost P ρ0 w0 N Ds (.nrm (ss l.length) h2)) fuel listed a w := by
  have hxs := (Array.getElem?_eq_some_iff.1 Tx.op).1
  have hys := (Array.getElem?_eq_some_iff.1 Ty.op).1
  intro fuel
  induction fuel with
  | zero =>
    intro listed a w hsz hfuel hcl hst
    have hall := all_of_unl hsz (List.length_eq_zero_iff.1 hfuel)
    have hDall : ∀ q, q < l.length → DoneIn order listed q := by
      intro q hq
      obtain ⟨j, o, c, A⟩ := G.at hq
      exact ⟨j, A.ord, hall j (Array.getElem?_eq_some_iff.1 A.op).1⟩
    refine ⟨?_, ?_⟩
    · cases hr : Region.ready .any ops listed with
      | nil => rfl
      | cons i r' =>
        exfalso
        obtain ⟨o, ho, hn, -⟩ := (mem_ready hsz).1 (hr ▸ List.mem_cons_self : i ∈ Region.ready .any ops listed)
        exact hn (hall i (Array.getElem?_eq_some_iff.1 ho).1)
    · rcases hst with ⟨hx, -, -⟩ | ⟨ρ, hh, I, hr, hcase⟩
      · exact absurd (hall x hxs) hx
      · rcases hcase with ⟨-, hy, -⟩ | ⟨hx, -, -⟩ | ⟨-, -, rfl⟩
        · exact absurd (hall y hys) hy
        · exact absurd (hall x hxs) hx
        · exact ⟨ρ, Ds, ss l.length, hh, I.ext, I.size, I.defers, ⟨hD0.ext I.ext, fun D h => .inl h⟩, I.slotsFin G (fun p hp => hp.lt G) hDall, hr, .inl ⟨rfl, rfl⟩⟩
  | succ fuel ihf =>
    intro listed a w hsz hfuel hcl hst
    refine ⟨fun hnil => ?_, fun i hi => ?_⟩
    · exfalso
      have hne : unl ops.size listed ≠ [] := by intro h; rw [h] at hfuel; cases hfuel
      obtain ⟨i, hi⟩ := List.exists_mem_of_ne_nil _ hne
      obtain ⟨hi1, hi2⟩ := List.mem_filter.1 hi
      have hi1 := List.mem_range.1 hi1
      exact some_ready hsz hi1 (fun h => by rw [(getD_true (by omega)).2 h] at hi2; cases hi2) hback hnil
    · obtain ⟨o, ho, hn, hall⟩ := (mem_ready hsz).1 hi
      have hio := (Array.getElem?_eq_some_iff.1 ho).1
      have hsz' : (listed.setIfInBounds i true).size = ops.size := by simpa using hsz
      have hfu : (unl ops.size (listed.setIfInBounds i true)).length = fuel := by have := unl_set hsz hio hn; omega
      have hcl' := closed_set hsz hcl ho hall
      have setx : ∀ k, Listed (listed.setIfInBounds i true) k ↔ Listed listed k ∨ k = i := listed_set (by omega)
      by_cases hix : i = x
      · subst hix
        have eo : o = ox := by have := Tx.op; rw [ho] at this; exact Option.some.inj this
        subst eo
        have hny : i ≠ y := Tx.ne
        rcases hst with ⟨hx, hy, pb, ρ, I⟩ | ⟨ρ, hh, I, hr, hcase⟩
        · -- the heap that stands there
          have hhard : ∀ q c', q < l.length → l[q]? = some c' → isFl c'.op = false → DoneIn order listed q := by
            intro q c' hq hc' hf
            obtain ⟨k, o', d', A⟩ := G.at hq
            rw [A.can] at hc'; cases hc'
            have hbit := hardIn_spec (Tx.last.hard k (hrest q k A.ord)) A.ci hf
            obtain ⟨p, k1, k2⟩ := done_of G hsz (anc_listed hcl ho hall hbit) (G.hex q k A.ord)
            have := G.hord.inj p q _ k1 A.ord
            subst this; exact k2
          have hr := I.absorb G trivial I.le (Nat.le_refl _) (fun p c' hp hc' hf => hhard p c' hp hc' hf)
          rw [I.cut_all G] at hr
          refine Tx.step G hsz hcl hall hrest I hr n1 e1 r (fun σ w' hI hR => ihf _ a w' hsz' hfu hcl' (.inr ⟨σ, h1, hI, hR, .inl ⟨(setx _).2 (.inr rfl), fun h => ?_, rfl⟩⟩))
          rcases (setx _).1 h with h | h
          · exact hy h
          · exact hny h.symm
        · rcases hcase with ⟨hx, -, -⟩ | ⟨-, hy, rfl⟩ | ⟨hx, -, -⟩
          · exact absurd hx hn
          · exact Tx.step G hsz hcl hall hrest I hr n2 e4 r (fun σ w' hI hR => ihf _ a w' hsz' hfu hcl' (.inr ⟨σ, h2, hI, hR, .inr (.inr ⟨(setx _).2 (.inr rfl), (setx _).2 (.inl hy), rfl⟩)⟩))
          · exact absurd hx hn
      · by_cases hiy : i = y
        · subst hiy
          have eo : o = oy := by have := Ty.op; rw [ho] at this; exact Option.some.inj this
          subst eo
          have hnx : x ≠ i := Tx.ne
          rcases hst with ⟨hx, hy, pb, ρ, I⟩ | ⟨ρ, hh, I, hr, hcase⟩
          · have hhard : ∀ q c', q < l.length → l[q]? = some c' → isFl c'.op = false → DoneIn order listed q := by
              intro q c' hq hc' hf
              obtain ⟨k, o', d', A⟩ := G.at hq
              rw [A.can] at hc'; cases hc'
              have hbit := hardIn_spec (Ty.last.hard k (hrest q k A.ord)) A.ci hf
              obtain ⟨p, k1, k2⟩ := done_of G hsz (anc_listed hcl ho hall hbit) (G.hex q k A.ord)
              have := G.hord.inj p q _ k1 A.ord
              subst this; exact k2
            have hr := I.absorb G trivial I.le (Nat.le_refl _) (fun p c' hp hc' hf => hhard p c' hp hc' hf)
            rw [I.cut_all G] at hr
            refine Ty.step G' hsz hcl hall hrest I hr n1' e3 r (fun σ w' hI hR => ihf _ a w' hsz' hfu hcl' (.inr ⟨σ, h1', hI, hR, .inr (.inl ⟨fun h => ?_, (setx _).2 (.inr rfl), rfl⟩)⟩))
            rcases (setx _).1 h with h | h
            · exact hx h
            · exact hnx h
          · rcases hcase with ⟨hx, -, rfl⟩ | ⟨-, hy, -⟩ | ⟨-, hy, -⟩
            · exact Ty.step G' hsz hcl hall hrest I hr n2 e2 r (fun σ w' hI hR => ihf _ a w' hsz' hfu hcl' (.inr ⟨σ, h2, hI, hR, .inr (.inr ⟨(setx _).2 (.inl hx), (setx _).2 (.inr rfl), rfl⟩)⟩))
            · exact absurd hy hn
            · exact absurd hy hn
        · obtain ⟨q, c', W⟩ := now_of G hsz hcl ho hn (fun h => h.elim hix hiy) hall
          have same : ∀ k, k ≠ i → (Listed (listed.setIfInBounds i true) k ↔ Listed listed k) := fun k hk => by rw [setx]; exact ⟨fun h => h.resolve_right hk, .inl⟩
          have sx := same x (fun e => hix e.symm)
          have sy := same y (fun e => hiy e.symm)
          rcases hst with ⟨hx, hy, pb, ρ, I⟩ | ⟨ρ, hh, I, hr, hcase⟩
          · refine I.step G (.inl trivial) W r (fun pb' τ a' w' hI => ?_)
            rw [done_set G (by omega) W.A.ord] at hI
            exact ihf _ a' w' hsz' hfu hcl' (.inl ⟨by rw [sx]; exact hx, by rw [sy]; exact hy, pb', τ, hI⟩)
          · have hfl : isFl c'.op = true := by
              cases hf : isFl c'.op with
              | true => rfl
              | false => exact absurd (I.done q _ (W.A.lt G) W.A.can hf) W.not
            refine I.stepFl G W hfl r (fun a' hI => ?_)
            rw [done_set G (by omega) W.A.ord] at hI
            exact ihf _ a' w hsz' hfu hcl' (.inr ⟨ρ, hh, hI, hr, by rw [sx, sy]; exact hcase⟩)
end

theorem start_inv {ih : IH} {M N : Nat} {ex : Nat → Prop} {ops : Array Oper} {cis l : List CI} {order ws : List Nat} {ss : Nat → Slots} {hs : Nat → H} {vs : Nat → Value} (G : Reg P ih M N ex ops cis l order ws ss hs vs) {ρ : Rho} {h : H} {s : Slots} {a : Act} {w : World} {Ds : List Nat} (e1 : ss 0 = s) (e2 : hs 0 = h)
    (hN : a.tmps.size = N) (hS : SR ρ s a.tmps) (hr : HR P ρ h w) (hd : a.defers = Ds.map markOf) : Inv P N l.length l ss hs vs ρ w Ds True (DoneIn order (Array.replicate ops.size false)) 0 ρ a { w with drawn := w.drawn + 1 } := by
  have none : ∀ q, ¬ DoneIn order (Array.replicate ops.size false) q := by
    rintro q ⟨j, -, hj⟩
    unfold Listed at hj
    rw [Array.getElem?_replicate] at hj
    split at hj <;> cases hj
  have hext : Ext ρ w ρ { w with drawn := w.drawn + 1 } := Ext.drew ρ w
  have hr1 : HR P ρ h { w with drawn := w.drawn + 1 } := hr.drew
  have hlt : ∀ i R, ρ i = some R → i < (hs 0).next := by
    intro i R hi
    rw [e2]
    by_cases hlt : i < h.next
    · exact hlt
    · rw [(hr.nxt i (by omega)).1] at hi; cases hi
  have hcut : cut ρ (hs 0).next = ρ := by
    funext i
    unfold cut
    by_cases h : i < (hs 0).next
    · rw [if_pos h]
    · rw [if_neg h]
      cases hi : ρ i with
      | none => rfl
      | some R => exact absurd (hlt i R hi) h
  exact ⟨fun _ => .inl rfl, Nat.zero_le _, fun q _ hq => by omega, fun q c _ hq => absurd hq (none q), fun _ => by rw [hcut, e2]; exact hr1, fun q _ _ hq => absurd hq (none q), hr1.blk, fun i R hi => .inl (hlt i R hi), fun t _ v hv => by rw [e1] at hv; exact hS t v hv, fun q _ hq => absurd hq (none q), hN, hd, hext, hlt⟩

theorem unl_start (n : Nat) : (unl n (Array.replicate n false)).length = n := by
  unfold unl
  rw [List.filter_eq_self.2, List.length_range]
  intro i hi
  have hi' := List.mem_range.1 hi
  rw [Array.getD_eq_getD_getElem?, Array.getElem?_replicate, if_pos hi']; rfl
theorem closed_start (ops : Array Oper) : Closed ops (Array.replicate ops.size false) := by
  intro j hj
  unfold Listed at hj
  rw [Array.getElem?_replicate] at hj
  split at hj <;> cases hj
theorem not_listed_start (n k : Nat) : ¬ Listed (Array.replicate n false) k := by
  intro hj
  unfold Listed at hj
  rw [Array.getElem?_replicate] at hj
  split at hj <;> cases hj

/-- a region that draws its order. -/
theorem draw_sound (hmix : P.follows .mixedOrders = true) {ih : IH} {M : Nat} (hih : ∀ t o, ih t = some o → Sound P M t o) (hnx : ∀ t o, ih t = some o → nextT t ≤ nextO o) {N : Nat} {ops : Array Oper} {id : Nat} {cis : List CI} (hcis : allO (compileOper P N ops) ops.toList = some cis)
    (hbk : ops.toList.zipIdx.all (fun x => (x.1.after.toList.filter (Region.binds .any)).all fun e => Nat.blt e.on x.2) = true) {cc : CC} (hc : drawIn (ancs ops.toList) cis = some cc) {s : Slots} {h : H} {o : Out} (hv : codeStep cc ih s h = some o) {ρ : Rho} {r : Option Nat} {a : Act} {w : World} {Ds : List Nat} (hN : a.tmps.size = N) (hs : SR ρ s a.tmps) (hr : HR P ρ h w) (hd : a.defers = Ds.map markOf) (hD : DefOk ρ w Ds) :
    (Code.region id ops true).wpIn (Wf r) 0 P (CPost P ρ w N Ds o) a w := by
  have hback := back_spec hbk
  have hclen : cis.length = ops.size := by have := (allO_get hcis).1; simpa using this
  rcases drawIn_some hc with ⟨l, order, rfl, h1, h2, h3⟩ | ⟨l, order, x, y, c, d, rest, rfl, h1, rfl, h2, h3, h4, h5, h6, h7, h8, h9⟩
  · obtain ⟨⟨sF, hF⟩, hrun, e⟩ := amf hv
    subst e
    obtain ⟨ss, hs', vs, htr, e1, e2, e3, e4⟩ := tr_exists hrun
    have G : Reg P ih M N (fun _ => False) ops cis l order (wsOf cis) ss hs' vs := ⟨hih, hnx, hcis, h1, fun i hi _ => h2 i hi, fun _ _ _ h => h, rfl, h3, htr⟩
    have key := draw_any G hback r hD ops.size _ a _ 0 ρ (by simp) (unl_start _) (closed_start _) (start_inv G e1 e2 hN hs hr hd)
    rw [e3, e4] at key
    exact wpIn_region_any hmix key
  · obtain ⟨⟨sF, hF⟩, hrun, hv⟩ := aof hv
    obtain ⟨hh, hst, e⟩ := amf hv
    subst e
    obtain ⟨ss, hs', vs, htr, e1, e2, e3, e4⟩ := tr_exists hrun
    obtain ⟨g1, g1', s1, s2, s3, s4, n1, n1', n2⟩ := store2_spec hst
    have notin : ∀ i, i ∈ ((List.range cis.length).filter fun i => !(Nat.beq i x) && !(Nat.beq i y)) ↔ i < cis.length ∧ ¬ (i = x ∨ i = y) := by
      intro i
      rw [List.mem_filter, List.mem_range]
      constructor
      · rintro ⟨a1, a2⟩
        refine ⟨a1, fun h => ?_⟩
        rcases h with rfl | rfl <;> simp at a2
      · rintro ⟨a1, a2⟩
        refine ⟨a1, ?_⟩
        have b1 : Nat.beq i x = false := by
          cases e : Nat.beq i x with
          | false => rfl
          | true => exact absurd (.inl (Nat.eq_of_beq_eq_true e)) a2
        have b2 : Nat.beq i y = false := by
          cases e : Nat.beq i y with
          | false => rfl
          | true => exact absurd (.inr (Nat.eq_of_beq_eq_true e)) a2
        simp [b1, b2]
    have G : Reg P ih M N (fun i => i = x ∨ i = y) ops cis l order (wsOf cis) ss hs' vs := ⟨hih, hnx, hcis, h1, fun i hi hx => h2 i ((notin i).2 ⟨hi, hx⟩), fun q i hq h => ((notin i).1 (h3 q i hq)).2 h, rfl, h9, htr⟩
    have G' : Reg P ih M N (fun i => i = y ∨ i = x) ops cis l order (wsOf cis) ss hs' vs := ⟨hih, hnx, hcis, h1, fun i hi hx => h2 i ((notin i).2 ⟨hi, fun h => hx h.symm⟩), fun q i hq h => ((notin i).1 (h3 q i hq)).2 h.symm, rfl, h9, htr⟩
    have isStore : isW c.op = true ∧ isW d.op = true := by
      unfold store2Of at hst
      split at hst
      · rename_i e1 e2; rw [e1, e2]; exact ⟨rfl, rfl⟩
      · cases hst
    have opsx : ∀ {i : Nat} {e : CI}, cis[i]? = some e → ∃ o, ops[i]? = some o ∧ compileOper P N ops o = some e := by
      intro i e he
      have hi : i < ops.size := by rw [← hclen]; exact (List.getElem?_eq_some_iff.1 he).1
      obtain ⟨y, hy1, hy2⟩ := (allO_get hcis).2 i ops[i] (by simp [hi])
      rw [he] at hy2; cases hy2
      exact ⟨ops[i], Array.getElem?_eq_getElem hi, hy1⟩
    obtain ⟨ox, hox, hcx⟩ := opsx h4
    obtain ⟨oy, hoy, hcy⟩ := opsx h5
    have Tx : Two P N ops cis l order ss hs' x y c ox _ := ⟨hox, hcx, h6, isStore.1, h8⟩
    have Ty : Two P N ops cis l order ss hs' y x d oy _ := ⟨hoy, hcy, h7, isStore.2, fun e => h8 e.symm⟩
    rw [← e3, ← e4] at s1
    rw [← e3] at s2 s4
    rw [← e3, ← e4] at s3
    rw [← e4] at n1 n1' n2
    have key := draw_two G G' Tx Ty h3 hback s1 s2 s3 s4 n1 n1' n2 r hD ops.size _ a _ (by simp) (unl_start _) (closed_start _) (.inl ⟨not_listed_start _ _, not_listed_start _ _, 0, ρ, start_inv G e1 e2 hN hs hr hd⟩)
    rw [e3] at key
    exact wpIn_region_any hmix key
end Go.Ideal
/- The ideal machine is sound. -/
namespace Go.Ideal
variable {P : Program}
/-! ### Nothing is taken back -/
theorem runOps_next {ih : IH} (hnx : ∀ t o, ih t = some o → nextT t ≤ nextO o) : ∀ {l : List CI} {s : Slots} {h : H} {s' : Slots} {h' : H}, runOps ih l s h = some (s', h') → h.next ≤ h'.next
  | [], s, h, s', h', hv => by rw [runOps_nil] at hv; cases hv; exact Nat.le_refl _
  | o :: l, s, h, s', h', hv => by
    rw [runOps_cons] at hv
    obtain ⟨⟨v, h1⟩, hstep, hrest⟩ := aof hv
    obtain ⟨b, hb, hstep⟩ := aof hstep
    refine Nat.le_trans ?_ (runOps_next hnx hrest)
    cases b with
    | true => exact doOp_next hnx hstep
    | false => cases hstep; exact Nat.le_refl _
theorem drawOps_next {ih : IH} (hnx : ∀ t o, ih t = some o → nextT t ≤ nextO o) : ∀ {l : List CI} {bs : List (Nat × H)} {s : Slots} {h : H} {s' : Slots} {h' : H}, drawOps ih l bs s h = some (s', h') → h.next ≤ h'.next
  | [], bs, s, h, s', h', hv => by rw [drawOps_nil] at hv; cases hv; exact Nat.le_refl _
  | o :: l, bs, s, h, s', h', hv => by
    rw [drawOps_cons] at hv
    obtain ⟨⟨v, h1, bs1⟩, hstep, hrest⟩ := aof hv
    obtain ⟨b, hb, hstep⟩ := aof hstep
    refine Nat.le_trans ?_ (drawOps_next hnx hrest)
    cases b with
    | true =>
      simp only [drawDo] at hstep
      split at hstep
      · obtain ⟨x, hx, e⟩ := amf hstep; cases e; exact doOp_next hnx hx
      · split at hstep
        · cases bs with
          | nil => cases hstep
          | cons b0 bs =>
            obtain ⟨y, hy, hstep⟩ := aof hstep
            split at hstep
            · cases hstep; exact Nat.le_refl _
            · cases hstep
        · obtain ⟨x, hx, e⟩ := amf hstep; cases e; exact opV_next hx
    | false => cases hstep; exact Nat.le_refl _
theorem thenK_next {ih : IH} (hnx : ∀ t o, ih t = some o → nextT t ≤ nextO o) {L : List (List Bool)} {b : CC} {o o' : Out} (h : thenK ih L b o = some o') : nextO o ≤ nextO o' := by
  cases o with
  | nrm s h1 => exact hnx _ _ h
  | exit _ _ _ => cases h; exact Nat.le_refl _
  | ret _ _ => cases h; exact Nat.le_refl _
  | val _ _ => cases h; exact Nat.le_refl _
theorem loopK_next {ih : IH} (hnx : ∀ t o, ih t = some o → nextT t ≤ nextO o) {L : List (List Bool)} {b : CC} {o o' : Out} (h : loopK ih L b o = some o') : nextO o ≤ nextO o' := by
  cases o with
  | nrm s h1 => exact hnx _ _ h
  | exit _ _ _ => cases h; exact Nat.le_refl _
  | ret _ _ => cases h; exact Nat.le_refl _
  | val _ _ => cases h; exact Nat.le_refl _
theorem resOf_next {rs : List CR} {s : Slots} {h : H} {o : Out} (ho : resOf rs s h = some o) : nextO o = h.next := by
  obtain ⟨vs, hvs, rfl⟩ := amf ho; rfl
theorem pendK_next {s : Slots} {h : H} {p : Option CC} {o : Out} (ho : pendK s h p = some o) : nextO o = h.next := by
  unfold pendK at ho
  split at ho <;> cases ho <;> rfl

theorem codeStep_next {ih : IH} (hnx : ∀ t o, ih t = some o → nextT t ≤ nextO o) {c : CC} {s : Slots} {h : H} {o : Out} (hv : codeStep c ih s h = some o) : h.next ≤ nextO o := by
  cases c with
  | skip => cases hv; exact Nat.le_refl _
  | ops l => obtain ⟨⟨s', h'⟩, hr, e⟩ := amf hv; subst e; exact runOps_next hnx hr
  | draw l => obtain ⟨⟨s', h'⟩, hr, e⟩ := amf hv; subst e; exact drawOps_next hnx hr
  | draw2 l x y =>
    obtain ⟨⟨s', h'⟩, hr, hv⟩ := aof hv
    obtain ⟨g, hg, e⟩ := amf hv
    subst e
    obtain ⟨_, _, _, _, _, _, _, _, n2⟩ := store2_spec hg
    have := drawOps_next hnx hr
    show h.next ≤ g.next
    rw [n2]; exact this
  | seq a L b => obtain ⟨o1, h1, h2⟩ := aof hv; exact Nat.le_trans (hnx _ _ h1) (thenK_next hnx h2)
  | cond x a b => obtain ⟨u, hu, hv⟩ := aof hv; obtain ⟨y, hy, hv⟩ := aof hv; exact hnx _ _ hv
  | block i b =>
    obtain ⟨o1, h1, e⟩ := amf hv
    have := hnx _ _ h1
    subst e
    cases o1 with
    | exit j s' h' =>
      simp only [blockK]
      split <;> exact this
    | nrm _ _ => exact this
    | ret _ _ => exact this
    | val _ _ => exact this
  | loop L b => obtain ⟨o1, h1, h2⟩ := aof hv; exact Nat.le_trans (hnx _ _ h1) (loopK_next hnx h2)
  | rangeFunc rid L f ps as b =>
    obtain ⟨u, hu, hv⟩ := aof hv
    obtain ⟨g, hg, hv⟩ := aof hv
    obtain ⟨o1, ho1, hv⟩ := aof hv
    obtain ⟨⟨v1, h1⟩, hval, hv⟩ := aof hv
    obtain ⟨lo, hlo, hv⟩ := aof hv
    have h2 := hnx _ _ ho1
    cases o1 with
    | val v0 g0 =>
      simp only [valOf, Option.some.injEq, Prod.mk.injEq] at hval
      obtain ⟨-, rfl⟩ := hval
      have h3 : h.next + 1 ≤ g0.next := h2
      have : nextO o = g0.next := by
        unfold rangeEnd at hv
        split at hv
        · have := pendK_next hv; exact this
        · have := pendK_next hv; exact this
        · cases hv
      omega
    | nrm _ _ => cases hval
    | exit _ _ _ => cases hval
    | ret _ _ => cases hval
  | exit i => cases hv; exact Nat.le_refl _
  | ret => cases hv; exact Nat.le_refl _

theorem finRound_next {l : Nat} {o o' : Out} (h : finRound l o = some o') : nextO o = nextO o' := by
  have fin : ∀ {p : Option CC} {g : H} {lo : IObj}, finObj l p g lo = some o' → g.next = nextO o' := by
    intro p g lo hf
    cases lo with
    | loop _ _ _ _ => cases hf; rfl
    | cells _ _ => cases hf
    | map _ _ => cases hf
    | dead => cases hf
  cases o with
  | nrm s g => obtain ⟨lo, -, hf⟩ := aof h; exact fin hf
  | exit i s g => obtain ⟨lo, -, hf⟩ := aof h; exact fin hf
  | ret s g => obtain ⟨lo, -, hf⟩ := aof h; exact fin hf
  | val _ _ => cases h

theorem callStep_next {F : FuncId → Option CFunc} {ih : IH} (hnx : ∀ t o, ih t = some o → nextT t ≤ nextO o) {f : Value} {args : List Value} {h : H} {o : Out} (hv : callStep F ih args h f = some o) : h.next ≤ nextO o := by
  unfold callStep at hv
  split at hv
  · obtain ⟨cf, hcf, hv⟩ := aof hv
    unfold runFunc at hv
    split at hv
    · split at hv
      · obtain ⟨o1, ho1, hret⟩ := aof hv
        have := hnx _ _ ho1
        cases o1 with
        | nrm s g => rw [resOf_next hret]; exact this
        | ret s g => rw [resOf_next hret]; exact this
        | exit _ _ _ => cases hret
        | val _ _ => cases hret
      · cases hv
    · obtain ⟨x, hx, hv⟩ := aof hv
      split at hv
      · rename_i hle; cases hv; exact Nat.le_of_ble_eq_true hle
      · cases hv
  · split at hv
    · obtain ⟨lo, hlo, hv⟩ := aof hv
      cases lo with
      | loop st pend sl rc =>
        obtain ⟨s0, hs0, hv⟩ := aof hv
        obtain ⟨o1, ho1, hv⟩ := aof hv
        have h1 := hnx _ _ ho1
        cases o1 with
        | nrm s g =>
          obtain ⟨lo1, hlo1, hv⟩ := aof hv
          cases lo1 with
          | loop st1 pend1 sl1 rc1 =>
            cases st1 <;> simp only [roundBody, reduceCtorEq] at hv
            obtain ⟨o2, ho2, hfin⟩ := aof hv
            have h2 := hnx _ _ ho2
            rw [← finRound_next hfin]
            exact Nat.le_trans h1 h2
          | cells _ _ => cases hv
          | map _ _ => cases hv
          | dead => cases hv
        | exit _ _ _ => cases hv
        | ret _ _ => cases hv
        | val _ _ => cases hv
      | cells _ _ => cases hv
      | map _ _ => cases hv
      | dead => cases hv
    · cases hv
  · cases hv

theorem E_next {F : FuncId → Option CFunc} : ∀ (n : Nat) (t : Task) (o : Out), E F n t = some o → nextT t ≤ nextO o
  | 0, t, o, h => by cases h
  | n + 1, t, o, h => by
    cases t with
    | code c s g => exact codeStep_next (E_next n) (show codeStep c (E F n) s g = some o from h)
    | call f args g => exact callStep_next (E_next n) (show callStep F (E F n) args g f = some o from h)

/-! ### Code -/
section
theorem codeStep_sound {ih : IH} {M : Nat} (hih : ∀ t o, ih t = some o → Sound P M t o) (hmix : P.follows .mixedOrders = true) (hnx : ∀ t o, ih t = some o → nextT t ≤ nextO o) : ∀ (code : Code) (c : CC) (N : Nat), compileCode P N code = some (strip c) → ∀ (s : Slots) (h : H) (o : Out), codeStep c ih s h = some o →
    ∀ (r : Option Nat) (ρ : Rho) (a : Act) (w : World) (Ds : List Nat), RoundOk r w → a.tmps.size = N → SR ρ s a.tmps → HR P ρ h w → a.defers = Ds.map markOf → DefOk ρ w Ds → CodeOk P (M + 1) r (CPost P ρ w N Ds o) a w code
  | .skip, c, N, hc, s, h, o, hv, r, ρ, a, w, Ds, hR, hN, hs, hr, hd, hD => by
    obtain rfl := strip_skip (Option.some.inj hc); cases hv
    exact wpIn_skip ⟨ρ, Ds, s, h, .refl _ _, hN, hd, ⟨hD, fun D h => .inl h⟩, hs, hr, .inl ⟨rfl, rfl⟩⟩
  | .label l, c, N, hc, s, h, o, hv, r, ρ, a, w, Ds, hR, hN, hs, hr, hd, hD => by
    obtain rfl := strip_skip (Option.some.inj hc); cases hv
    exact wpIn_label ⟨ρ, Ds, s, h, .refl _ _, hN, hd, ⟨hD, fun D h => .inl h⟩, hs, hr, .inl ⟨rfl, rfl⟩⟩
  | .exit i, c, N, hc, s, h, o, hv, r, ρ, a, w, Ds, hR, hN, hs, hr, hd, hD => by
    obtain rfl := strip_exit (Option.some.inj hc); cases hv
    exact wpIn_exit ⟨ρ, Ds, s, h, .refl _ _, hN, hd, ⟨hD, fun D h => .inl h⟩, hs, hr, .inr (.inl ⟨i, rfl, rfl⟩)⟩
  | .ret, c, N, hc, s, h, o, hv, r, ρ, a, w, Ds, hR, hN, hs, hr, hd, hD => by
    obtain rfl := strip_ret (Option.some.inj hc); cases hv
    exact wpIn_ret ⟨ρ, Ds, s, h, .refl _ _, hN, hd, ⟨hD, fun D h => .inl h⟩, hs, hr, .inr (.inr ⟨rfl, rfl⟩)⟩
  | .goto l, c, N, hc, _, _, _, _, _, _, _, _, _, _, _, _, _, _, _ => by cases hc
  | .refuse l, c, N, hc, _, _, _, _, _, _, _, _, _, _, _, _, _, _, _ => by cases hc
  | .scope b, c, N, hc, s, h, o, hv, r, ρ, a, w, Ds, hR, hN, hs, hr, hd, hD => by
    have := (codeStep_sound hih hmix hnx b c N hc s h o hv r ρ a w Ds hR hN hs hr hd hD).wpIn
    exact wpIn_scope this (fun l a w h => by
      obtain ⟨_, _, _, _, _, _, _, _, _, _, h⟩ := h
      rcases h with ⟨_, h⟩ | ⟨_, _, h⟩ | ⟨_, h⟩ <;> cases h)
  | .region id ops d, c, N, hc, s, h, o, hv, r, ρ, a, w, Ds, hR, hN, hs, hr, hd, hD => by
    obtain ⟨l, hl, hc⟩ := aof hc
    cases d with
    | false =>
      obtain rfl := strip_ops (Option.some.inj hc)
      obtain ⟨⟨s1, h1⟩, hrun, e⟩ := amf hv
      subst e
      have := ops_wpIn (ops := ops) hih r (w0 := w) (ρ0 := ρ) ops.size 0 l ρ s h a w (by omega) (by simpa using hl) hrun hr hs hN hd hD (.refl _ _)
      refine wpIn_region ?_
      rw [List.range_eq_range']; exact this
    | true =>
      have hc : (if ops.toList.zipIdx.all (fun x => (x.1.after.toList.filter (Region.binds .any)).all fun e => Nat.blt e.on x.2) then drawIn (ancs ops.toList) l else none) = some (strip c) := hc
      split at hc
      · rename_i hbk
        have e : strip c = c := by
          rcases drawIn_some hc with ⟨l', order, e, -⟩ | ⟨l', order, x, y, c', d, rest, e, -⟩
          · rw [strip_draw e.symm]; rfl
          · rw [strip_draw2 e.symm]; rfl
        rw [e] at hc
        exact draw_sound hmix hih hnx hl hbk hc hv hN hs hr hd hD
      · cases hc
  | .seq x y, c, N, hc, s, h, o, hv, r, ρ, a, w, Ds, hR, hN, hs, hr, hd, hD => by
    obtain ⟨cx, hx, hc⟩ := aof hc
    obtain ⟨cy, hy, hc⟩ := amf hc
    obtain ⟨ca, L, cb, rfl, rfl, rfl⟩ := strip_seq hc
    obtain ⟨o1, h1, h2⟩ := aof hv
    refine wpIn_seq (wpIn_mono ((hih _ _ h1 x N hx r ρ a w Ds hR hN hs hr hd hD).wpIn) ?_)
    rintro e a1 w1 ⟨σ, Ds1, s1, hh1, he, hN1, hd1, ⟨hD1, hds1⟩, hs1, hr1, hcase⟩
    rcases hcase with ⟨rfl, rfl⟩ | ⟨i, rfl, rfl⟩ | ⟨rfl, rfl⟩
    · exact wpIn_mono ((hih _ _ h2 y N hy r σ a1 w1 Ds1 (hR.ext he) hN1 (hs1.keep L) hr1 hd1 hD1).wpIn) (fun e a2 w2 h => h.ext he hds1)
    · cases h2; exact ⟨σ, Ds1, s1, hh1, he, hN1, hd1, ⟨hD1, hds1⟩, hs1, hr1, .inr (.inl ⟨i, rfl, rfl⟩)⟩
    · cases h2; exact ⟨σ, Ds1, s1, hh1, he, hN1, hd1, ⟨hD1, hds1⟩, hs1, hr1, .inr (.inr ⟨rfl, rfl⟩)⟩
  | .cond x y z, c, N, hc, s, h, o, hv, r, ρ, a, w, Ds, hR, hN, hs, hr, hd, hD => by
    obtain ⟨cx, hx, hc⟩ := aof hc
    obtain ⟨cy, hy, hc⟩ := aof hc
    obtain ⟨cz, hz, hc⟩ := amf hc
    obtain ⟨ca, cb, rfl, rfl, rfl⟩ := strip_cond hc
    obtain ⟨u, hu, hv⟩ := aof hv
    obtain ⟨cc, hcc, hv⟩ := aof hv
    have hxv := co_ev hx hs hu
    unfold condV at hcc
    split at hcc
    · cases hcc
      exact wpIn_cond_true hxv.inv_bool ((hih _ _ hv y N hy r ρ a w Ds hR hN hs hr hd hD).wpIn)
    · cases hcc
      exact wpIn_cond_false hxv.inv_bool ((hih _ _ hv z N hz r ρ a w Ds hR hN hs hr hd hD).wpIn)
    · cases hcc
  | .block id b, c, N, hc, s, h, o, hv, r, ρ, a, w, Ds, hR, hN, hs, hr, hd, hD => by
    obtain ⟨cb, hb, hc⟩ := amf hc
    obtain ⟨ca, rfl, rfl⟩ := strip_block hc
    obtain ⟨o1, h1, rfl⟩ := amf hv
    refine wpIn_block (wpIn_mono ((hih _ _ h1 b N hb r ρ a w Ds hR hN hs hr hd hD).wpIn) ?_)
    rintro e a1 w1 ⟨σ, Ds1, s1, hh1, he, hN1, hd1, ⟨hD1, hds1⟩, hs1, hr1, hcase⟩
    rcases hcase with ⟨rfl, rfl⟩ | ⟨i, rfl, rfl⟩ | ⟨rfl, rfl⟩
    · exact ⟨σ, Ds1, s1, hh1, he, hN1, hd1, ⟨hD1, hds1⟩, hs1, hr1, .inl ⟨rfl, rfl⟩⟩
    · by_cases hid : i = id
      · subst hid
        simp only [Exit.inBlock, if_true, blockK, Nat.beq_refl]
        exact ⟨σ, Ds1, s1, hh1, he, hN1, hd1, ⟨hD1, hds1⟩, hs1, hr1, .inl ⟨rfl, rfl⟩⟩
      · have : Nat.beq i id = false := by
          cases h : Nat.beq i id with
          | false => rfl
          | true => exact absurd (Nat.eq_of_beq_eq_true h) hid
        simp only [Exit.inBlock, if_neg hid, blockK, this]
        exact ⟨σ, Ds1, s1, hh1, he, hN1, hd1, ⟨hD1, hds1⟩, hs1, hr1, .inr (.inl ⟨i, rfl, rfl⟩)⟩
    · exact ⟨σ, Ds1, s1, hh1, he, hN1, hd1, ⟨hD1, hds1⟩, hs1, hr1, .inr (.inr ⟨rfl, rfl⟩)⟩
  | .loop b, c, N, hc, s, h, o, hv, r, ρ, a, w, Ds, hR, hN, hs, hr, hd, hD => by
    obtain ⟨cb, hb, hc⟩ := amf hc
    obtain ⟨L, ca, rfl, rfl⟩ := strip_loop hc
    obtain ⟨o1, h1, h2⟩ := aof hv
    show Code.roundsIn (Wf r) 0 P b _ (M + 1) a w
    rw [roundsIn_succ]
    refine wpIn_mono ((hih _ _ h1 b N hb r ρ a w Ds hR hN (hs.keep L) hr hd hD).wpIn) ?_
    rintro e a1 w1 ⟨σ, Ds1, s1, hh1, he, hN1, hd1, ⟨hD1, hds1⟩, hs1, hr1, hcase⟩
    rcases hcase with ⟨rfl, rfl⟩ | ⟨i, rfl, rfl⟩ | ⟨rfl, rfl⟩
    · have hl : CodeOk P M r (CPost P σ w1 N Ds1 o) a1 w1 (.loop b) := hih _ _ h2 (.loop b) N (by simp [compileCode, hb, strip]) r σ a1 w1 Ds1 (hR.ext he) hN1 hs1 hr1 hd1 hD1
      exact rounds_mono (fun e a2 w2 h => h.ext he hds1) M a1 w1 hl
    · cases h2; exact ⟨σ, Ds1, s1, hh1, he, hN1, hd1, ⟨hD1, hds1⟩, hs1, hr1, .inr (.inl ⟨i, rfl, rfl⟩)⟩
    · cases h2; exact ⟨σ, Ds1, s1, hh1, he, hN1, hd1, ⟨hD1, hds1⟩, hs1, hr1, .inr (.inr ⟨rfl, rfl⟩)⟩
  | .rangeFunc f ps as b, c, N, hc, s, h, o, hv, r, ρ, a, w, Ds, hR, hN, hs, hr, hd, hD => by
    unfold compileCode at hc
    split at hc
    · rename_i hps
      obtain ⟨cf, hf, hc⟩ := aof hc
      obtain ⟨cas, has, hc⟩ := aof hc
      obtain ⟨cb, hb, hc⟩ := amf hc
      obtain ⟨rid, L, ca, cb', rfl, rfl, rfl⟩ := strip_range hc
      exact range_sound hih hps hf has hb hv hR hN hs hr hd hD
    · cases hc
end

/-- WHAT THE IDEAL MACHINE RETURNS THE GIVEN ONE RETURNS. -/
theorem E_sound {F : FuncId → Option CFunc} (hmix : P.follows .mixedOrders = true) (hF : ∀ g cf, F g = some cf → FnOk P g cf) : ∀ (n : Nat) (t : Task) (o : Out), E F n t = some o → Sound P n t o
  | 0, t, o, h => by cases h
  | n + 1, t, o, h => by
    have hih := E_sound hmix hF n
    cases t with
    | code c s g =>
      intro code N hc r ρ a w Ds hR hN hs hr hd hD
      exact codeStep_sound hih hmix (E_next n) code c N hc s g o (show codeStep c (E F n) s g = some o from h) r ρ a w Ds hR hN hs hr hd hD
    | call f args g =>
      refine call_sound hF (fun b s h o he => ?_) hih (show callStep F (E F n) args g f = some o from h)
      cases n with
      | zero => cases he
      | succ n => exact (Option.some.inj he).symm

/-- a call of a function by its number. -/
theorem calls_of_E {F : FuncId → Option CFunc} (hmix : P.follows .mixedOrders = true) (hF : ∀ g cf, F g = some cf → FnOk P g cf) {n : Nat} {g : FuncId} {args : List Value} {h h' : H} {v : Value}
    (he : E F n (.call (.func (.func g) #[] #[]) args h) = some (.val v h')) {ρ : Rho} {args' : Array Value} {w : World} (ra : VRL ρ args args'.toList) (hr : HR P ρ h w) :
    Calls P g args' w fun e w' => ∃ v' σ, e = .returned v' ∧ VR σ v v' ∧ HR P σ h' w' ∧ Ext ρ w σ w' := by
  have hs := E_sound hmix hF n _ _ he ρ (.func (.func g) #[] #[]) args' w (.func g rfl rfl (by simp) (by simp)) ra hr
  have hc := callsIn_wide.1 hs.1
  simp only [Array.empty_append, Array.append_empty] at hc
  refine hc.mono ?_
  rintro e w' ⟨v0, h0, v', σ, e1, e2, q1, q2, q3⟩
  cases e1
  exact ⟨v', σ, e2, q1, q2, q3⟩
end Go.Ideal
/- A second evaluator, which hands on what comes next: it finds only what the first one finds. -/
namespace Go.Ideal
noncomputable section
variable {P : Program}

/-! ### More fuel does no harm -/
def Le (ih ih' : IH) : Prop := ∀ t o, ih t = some o → ih' t = some o

theorem doOp_le {ih ih' : IH} (hl : Le ih ih') {op : COp} {s : Slots} {h : H} {x : Value × H} (hv : doOp ih op s h = some x) : doOp ih' op s h = some x := by
  by_cases hc : ∃ f as, op = .call f as
  · obtain ⟨f, as, rfl⟩ := hc
    obtain ⟨u, hu, hv⟩ := aof hv
    obtain ⟨l, hl', hv⟩ := aof hv
    obtain ⟨o, ho, hv⟩ := aof hv
    show callOp _ _ _ _ _ = _
    unfold callOp
    simp only [hu, hl', Option.bind_some, hl _ _ ho, hv]
  · have e : ∀ ih : IH, doOp ih op s h = opV op s h := by intro ih; cases op <;> first | rfl | exact absurd ⟨_, _, rfl⟩ hc
    rw [e] at hv ⊢; exact hv
theorem stepOp_le {ih ih' : IH} (hl : Le ih ih') {o : CI} {s : Slots} {h : H} {x : Value × H} (hv : stepOp ih o s h = some x) : stepOp ih' o s h = some x := by
  obtain ⟨b, hb, hv⟩ := aof hv
  unfold stepOp
  rw [hb]
  cases b with
  | true => exact doOp_le hl hv
  | false => exact hv
theorem runOps_le {ih ih' : IH} (hl : Le ih ih') : ∀ {l : List CI} {s : Slots} {h : H} {x : Slots × H}, runOps ih l s h = some x → runOps ih' l s h = some x
  | [], _, _, _, hv => hv
  | o :: l, s, h, x, hv => by
    rw [runOps_cons] at hv ⊢
    obtain ⟨y, hy, hv⟩ := aof hv
    rw [stepOp_le hl hy]; exact runOps_le hl hv
theorem drawStep_le {ih ih' : IH} (hl : Le ih ih') {o : CI} {bs : List (Nat × H)} {s : Slots} {h : H} {x : Value × H × List (Nat × H)} (hv : drawStep ih o bs s h = some x) : drawStep ih' o bs s h = some x := by
  obtain ⟨b, hb, hv⟩ := aof hv
  unfold drawStep
  rw [hb]
  cases b with
  | false => exact hv
  | true =>
    simp only [drawDo, Option.bind_some] at hv ⊢
    split at hv
    · rename_i hw
      rw [if_pos hw]
      obtain ⟨y, hy, e⟩ := amf hv
      rw [doOp_le hl hy, ← e]; rfl
    · rename_i hw
      rw [if_neg hw]; exact hv
theorem drawOps_le {ih ih' : IH} (hl : Le ih ih') : ∀ {l : List CI} {bs : List (Nat × H)} {s : Slots} {h : H} {x : Slots × H}, drawOps ih l bs s h = some x → drawOps ih' l bs s h = some x
  | [], _, _, _, _, hv => hv
  | o :: l, bs, s, h, x, hv => by
    rw [drawOps_cons] at hv ⊢
    obtain ⟨y, hy, hv⟩ := aof hv
    rw [drawStep_le hl hy]; exact drawOps_le hl hv
theorem codeStep_le {ih ih' : IH} (hl : Le ih ih') {c : CC} {s : Slots} {h : H} {o : Out} (hv : codeStep c ih s h = some o) : codeStep c ih' s h = some o := by
  cases c with
  | skip => exact hv
  | ops l => obtain ⟨x, hx, e⟩ := amf hv; show (runOps ih' l s h).map nrmOf = _; rw [runOps_le hl hx, ← e]; rfl
  | draw l => obtain ⟨x, hx, e⟩ := amf hv; show (drawOps ih' l [(0, h)] s h).map nrmOf = _; rw [drawOps_le hl hx, ← e]; rfl
  | draw2 l x y => obtain ⟨r, hr, hv⟩ := aof hv; show (drawOps ih' l [(0, h)] s h).bind _ = _; rw [drawOps_le hl hr]; exact hv
  | seq a L b =>
    obtain ⟨o1, h1, h2⟩ := aof hv
    show (ih' _).bind _ = _
    rw [hl _ _ h1]
    cases o1 <;> first | exact hl _ _ h2 | exact h2
  | cond x a b =>
    obtain ⟨u, hu, hv⟩ := aof hv; obtain ⟨y, hy, hv⟩ := aof hv
    show (x.ev s).bind _ = _
    rw [hu, Option.bind_some, hy, Option.bind_some]; exact hl _ _ hv
  | block i b =>
    obtain ⟨o1, h1, e⟩ := amf hv
    show (ih' _).map _ = _
    rw [hl _ _ h1, ← e]; rfl
  | loop L b =>
    obtain ⟨o1, h1, h2⟩ := aof hv
    show (ih' _).bind _ = _
    rw [hl _ _ h1]
    cases o1 <;> first | exact hl _ _ h2 | exact h2
  | rangeFunc rid L f ps as b =>
    obtain ⟨u, hu, hv⟩ := aof hv; obtain ⟨g, hg, hv⟩ := aof hv; obtain ⟨o1, h1, hv⟩ := aof hv
    show (f.ev s).bind _ = _
    rw [hu, Option.bind_some, hg, Option.bind_some, hl _ _ h1]; exact hv
  | exit i => exact hv
  | ret => exact hv
theorem callStep_le {F : FuncId → Option CFunc} {ih ih' : IH} (hl : Le ih ih') {f : Value} {args : List Value} {h : H} {o : Out} (hv : callStep F ih args h f = some o) : callStep F ih' args h f = some o := by
  unfold callStep at hv ⊢
  split at hv
  · obtain ⟨cf, hcf, hv⟩ := aof hv
    simp only [hcf, Option.bind_some]
    unfold runFunc at hv ⊢
    cases hp : cf.prim with
    | some p => rw [hp] at hv; exact hv
    | none =>
      rw [hp] at hv
      dsimp only at hv ⊢
      split at hv
      · rename_i hle
        rw [if_pos hle]
        obtain ⟨o1, h1, h2⟩ := aof hv
        rw [hl _ _ h1]; exact h2
      · cases hv
  · split at hv
    · rename_i hle
      rw [if_pos hle]
      obtain ⟨lo, hlo, hv⟩ := aof hv
      rw [hlo, Option.bind_some]
      cases lo with
      | loop st pend sl rc =>
        obtain ⟨s0, h0, hv⟩ := aof hv
        obtain ⟨o1, h1, hv⟩ := aof hv
        show (setSlots _ _ _).bind _ = _
        rw [h0, Option.bind_some, hl _ _ h1, Option.bind_some]
        cases o1 with
        | nrm s g =>
          obtain ⟨lo1, h2, hv⟩ := aof hv
          show (H.get _ _).bind _ = _
          rw [h2, Option.bind_some]
          cases lo1 with
          | loop st1 p1 sl1 rc1 =>
            cases st1 <;> simp only [roundBody, reduceCtorEq] at hv ⊢
            obtain ⟨o2, h3, hv⟩ := aof hv
            rw [hl _ _ h3]; exact hv
          | cells _ _ => cases hv
          | map _ _ => cases hv
          | dead => cases hv
        | exit _ _ _ => cases hv
        | ret _ _ => cases hv
        | val _ _ => cases hv
      | cells _ _ => cases hv
      | map _ _ => cases hv
      | dead => cases hv
    · cases hv
  · cases hv
theorem body_le {F : FuncId → Option CFunc} {ih ih' : IH} (hl : Le ih ih') : Le (body F ih) (body F ih') := by
  intro t o h
  cases t with
  | code c s g => exact codeStep_le hl (show codeStep c ih s g = some o from h)
  | call f a g => exact callStep_le hl (show callStep F ih a g f = some o from h)
theorem E_code (F : FuncId → Option CFunc) (n : Nat) (c : CC) (s : Slots) (h : H) : E F (n + 1) (.code c s h) = codeStep c (E F n) s h := rfl
theorem E_call (F : FuncId → Option CFunc) (n : Nat) (f : Value) (a : List Value) (h : H) : E F (n + 1) (.call f a h) = callStep F (E F n) a h f := rfl
theorem E_le1 {F : FuncId → Option CFunc} : ∀ (n : Nat), Le (E F n) (E F (n + 1))
  | 0 => fun t o h => by cases h
  | n + 1 => body_le (E_le1 n)
theorem E_le {F : FuncId → Option CFunc} {n m : Nat} (h : n ≤ m) : Le (E F n) (E F m) := by
  induction m with
  | zero => have : n = 0 := by omega
            subst this; exact fun _ _ h => h
  | succ m ih =>
    by_cases e : n = m + 1
    · subst e; exact fun _ _ h => h
    · exact fun t o ht => E_le1 m t o (ih (by omega) t o ht)
theorem E_det {F : FuncId → Option CFunc} {n m : Nat} {t : Task} {o o' : Out} (h : E F n t = some o) (h' : E F m t = some o') : o = o' := by
  have h1 := E_le (Nat.le_max_left n m) t o h
  have h2 := E_le (Nat.le_max_right n m) t o' h'
  rw [h1] at h2; exact Option.some.inj h2

/-! ### The second evaluator -/
structure K where
  nrm : Slots → H → Option Out
  ext : Nat → Slots → H → Option Out
  ret : Slots → H → Option Out

def apK (k : K) : Out → Option Out
  | .nrm s h => k.nrm s h
  | .exit i s h => k.ext i s h
  | .ret s h => k.ret s h
  | .val _ _ => none

def k2 (r : R) (k : Value → H → Option Out) : Option Out := r.bind fun x => k x.1 x.2

structure Rn where
  call : Value → List Value → H → R
  loop : List (List Bool) → CC → K → ((List Value → H → Option Out) → List Value → H → Option Out) → List Value → H → Option Out

abbrev uc (vs : List Value) (k : Value → List Value → Option Out) : Option Out := List.rec (motive := fun _ => Option Out) none (fun v r _ => k v r) vs
abbrev un (vs : List Value) (k : Option Out) : Option Out := List.rec (motive := fun _ => Option Out) k (fun _ _ _ => none) vs
def br (v : Value) (a b : Option Out) : Option Out := match v with
  | .bool true => a
  | .bool false => b
  | _ => none

abbrev getL (L : List (List Bool)) (s : Slots) : (List Value → Option Out) → Option Out :=
  List.rec (motive := fun _ => (List Value → Option Out) → Option Out) (fun k => k []) (fun p _ ih k => (s.get p).bind fun v => ih fun vs => k (v :: vs)) L
abbrev withL (L : List (List Bool)) : List Value → (Slots → Option Out) → Option Out :=
  List.rec (motive := fun _ => List Value → (Slots → Option Out) → Option Out) (fun vs k => un vs (k .nil)) (fun p _ ih vs k => uc vs fun v vs => ih vs fun s => k (s.set p v)) L
def setL (L : List (List Bool)) : List Value → Slots :=
  List.rec (motive := fun _ => List Value → Slots) (fun _ => .nil) (fun p _ ih vs => match vs with | v :: vs => (ih vs).set p v | [] => .nil) L
abbrev rdL (L : List (List Bool)) (s : Slots) : (Slots → Option Out) → Option Out :=
  List.rec (motive := fun _ => (Slots → Option Out) → Option Out) (fun k => k .nil) (fun p _ ih k => (s.get p).bind fun v => ih fun s' => k (s'.set p v)) L
abbrev setSlotsK (ps : List (List Bool)) : List Value → Slots → (Slots → Option Out) → Option Out :=
  List.rec (motive := fun _ => List Value → Slots → (Slots → Option Out) → Option Out) (fun vs s k => un vs (k s)) (fun p _ ih vs s k => uc vs fun v vs => ih vs (s.set p v) k) ps
abbrev withA (n : Nat) : Nat → List Value → Slots → (Slots → Option Out) → Option Out :=
  Nat.rec (motive := fun _ => Nat → List Value → Slots → (Slots → Option Out) → Option Out) (fun _ vs s k => un vs (k s)) (fun _ ih i vs s k => uc vs fun v vs => ih (i + 1) vs (s.set (bits i) v) k) n

def shDo (X : Rn) (op : COp) (s : Slots) (h : H) : R := match op with
  | .call f args => (f.ev s).bind fun f => (evL s args).bind fun l => X.call f l h
  | op => opV op s h
def shStep (X : Rn) (o : CI) (s : Slots) (h : H) : R := (wantedC o.guard s).bind fun b => match b with
  | true => shDo X o.op s h
  | false => some (undefV, h)
def shOps (X : Rn) (l : List CI) : Slots → H → (Slots → H → Option Out) → Option Out :=
  List.rec (motive := fun _ => Slots → H → (Slots → H → Option Out) → Option Out) (fun s h k => k s h) (fun o _ ih s h k => k2 (shStep X o s h) fun v h => ih (putDst o.dst v s) h k) l

def readsF (rd : H → R) (lo : Nat) (v : Value) : List (Nat × H) → Bool
  | [] => true
  | x :: r => if Nat.blt x.1 lo then readsF rd lo v r else match rd x.2 with
    | some y => eqVal v y.1 && readsF rd lo v r
    | none => false
def rdF (rd : H → R) (lo : Nat) (h : H) : List (Nat × H) → R
  | [] => none
  | x :: r => (rd x.2).bind fun y => if readsF rd lo y.1 r then some (y.1, h) else none
def rdStep (o : CI) (bs : List (Nat × H)) (s : Slots) (h : H) : R := (wantedC o.guard s).bind fun b => match b with
  | true => rdF (opV o.op s) o.lo h bs
  | false => some (undefV, h)
def shDraw (X : Rn) (l : List CI) : List (Nat × H) → Slots → H → (Slots → H → Option Out) → Option Out :=
  List.rec (motive := fun _ => List (Nat × H) → Slots → H → (Slots → H → Option Out) → Option Out) (fun _ s h k => k s h)
    (fun o _ ih bs s h k => match isW o.op with
      | true => k2 (shStep X o s h) fun v h => ih ((nextB bs, h) :: bs) (putDst o.dst v s) h k
      | false => match isRd o.op with
        | true => k2 (rdStep o bs s h) fun v h => ih bs (putDst o.dst v s) h k
        | false => k2 (shStep X o s h) fun v h => ih bs (putDst o.dst v s) h k) l

def pendK2 (k : K) (s : Slots) (h : H) : Option CC → Option Out
  | none => k.nrm s h
  | some .ret => k.ret s h
  | some (.exit i) => k.ext i s h
  | _ => none
def rgEnd (k : K) (s : Slots) (l : Nat) (h : H) : Option Out := (h.get l).bind fun o => match o with
  | .loop .ready pend sl rc => pendK2 k s (h.put l (.loop .exhausted pend sl rc)) pend
  | .loop .done pend sl rc => pendK2 k s (h.put l (.loop .exhausted pend sl rc)) pend
  | _ => none

def st2 (g : Option H) (k : H → Option Out) : Option Out := g.bind k
def blkX (i : Nat) (k : K) (j : Nat) (s : Slots) (h : H) : Option Out := match Nat.beq j i with
  | true => k.nrm s h
  | false => k.ext j s h

def sh (X : Rn) (c : CC) : K → Slots → H → Option Out :=
  CC.rec (motive := fun _ => K → Slots → H → Option Out)
    (fun k s h => k.nrm s h)
    (fun l k s h => shOps X l s h k.nrm)
    (fun l k s h => shDraw X l [(0, h)] s h k.nrm)
    (fun l x y k s h => shDraw X l [(0, h)] s h fun s h => st2 (store2Of x.op y.op s h) fun h => k.nrm s h)
    (fun _ L _ iha ihb k s h => iha ⟨fun s h => ihb k (keepS L s) h, k.ext, k.ret⟩ s h)
    (fun c _ _ iha ihb k s h => (c.ev s).bind fun v => br v (iha k s h) (ihb k s h))
    (fun i _ ih k s h => ih ⟨k.nrm, blkX i k, k.ret⟩ s h)
    (fun L b ih k s h => getL L s fun vs => X.loop L b k (fun self vs h => withL L vs fun s => ih ⟨fun s h => getL L s fun vs => self vs h, k.ext, k.ret⟩ s h) vs h)
    (fun rid L f ps as b _ _ k s h => (f.ev s).bind fun f => (isFn f).bind fun f => k2 (X.call f [.func (.yield h.next) #[] #[]] (h.new (.loop .ready none (keepS L s) ⟨rid, L, ps, as, b⟩))) fun _ h' => rgEnd k s h.next h')
    (fun i k s h => k.ext i s h)
    (fun k s h => k.ret s h) c

def resK (rs : List CR) (s : Slots) (h : H) : (List Value → Option Out) → Option Out :=
  List.rec (motive := fun _ => (List Value → Option Out) → Option Out) (fun k => k []) (fun r _ ih k => (resV s h r).bind fun v => ih fun vs => k (v :: vs)) rs
def fnK (rs : List CR) : K := ⟨fun s h => resK rs s h fun vs => some (.val (tupleOf vs) h), fun _ _ _ => none, fun s h => resK rs s h fun vs => some (.val (tupleOf vs) h)⟩
def shFunc (X : Rn) (n : Nat) (cf : CFunc) (args : List Value) (h : H) : Option Out := match cf.prim with
  | none => withA n 0 args .nil fun s => sh X cf.body (fnK cf.results) s h
  | some _ => none

def finK (l : Nat) : K := ⟨fun _ h => (h.get l).bind (finObj l none h), fun i _ h => (h.get l).bind (finObj l (some (.exit i)) h), fun _ h => (h.get l).bind (finObj l (some .ret) h)⟩
def busyK (l : Nat) (h : H) (k : H → Option Out) : Option Out := (h.get l).bind fun o => match o with
  | .loop .ready pend sl rc => k (h.put l (.loop .busy pend sl rc))
  | _ => none
def asK (X : Rn) (l : Nat) (b : CC) : K := ⟨fun s h => busyK l h fun h => sh X b (finK l) s h, fun _ _ _ => none, fun _ _ => none⟩
def shRound (X : Rn) (rc : RC) (l : Nat) (args : List Value) (sl : Slots) (h : H) : Option Out :=
  rdL rc.L sl fun s => setSlotsK rc.ps args s fun s => sh X rc.as (asK X l rc.b) s h

/-! ### What it finds the first one finds -/
def heapO : Out → H
  | .nrm _ h => h
  | .exit _ _ h => h
  | .ret _ h => h
  | .val _ h => h

/-- what the heaps keep. -/
structure Keeps (I : H → Prop) (ok : RC → Prop) : Prop where
  op : ∀ op s h v h', opV op s h = some (v, h') → I h → I h'
  new : ∀ h s rc, I h → ok rc → I (h.new (.loop .ready none s rc))
  put : ∀ h l st p s rc st' p', I h → h.get l = some (.loop st p s rc) → I (h.put l (.loop st' p' s rc))

def okC (ok : RC → Prop) : CC → Prop
  | .seq a _ b => okC ok a ∧ okC ok b
  | .cond _ a b => okC ok a ∧ okC ok b
  | .block _ b => okC ok b
  | .loop _ b => okC ok b
  | .rangeFunc rid L _ ps as b => ok ⟨rid, L, ps, as, b⟩
  | _ => True

def iter (body : (List Value → H → Option Out) → List Value → H → Option Out) (m : Nat) : List Value → H → Option Out := Nat.rec (motive := fun _ => List Value → H → Option Out) (fun _ _ => none) (fun _ self => body self) m

structure SoundR (F : FuncId → Option CFunc) (I : H → Prop) (X : Rn) : Prop where
  call : ∀ f args h v h', X.call f args h = some (v, h') → I h → ∃ n, E F n (.call f args h) = some (.val v h') ∧ I h'
  loop : ∀ L b k body vs h r, X.loop L b k body vs h = some r → I h → (∃ m, iter body m vs h = some r) ∨ (∃ n o, E F n (.code (.loop L b) (setL L vs) h) = some o ∧ I (heapO o) ∧ apK k o = some r)

section
variable {F : FuncId → Option CFunc} {I : H → Prop} {ok : RC → Prop} {X : Rn}

theorem k2_some {r : R} {k : Value → H → Option Out} {o : Out} (h : k2 r k = some o) : ∃ v h', r = some (v, h') ∧ k v h' = some o := by
  obtain ⟨⟨v, h'⟩, h1, h2⟩ := aof h; exact ⟨v, h', h1, h2⟩
theorem uc_some {vs : List Value} {k : Value → List Value → Option Out} {o : Out} (h : uc vs k = some o) : ∃ v r, vs = v :: r ∧ k v r = some o := by
  cases vs with
  | nil => cases h
  | cons v r => exact ⟨v, r, rfl, h⟩
theorem un_some {vs : List Value} {k : Option Out} {o : Out} (h : un vs k = some o) : vs = [] ∧ k = some o := by
  cases vs with
  | nil => exact ⟨rfl, h⟩
  | cons v r => cases h
theorem br_some {v : Value} {a b : Option Out} {o : Out} (h : br v a b = some o) : (v = .bool true ∧ a = some o) ∨ (v = .bool false ∧ b = some o) := by
  unfold br at h
  split at h
  · exact .inl ⟨rfl, h⟩
  · exact .inr ⟨rfl, h⟩
  · cases h

theorem getL_some : ∀ {L : List (List Bool)} {s : Slots} {k : List Value → Option Out} {o : Out}, getL L s k = some o → ∃ vs, keepS L s = setL L vs ∧ k vs = some o
  | [], s, k, o, h => ⟨[], rfl, h⟩
  | p :: L, s, k, o, h => by
    obtain ⟨v, hv, h⟩ := aof (show (s.get p).bind (fun v => getL L s fun vs => k (v :: vs)) = some o from h)
    obtain ⟨vs, h1, h2⟩ := getL_some h
    exact ⟨v :: vs, by rw [keepS_cons, hv]; show (keepS L s).set p v = (setL L vs).set p v; rw [h1], h2⟩
theorem withL_some {L : List (List Bool)} : ∀ {vs : List Value} {k : Slots → Option Out} {o : Out}, withL L vs k = some o → k (setL L vs) = some o := by
  induction L with
  | nil => intro vs k o h; exact (un_some h).2
  | cons p L ih =>
    intro vs k o h
    obtain ⟨v, r, rfl, h⟩ := uc_some (show uc vs (fun v vs => withL L vs fun s => k (s.set p v)) = some o from h)
    exact ih h
theorem rdL_some : ∀ {L : List (List Bool)} {s : Slots} {k : Slots → Option Out} {o : Out}, rdL L s k = some o → k (keepS L s) = some o
  | [], s, k, o, h => h
  | p :: L, s, k, o, h => by
    obtain ⟨v, hv, h⟩ := aof (show (s.get p).bind (fun v => rdL L s fun s' => k (s'.set p v)) = some o from h)
    have := rdL_some h
    rw [keepS_cons, hv]; exact this
theorem setSlotsK_some {ps : List (List Bool)} : ∀ {vs : List Value} {s : Slots} {k : Slots → Option Out} {o : Out}, setSlotsK ps vs s k = some o → ∃ s', setSlots ps vs s = some s' ∧ k s' = some o := by
  induction ps with
  | nil =>
    intro vs s k o h
    obtain ⟨rfl, h⟩ := un_some h
    exact ⟨s, rfl, h⟩
  | cons p ps ih =>
    intro vs s k o h
    obtain ⟨v, r, rfl, h⟩ := uc_some (show uc vs (fun v vs => setSlotsK ps vs (s.set p v) k) = some o from h)
    obtain ⟨s', h1, h2⟩ := ih h
    exact ⟨s', by rw [setSlots_cons]; exact h1, h2⟩
theorem withA_some {n : Nat} : ∀ {i : Nat} {vs : List Value} {s : Slots} {k : Slots → Option Out} {o : Out}, withA n i vs s k = some o → vs.length = n ∧ k (argSlots vs i s) = some o := by
  induction n with
  | zero =>
    intro i vs s k o h
    obtain ⟨rfl, h⟩ := un_some h
    exact ⟨rfl, h⟩
  | succ n ih =>
    intro i vs s k o h
    obtain ⟨v, r, rfl, h⟩ := uc_some (show uc vs (fun v vs => withA n (i + 1) vs (s.set (bits i) v) k) = some o from h)
    obtain ⟨h1, h2⟩ := ih h
    exact ⟨by simp [h1], h2⟩
theorem resK_some : ∀ {rs : List CR} {s : Slots} {h : H} {k : List Value → Option Out} {o : Out}, resK rs s h k = some o → ∃ vs, allO (resV s h) rs = some vs ∧ k vs = some o
  | [], s, h, k, o, hk => ⟨[], rfl, hk⟩
  | r :: rs, s, h, k, o, hk => by
    obtain ⟨v, hv, hk⟩ := aof (show (resV s h r).bind (fun v => resK rs s h fun vs => k (v :: vs)) = some o from hk)
    obtain ⟨vs, h1, h2⟩ := resK_some hk
    exact ⟨v :: vs, by simp [allO, hv, h1], h2⟩

theorem fuel2 {n m : Nat} : n ≤ n + m ∧ m ≤ n + m := ⟨by omega, by omega⟩

theorem shDo_some (S : SoundR F I X) (hI : Keeps I ok) {op : COp} {s : Slots} {h : H} {v : Value} {h' : H} (hv : shDo X op s h = some (v, h')) (hi : I h) : ∃ n, doOp (E F n) op s h = some (v, h') ∧ I h' := by
  by_cases hc : ∃ f as, op = .call f as
  · obtain ⟨f, as, rfl⟩ := hc
    obtain ⟨u, hu, hv⟩ := aof hv
    obtain ⟨l, hl, hv⟩ := aof hv
    obtain ⟨n, h1, h2⟩ := S.call _ _ _ _ _ hv hi
    refine ⟨n, ?_, h2⟩
    show callOp _ _ _ _ _ = _
    unfold callOp
    simp only [hu, hl, Option.bind_some, h1]; rfl
  · have e1 : shDo X op s h = opV op s h := by cases op <;> first | rfl | exact absurd ⟨_, _, rfl⟩ hc
    have e2 : ∀ ih : IH, doOp ih op s h = opV op s h := by intro ih; cases op <;> first | rfl | exact absurd ⟨_, _, rfl⟩ hc
    rw [e1] at hv
    exact ⟨0, by rw [e2]; exact hv, hI.op _ _ _ _ _ hv hi⟩
theorem shStep_some (S : SoundR F I X) (hI : Keeps I ok) {o : CI} {s : Slots} {h : H} {v : Value} {h' : H} (hv : shStep X o s h = some (v, h')) (hi : I h) : ∃ n, stepOp (E F n) o s h = some (v, h') ∧ I h' := by
  obtain ⟨b, hb, hv⟩ := aof hv
  cases b with
  | true =>
    obtain ⟨n, h1, h2⟩ := shDo_some S hI hv hi
    exact ⟨n, by unfold stepOp; rw [hb]; exact h1, h2⟩
  | false => cases hv; exact ⟨0, by unfold stepOp; rw [hb]; rfl, hi⟩
theorem shOps_some (S : SoundR F I X) (hI : Keeps I ok) : ∀ {l : List CI} {s : Slots} {h : H} {k : Slots → H → Option Out} {o : Out}, shOps X l s h k = some o → I h → ∃ n s' h', runOps (E F n) l s h = some (s', h') ∧ I h' ∧ k s' h' = some o
  | [], s, h, k, o, hv, hi => ⟨0, s, h, rfl, hi, hv⟩
  | c :: l, s, h, k, o, hv, hi => by
    obtain ⟨v, h1, hs, hv⟩ := k2_some (show k2 (shStep X c s h) (fun v h => shOps X l (putDst c.dst v s) h k) = some o from hv)
    obtain ⟨n, hs1, hi1⟩ := shStep_some S hI hs hi
    obtain ⟨m, s', h', h2, h3, h4⟩ := shOps_some S hI hv hi1
    refine ⟨n + m, s', h', ?_, h3, h4⟩
    rw [runOps_cons, stepOp_le (E_le fuel2.1) hs1]
    exact runOps_le (E_le fuel2.2) h2

theorem readsF_eq (op : COp) (s : Slots) (lo : Nat) (v : Value) : ∀ (bs : List (Nat × H)), readsF (opV op s) lo v bs = readsAs op s lo v bs
  | [] => rfl
  | x :: bs => by
    unfold readsF readsAs
    rw [readsF_eq op s lo v bs]
    cases opV op s x.2 <;> rfl

theorem shDraw_some (S : SoundR F I X) (hI : Keeps I ok) : ∀ {l : List CI} {bs : List (Nat × H)} {s : Slots} {h : H} {k : Slots → H → Option Out} {o : Out}, shDraw X l bs s h k = some o → I h → ∃ n s' h', drawOps (E F n) l bs s h = some (s', h') ∧ I h' ∧ k s' h' = some o
  | [], bs, s, h, k, o, hv, hi => ⟨0, s, h, rfl, hi, hv⟩
  | c :: l, bs, s, h, k, o, hv, hi => by
    have hv : (match isW c.op with
      | true => k2 (shStep X c s h) fun v h => shDraw X l ((nextB bs, h) :: bs) (putDst c.dst v s) h k
      | false => match isRd c.op with
        | true => k2 (rdStep c bs s h) fun v h => shDraw X l bs (putDst c.dst v s) h k
        | false => k2 (shStep X c s h) fun v h => shDraw X l bs (putDst c.dst v s) h k) = some o := hv
    have main : ∃ n v h1 bs1, drawStep (E F n) c bs s h = some (v, h1, bs1) ∧ I h1 ∧ shDraw X l bs1 (putDst c.dst v s) h1 k = some o := by
      cases hw : isW c.op with
      | true =>
        rw [hw] at hv
        obtain ⟨v, h1, hs, hv⟩ := k2_some hv
        obtain ⟨n, hs1, hi1⟩ := shStep_some S hI hs hi
        refine ⟨n, v, h1, _, ?_, hi1, hv⟩
        obtain ⟨b, hb, hs1⟩ := aof hs1
        unfold drawStep
        rw [hb, Option.bind_some]
        cases b with
        | true => simp only [drawDo, hw, if_true]; rw [show doOp (E F n) c.op s h = some (v, h1) from hs1]; rfl
        | false => cases hs1; simp [hw]
      | false =>
        rw [hw] at hv
        cases hr : isRd c.op with
        | true =>
          rw [hr] at hv
          obtain ⟨v, h1, hs, hv⟩ := k2_some hv
          obtain ⟨b, hb, hs⟩ := aof hs
          cases b with
          | true =>
            cases bs with
            | nil => cases hs
            | cons x bs =>
              obtain ⟨y, hy, hs⟩ := aof (show (opV c.op s x.2).bind (fun y => if readsF (opV c.op s) c.lo y.1 bs then some (y.1, h) else none) = some (v, h1) from hs)
              split at hs
              · rename_i hreads
                cases hs
                refine ⟨0, y.1, h, x :: bs, ?_, hi, hv⟩
                unfold drawStep
                rw [hb, Option.bind_some]
                rw [readsF_eq] at hreads
                simp only [drawDo, hw, hr, if_true, Bool.false_eq_true, if_false, drawRd, hy, Option.bind_some]
                rw [if_pos hreads]
              · cases hs
          | false =>
            cases hs
            refine ⟨0, undefV, h, bs, ?_, hi, hv⟩
            unfold drawStep
            rw [hb, Option.bind_some]; simp [hw]
        | false =>
          rw [hr] at hv
          obtain ⟨v, h1, hs, hv⟩ := k2_some hv
          obtain ⟨n, hs1, hi1⟩ := shStep_some S hI hs hi
          refine ⟨n, v, h1, bs, ?_, hi1, hv⟩
          obtain ⟨b, hb, hs1⟩ := aof hs1
          unfold drawStep
          rw [hb, Option.bind_some]
          cases b with
          | true =>
            rw [opV_of_notCall hw] at hs1
            simp only [drawDo, hw, hr, Bool.false_eq_true, if_false, hs1]; rfl
          | false => cases hs1; simp [hw]
    obtain ⟨n, v, h1, bs1, q1, q2, q3⟩ := main
    obtain ⟨m, s', h', h2, h3, h4⟩ := shDraw_some S hI q3 q2
    refine ⟨n + m, s', h', ?_, h3, h4⟩
    rw [drawOps_cons, drawStep_le (E_le fuel2.1) q1]
    exact drawOps_le (E_le fuel2.2) h2

theorem pendK_of {k : K} {s : Slots} {h : H} {p : Option CC} {o : Out} (hv : pendK2 k s h p = some o) : ∃ o1, pendK s h p = some o1 ∧ apK k o1 = some o ∧ heapO o1 = h := by
  unfold pendK2 at hv
  split at hv
  · exact ⟨.nrm s h, rfl, hv, rfl⟩
  · exact ⟨.ret s h, rfl, hv, rfl⟩
  · exact ⟨.exit _ s h, rfl, hv, rfl⟩
  · cases hv

theorem sh_some (S : SoundR F I X) (hI : Keeps I ok) : ∀ (c : CC) {k : K} {s : Slots} {h : H} {r : Out}, sh X c k s h = some r → okC ok c → I h → ∃ n o, E F n (.code c s h) = some o ∧ I (heapO o) ∧ apK k o = some r
  | .skip, k, s, h, r, hv, hc, hi => ⟨1, .nrm s h, rfl, hi, hv⟩
  | .exit i, k, s, h, r, hv, hc, hi => ⟨1, .exit i s h, rfl, hi, hv⟩
  | .ret, k, s, h, r, hv, hc, hi => ⟨1, .ret s h, rfl, hi, hv⟩
  | .ops l, k, s, h, r, hv, hc, hi => by
    obtain ⟨n, s', h', h1, h2, h3⟩ := shOps_some S hI (show shOps X l s h k.nrm = some r from hv) hi
    exact ⟨n + 1, .nrm s' h', by show (runOps (E F n) l s h).map nrmOf = _; rw [h1]; rfl, h2, h3⟩
  | .draw l, k, s, h, r, hv, hc, hi => by
    obtain ⟨n, s', h', h1, h2, h3⟩ := shDraw_some S hI (show shDraw X l [(0, h)] s h k.nrm = some r from hv) hi
    exact ⟨n + 1, .nrm s' h', by show (drawOps (E F n) l [(0, h)] s h).map nrmOf = _; rw [h1]; rfl, h2, h3⟩
  | .draw2 l x y, k, s, h, r, hv, hc, hi => by
    obtain ⟨n, s', h', h1, h2, h3⟩ := shDraw_some S hI (show shDraw X l [(0, h)] s h (fun s h => st2 (store2Of x.op y.op s h) fun h => k.nrm s h) = some r from hv) hi
    obtain ⟨g, hg, h3⟩ := aof h3
    obtain ⟨g1, g1', s1, s2, -⟩ := store2_spec hg
    exact ⟨n + 1, .nrm s' g, by show (drawOps (E F n) l [(0, h)] s h).bind _ = _; rw [h1, Option.bind_some]; show (store2Of x.op y.op s' h').map _ = _; rw [hg]; rfl, hI.op _ _ _ _ _ s2 (hI.op _ _ _ _ _ s1 h2), h3⟩
  | .seq a L b, k, s, h, r, hv, hc, hi => by
    obtain ⟨n, o, h1, h2, h3⟩ := sh_some S hI a (show sh X a ⟨fun s h => sh X b k (keepS L s) h, k.ext, k.ret⟩ s h = some r from hv) hc.1 hi
    cases o with
    | nrm s' h' =>
      obtain ⟨m, o', h4, h5, h6⟩ := sh_some S hI b (show sh X b k (keepS L s') h' = some r from h3) hc.2 h2
      refine ⟨n + m + 1, o', ?_, h5, h6⟩
      show (E F (n + m) _).bind _ = _
      rw [E_le fuel2.1 _ _ h1]
      exact E_le fuel2.2 _ _ h4
    | exit i s' h' => exact ⟨n + 1, _, by show (E F n _).bind _ = _; rw [h1]; rfl, h2, h3⟩
    | ret s' h' => exact ⟨n + 1, _, by show (E F n _).bind _ = _; rw [h1]; rfl, h2, h3⟩
    | val _ _ => cases h3
  | .cond x a b, k, s, h, r, hv, hc, hi => by
    obtain ⟨v, hx, hv⟩ := aof (show (x.ev s).bind (fun v => br v (sh X a k s h) (sh X b k s h)) = some r from hv)
    rcases br_some hv with ⟨rfl, hv⟩ | ⟨rfl, hv⟩
    · obtain ⟨n, o, h1, h2, h3⟩ := sh_some S hI a hv hc.1 hi
      exact ⟨n + 1, o, by show (x.ev s).bind _ = _; rw [hx]; exact h1, h2, h3⟩
    · obtain ⟨n, o, h1, h2, h3⟩ := sh_some S hI b hv hc.2 hi
      exact ⟨n + 1, o, by show (x.ev s).bind _ = _; rw [hx]; exact h1, h2, h3⟩
  | .block i b, k, s, h, r, hv, hc, hi => by
    obtain ⟨n, o, h1, h2, h3⟩ := sh_some S hI b (show sh X b ⟨k.nrm, blkX i k, k.ret⟩ s h = some r from hv) hc hi
    refine ⟨n + 1, blockK i o, by show (E F n _).map _ = _; rw [h1]; rfl, ?_⟩
    cases o with
    | nrm s' h' => exact ⟨h2, h3⟩
    | ret s' h' => exact ⟨h2, h3⟩
    | val _ _ => cases h3
    | exit j s' h' =>
      have h3 : blkX i k j s' h' = some r := h3
      unfold blkX at h3
      cases hb : Nat.beq j i with
      | true => rw [hb] at h3; simp only [blockK, hb]; exact ⟨h2, h3⟩
      | false => rw [hb] at h3; simp only [blockK, hb]; exact ⟨h2, h3⟩
  | .loop L b, k, s, h, r, hv, hc, hi => by
    obtain ⟨vs, hk, hv⟩ := getL_some (show getL L s (fun vs => X.loop L b k (fun self vs h => withL L vs fun s => sh X b ⟨fun s h => getL L s fun vs => self vs h, k.ext, k.ret⟩ s h) vs h) = some r from hv)
    have same : ∀ {n : Nat} {s' : Slots} {h : H} {o : Out}, keepS L s' = keepS L s → E F n (.code (.loop L b) s' h) = some o → E F n (.code (.loop L b) s h) = some o := by
      intro n s' h o he ho
      cases n with
      | zero => cases ho
      | succ n =>
        have ho : (E F n (.code b (keepS L s') h)).bind (loopK (E F n) L b) = some o := ho
        show (E F n (.code b (keepS L s) h)).bind (loopK (E F n) L b) = some o
        rw [← he]; exact ho
    have turn : ∀ (m : Nat) (vs : List Value) (s : Slots) (h : H), keepS L s = setL L vs → iter (fun self vs h => withL L vs fun s => sh X b ⟨fun s h => getL L s fun vs => self vs h, k.ext, k.ret⟩ s h) m vs h = some r → I h →
        ∃ n o, E F n (.code (.loop L b) s h) = some o ∧ I (heapO o) ∧ apK k o = some r := by
      intro m
      induction m with
      | zero => intro vs s h _ hm _; cases hm
      | succ m ihm =>
        intro vs s h hks hm hi
        have hm := withL_some (show withL L vs (fun s => sh X b ⟨fun s h => getL L s fun vs => iter (fun self vs h => withL L vs fun s => sh X b ⟨fun s h => getL L s fun vs => self vs h, k.ext, k.ret⟩ s h) m vs h, k.ext, k.ret⟩ s h) = some r from hm)
        obtain ⟨n, o, h1, h2, h3⟩ := sh_some S hI b hm hc hi
        rw [← hks] at h1
        cases o with
        | nrm s' h' =>
          obtain ⟨vs', hk', hv'⟩ := getL_some (show getL L s' _ = some r from h3)
          obtain ⟨n', o', h4, h5, h6⟩ := ihm vs' s' h' hk' hv' h2
          refine ⟨n + n' + 1, o', ?_, h5, h6⟩
          show (E F (n + n') _).bind _ = _
          rw [E_le fuel2.1 _ _ h1]
          exact E_le fuel2.2 _ _ h4
        | exit i s' h' => exact ⟨n + 1, _, by show (E F n _).bind _ = _; rw [h1]; rfl, h2, h3⟩
        | ret s' h' => exact ⟨n + 1, _, by show (E F n _).bind _ = _; rw [h1]; rfl, h2, h3⟩
        | val _ _ => cases h3
    have keepSet : keepS L (setL L vs) = keepS L s ∨ True := .inr trivial
    rcases S.loop _ _ _ _ _ _ _ hv hi with ⟨m, hm⟩ | ⟨n, o, h1, h2, h3⟩
    · exact turn m vs s h hk hm hi
    · rw [← hk] at h1
      refine ⟨n, o, same ?_ h1, h2, h3⟩
      -- what was kept is kept
      have gen : ∀ (L' : List (List Bool)), (∀ p ∈ L', p ∈ L) → keepS L' (keepS L s) = keepS L' s := by
        intro L'
        induction L' with
        | nil => intro _; rfl
        | cons p L' ihL =>
          intro hp
          rw [keepS_cons, keepS_cons, keepS_get, if_pos (hp p (by simp)), ihL (fun q hq => hp q (by simp [hq]))]
      exact gen L (fun _ h => h)
  | .rangeFunc rid L f ps as b, k, s, h, r, hv, hc, hi => by
    obtain ⟨u, hu, hv⟩ := aof (show (f.ev s).bind (fun f => (isFn f).bind fun f => k2 (X.call f [.func (.yield h.next) #[] #[]] (h.new (.loop .ready none (keepS L s) ⟨rid, L, ps, as, b⟩))) fun _ h' => rgEnd k s h.next h') = some r from hv)
    obtain ⟨g, hg, hv⟩ := aof hv
    obtain ⟨v1, h1, hcall, hv⟩ := k2_some hv
    obtain ⟨n, hn, hi1⟩ := S.call _ _ _ _ _ hcall (hI.new _ _ _ hi hc)
    obtain ⟨o, ho, hv⟩ := aof hv
    have fin : ∀ {st : LoopState} {pend : Option CC} {sl : Slots} {rc : RC}, h1.get h.next = some (.loop st pend sl rc) → rangeEnd h.next s h1 (.loop st pend sl rc) = pendK s (h1.put h.next (.loop .exhausted pend sl rc)) pend →
        pendK2 k s (h1.put h.next (.loop .exhausted pend sl rc)) pend = some r → ∃ n o, E F n (.code (.rangeFunc rid L f ps as b) s h) = some o ∧ I (heapO o) ∧ apK k o = some r := by
      intro st pend sl rc hget hre hp
      obtain ⟨o1, p1, p2, p3⟩ := pendK_of hp
      refine ⟨n + 1, o1, ?_, by rw [p3]; exact hI.put _ _ _ _ _ _ _ _ hi1 hget, p2⟩
      rw [E_code]
      show sRange rid L f ps as b (E F n) s h = _
      unfold sRange
      rw [hu, Option.bind_some, hg, Option.bind_some, hn, Option.bind_some]
      show (h1.get h.next).bind _ = _
      rw [hget, Option.bind_some]
      show rangeEnd h.next s h1 _ = _
      rw [hre, p1]
    cases o with
    | loop st pend sl rc =>
      cases st with
      | ready => exact fin ho rfl hv
      | done => exact fin ho rfl hv
      | busy => cases hv
      | exhausted => cases hv
    | cells _ _ => cases hv
    | map _ _ => cases hv
    | dead => cases hv

theorem shFunc_some (S : SoundR F I X) (hI : Keeps I ok) {g : FuncId} {cf : CFunc} (hF : F g = some cf) {n : Nat} (hn : n ≤ cf.ntmps) (hc : okC ok cf.body) {first captured : Array Value} {args : List Value} {h : H} {v : Value} {h' : H}
    (hv : shFunc X n cf (first.toList ++ args ++ captured.toList) h = some (.val v h')) (hi : I h) : ∃ m, E F m (.call (.func (.func g) first captured) args h) = some (.val v h') ∧ I h' := by
  have hprim : cf.prim = none := by
    cases hp : cf.prim with
    | none => rfl
    | some p => unfold shFunc at hv; rw [hp] at hv; cases hv
  unfold shFunc at hv
  rw [hprim] at hv
  obtain ⟨hlen, hv⟩ := withA_some hv
  obtain ⟨m, o, h1, h2, h3⟩ := sh_some S hI _ hv hc hi
  have fin : ∀ {s : Slots} {h1 : H}, resK cf.results s h1 (fun vs => some (.val (tupleOf vs) h1)) = some (.val v h') → resOf cf.results s h1 = some (.val v h') ∧ h1 = h' := by
    intro s h1 hr
    obtain ⟨vs, q1, q2⟩ := resK_some hr
    have q3 := Option.some.inj q2
    simp only [Out.val.injEq] at q3
    exact ⟨by unfold resOf; rw [q1, Option.map_some, q3.1, q3.2], q3.2⟩
  refine ⟨m + 1, ?_⟩
  have key : ∀ {o : Out}, E F m (.code cf.body (argSlots (first.toList ++ args ++ captured.toList) 0 .nil) h) = some o → retK cf.results o = some (.val v h') → E F (m + 1) (.call (.func (.func g) first captured) args h) = some (.val v h') := by
    intro o q1 q2
    rw [E_call]
    unfold callStep
    simp only [hF, Option.bind_some]
    unfold runFunc
    rw [hprim]
    dsimp only
    rw [if_pos (by rw [Nat.ble_eq]; omega), q1]; exact q2
  cases o with
  | nrm s g1 => obtain ⟨q1, rfl⟩ := fin h3; exact ⟨key h1 q1, h2⟩
  | ret s g1 => obtain ⟨q1, rfl⟩ := fin h3; exact ⟨key h1 q1, h2⟩
  | exit _ _ _ => cases h3
  | val _ _ => cases h3

theorem shRound_some (S : SoundR F I X) (hI : Keeps I ok) {l : Nat} {st : LoopState} {pend : Option CC} {sl : Slots} {rc : RC} {h : H} (hg : h.get l = some (.loop st pend sl rc)) (hca : okC ok rc.as) (hcb : okC ok rc.b) {args : List Value} {v : Value} {h' : H}
    (hv : shRound X rc l args sl h = some (.val v h')) (hi : I h) : ∃ m, E F m (.call (.func (.yield l) #[] #[]) args h) = some (.val v h') ∧ I h' := by
  obtain ⟨s', hs', hv⟩ := setSlotsK_some (rdL_some hv)
  obtain ⟨m, o, h1, h2, h3⟩ := sh_some S hI rc.as hv hca hi
  cases o with
  | nrm s g1 =>
    obtain ⟨o1, ho1, h4⟩ := aof (show (g1.get l).bind _ = some (Out.val v h') from h3)
    cases o1 with
    | loop st1 pend1 sl1 rc1 =>
      cases st1 with
      | ready =>
        obtain ⟨m', o2, h5, h6, h7⟩ := sh_some S hI rc.b (show sh X rc.b (finK l) s (g1.put l (.loop .busy pend1 sl1 rc1)) = some (.val v h') from h4) hcb (hI.put _ _ _ _ _ _ _ _ h2 ho1)
        have hfin : finRound l o2 = some (.val v h') := by
          cases o2 with
          | nrm _ _ => exact h7
          | exit _ _ _ => exact h7
          | ret _ _ => exact h7
          | val _ _ => cases h7
        refine ⟨m + m' + 1, ?_, ?_⟩
        · rw [E_call]
          show (h.get l).bind (runRound (E F (m + m')) l args h) = _
          rw [hg, Option.bind_some]
          show (setSlots rc.ps args (keepS rc.L sl)).bind (fun s => (E F (m + m') (.code rc.as s h)).bind (roundAssign (E F (m + m')) l rc.b)) = _
          rw [hs', Option.bind_some, E_le fuel2.1 _ _ h1, Option.bind_some]
          show (g1.get l).bind (roundBody (E F (m + m')) l rc.b s g1) = _
          rw [ho1, Option.bind_some]
          show (E F (m + m') (.code rc.b s (g1.put l (.loop .busy pend1 sl1 rc1)))).bind (finRound l) = _
          rw [E_le fuel2.2 _ _ h5]; exact hfin
        · have fo : ∀ {p : Option CC} {g : H}, I g → (g.get l).bind (finObj l p g) = some (.val v h') → I h' := by
            intro p g hig hf
            obtain ⟨o3, ho3, hf⟩ := aof hf
            cases o3 with
            | loop st3 pend3 sl3 rc3 => cases hf; exact hI.put _ _ _ _ _ _ _ _ hig ho3
            | cells _ _ => cases hf
            | map _ _ => cases hf
            | dead => cases hf
          cases o2 with
          | nrm _ g => exact fo h6 h7
          | exit _ _ g => exact fo h6 h7
          | ret _ g => exact fo h6 h7
          | val _ _ => cases h7
      | busy => cases h4
      | done => cases h4
      | exhausted => cases h4
    | cells _ _ => cases h4
    | map _ _ => cases h4
    | dead => cases h4
  | exit _ _ _ => cases h3
  | ret _ _ => cases h3
  | val _ _ => cases h3

/-! ### Without fuel: for proofs -/
open Classical in
def callI (F : FuncId → Option CFunc) (f : Value) (args : List Value) (h : H) : R :=
  if hx : ∃ (x : Value × H) (n : Nat), E F n (.call f args h) = some (.val x.1 x.2) then some (Classical.choose hx) else none
open Classical in
def loopI (F : FuncId → Option CFunc) (L : List (List Bool)) (b : CC) (k : K) (_ : (List Value → H → Option Out) → List Value → H → Option Out) (vs : List Value) (h : H) : Option Out :=
  if hx : ∃ (r : Out) (n : Nat) (o : Out), E F n (.code (.loop L b) (setL L vs) h) = some o ∧ apK k o = some r then some (Classical.choose hx) else none
def rI (F : FuncId → Option CFunc) : Rn := ⟨callI F, loopI F⟩

theorem callI_iff {f : Value} {args : List Value} {h : H} {v : Value} {h' : H} : callI F f args h = some (v, h') ↔ ∃ n, E F n (.call f args h) = some (.val v h') := by
  unfold callI
  constructor
  · intro hv
    split at hv
    · rename_i hx
      obtain ⟨n, hn⟩ := Classical.choose_spec hx
      rw [Option.some.inj hv] at hn
      exact ⟨n, hn⟩
    · cases hv
  · rintro ⟨n, hn⟩
    have hx : ∃ (x : Value × H) (n : Nat), E F n (.call f args h) = some (.val x.1 x.2) := ⟨(v, h'), n, hn⟩
    rw [dif_pos hx]
    obtain ⟨m, hm⟩ := Classical.choose_spec hx
    have := E_det hm hn
    simp only [Out.val.injEq] at this
    exact congrArg some (Prod.ext this.1 this.2)
theorem loopI_iff {L : List (List Bool)} {b : CC} {k : K} {body : (List Value → H → Option Out) → List Value → H → Option Out} {vs : List Value} {h : H} {r : Out} : loopI F L b k body vs h = some r ↔ ∃ n o, E F n (.code (.loop L b) (setL L vs) h) = some o ∧ apK k o = some r := by
  unfold loopI
  constructor
  · intro hv
    split at hv
    · rename_i hx
      obtain ⟨n, o, h1, h2⟩ := Classical.choose_spec hx
      rw [Option.some.inj hv] at h2
      exact ⟨n, o, h1, h2⟩
    · cases hv
  · rintro ⟨n, o, h1, h2⟩
    have hx : ∃ (r : Out) (n : Nat) (o : Out), E F n (.code (.loop L b) (setL L vs) h) = some o ∧ apK k o = some r := ⟨r, n, o, h1, h2⟩
    rw [dif_pos hx]
    obtain ⟨m, o', h3, h4⟩ := Classical.choose_spec hx
    rw [E_det h3 h1, h2] at h4
    exact h4.symm

theorem keepsI : Keeps (fun _ => True) (fun _ => True) := ⟨fun _ _ _ _ _ _ _ => trivial, fun _ _ _ _ _ => trivial, fun _ _ _ _ _ _ _ _ _ _ => trivial⟩
theorem okC_true : ∀ c : CC, okC (fun _ => True) c
  | .skip => trivial
  | .ops _ => trivial
  | .draw _ => trivial
  | .draw2 _ _ _ => trivial
  | .seq a _ b => ⟨okC_true a, okC_true b⟩
  | .cond _ a b => ⟨okC_true a, okC_true b⟩
  | .block _ b => okC_true b
  | .loop _ b => okC_true b
  | .rangeFunc _ _ _ _ _ _ => trivial
  | .exit _ => trivial
  | .ret => trivial
theorem soundI : SoundR F (fun _ => True) (rI F) where
  call := fun f args h v h' hv _ => by
    obtain ⟨n, hn⟩ := callI_iff.1 hv
    exact ⟨n, hn, trivial⟩
  loop := fun L b k body vs h r hv _ => by
    obtain ⟨n, o, h1, h2⟩ := (loopI_iff (body := body)).1 hv
    exact .inr ⟨n, o, h1, trivial, h2⟩

/-- a function is its text. -/
theorem callI_func {g : FuncId} {cf : CFunc} (hF : F g = some cf) {n : Nat} (hn : n ≤ cf.ntmps) {first captured : Array Value} {args : List Value} {h : H} {v : Value} {h' : H}
    (hv : shFunc (rI F) n cf (first.toList ++ args ++ captured.toList) h = some (.val v h')) : callI F (.func (.func g) first captured) args h = some (v, h') := by
  obtain ⟨m, hm, -⟩ := shFunc_some soundI keepsI hF hn (okC_true _) hv trivial
  exact callI_iff.2 ⟨m, hm⟩
/-- a function that is not walked. -/
theorem callI_prim {g : FuncId} {cf : CFunc} (hF : F g = some cf) {p : List Value → H → Option (Value × H)} (hp : cf.prim = some p) {args : List Value} {h : H} {v : Value} {h' : H}
    (hv : p args h = some (v, h')) (hn : h.next ≤ h'.next) : callI F (.func (.func g) #[] #[]) args h = some (v, h') := by
  refine callI_iff.2 ⟨1, ?_⟩
  rw [E_call]
  unfold callStep
  simp only [hF, Option.bind_some]
  unfold runFunc
  rw [hp]
  dsimp only
  simp only [List.nil_append, List.append_nil, hv, Option.bind_some]
  rw [if_pos (Nat.ble_eq_true_of_le hn)]
/-- a call of a yield is a round. -/
theorem callI_yield {l : Nat} {st : LoopState} {pend : Option CC} {sl : Slots} {rc : RC} {h : H} (hg : h.get l = some (.loop st pend sl rc)) {args : List Value} {v : Value} {h' : H}
    (hv : shRound (rI F) rc l args sl h = some (.val v h')) : callI F (.func (.yield l) #[] #[]) args h = some (v, h') := by
  obtain ⟨m, hm, -⟩ := shRound_some soundI keepsI hg (okC_true _) (okC_true _) hv trivial
  exact callI_iff.2 ⟨m, hm⟩
theorem setL_cons (p : List Bool) (L : List (List Bool)) (v : Value) (vs : List Value) : setL (p :: L) (v :: vs) = (setL L vs).set p v := rfl
theorem keepS_of {L : List (List Bool)} : ∀ {vs : List Value} {s : Slots}, vs.length = L.length → (∀ (i : Nat) p v, L[i]? = some p → vs[i]? = some v → s.get p = some v) → keepS L s = setL L vs := by
  induction L with
  | nil => intro vs s _ _; rfl
  | cons p L ih =>
    intro vs s hl hs
    cases vs with
    | nil => cases hl
    | cons v vs =>
      rw [keepS_cons, hs 0 p v rfl rfl, setL_cons]
      dsimp only
      rw [ih (by simpa using hl) (fun i q u h1 h2 => hs (i + 1) q u (by simpa using h1) (by simpa using h2))]
theorem setL_get {L : List (List Bool)} : ∀ {vs : List Value}, L.Nodup → vs.length = L.length → ∀ (i : Nat) p v, L[i]? = some p → vs[i]? = some v → (setL L vs).get p = some v := by
  induction L with
  | nil => intro vs _ _ i p v h; simp at h
  | cons q L ih =>
    intro vs hn hl i p v h1 h2
    obtain ⟨hq, hn⟩ := List.nodup_cons.1 hn
    cases vs with
    | nil => cases hl
    | cons u vs =>
      rw [setL_cons]
      cases i with
      | zero => simp at h1 h2; subst h1; subst h2; exact PT.get_set_same _ _ _
      | succ i =>
        simp at h1 h2
        have : q ≠ p := fun e => hq (e ▸ List.mem_of_getElem? h1)
        rw [PT.get_set_ne _ _ _ _ this]
        exact ih hn (by simpa using hl) i p v h1 h2
theorem withL_length {L : List (List Bool)} : ∀ {vs : List Value} {k : Slots → Option Out} {o : Out}, withL L vs k = some o → vs.length = L.length := by
  induction L with
  | nil => intro vs k o h; rw [(un_some (show un vs (k .nil) = some o from h)).1]; rfl
  | cons p L ih =>
    intro vs k o h
    obtain ⟨v, r, rfl, h⟩ := uc_some (show uc vs (fun v vs => withL L vs fun s => k (s.set p v)) = some o from h)
    simp [ih h]
/-- a loop goes round once more. -/
theorem loopI_step {L : List (List Bool)} (hn : L.Nodup) {b : CC} {k : K} {body body' : (List Value → H → Option Out) → List Value → H → Option Out} {vs : List Value} {h : H} {r : Out}
    (hv : withL L vs (fun s => sh (rI F) b ⟨fun s h => getL L s fun vs => loopI F L b k body vs h, k.ext, k.ret⟩ s h) = some r) : loopI F L b k body' vs h = some r := by
  have hl := withL_length hv
  obtain ⟨n, o, h1, -, h3⟩ := sh_some soundI keepsI b (withL_some hv) (okC_true _) trivial
  have hk : keepS L (setL L vs) = setL L vs := keepS_of hl (setL_get hn hl)
  refine loopI_iff.2 ?_
  cases o with
  | nrm s' h' =>
    obtain ⟨vs', hk', hv'⟩ := getL_some (show getL L s' (fun vs => loopI F L b k body vs h') = some r from h3)
    obtain ⟨m, o', h4, h5⟩ := loopI_iff.1 hv'
    refine ⟨n + m + 1, o', ?_, h5⟩
    have e : ∀ {m : Nat} {o : Out}, E F m (.code (.loop L b) (setL L vs') h') = some o → E F m (.code (.loop L b) s' h') = some o := by
      intro m o ho
      cases m with
      | zero => cases ho
      | succ m =>
        rw [E_code] at ho ⊢
        have ho : (E F m (.code b (keepS L (setL L vs')) h')).bind (loopK (E F m) L b) = some o := ho
        have : keepS L (setL L vs') = keepS L s' := by
          rw [← hk']
          have gen : ∀ (L' : List (List Bool)), (∀ p ∈ L', p ∈ L) → keepS L' (keepS L s') = keepS L' s' := by
            intro L'
            induction L' with
            | nil => intro _; rfl
            | cons p L' ihL =>
              intro hp
              rw [keepS_cons, keepS_cons, keepS_get, if_pos (hp p (by simp)), ihL (fun q hq => hp q (by simp [hq]))]
          exact gen L (fun _ h => h)
        rw [this] at ho; exact ho
    rw [E_code]
    show (E F (n + m) (.code b (keepS L (setL L vs)) h)).bind (loopK (E F (n + m)) L b) = _
    rw [hk, E_le fuel2.1 _ _ h1]
    exact E_le fuel2.2 _ _ (e h4)
  | exit i s' h' => exact ⟨n + 1, .exit i s' h', by rw [E_code]; show (E F n (.code b (keepS L (setL L vs)) h)).bind (loopK (E F n) L b) = _; rw [hk, h1]; rfl, (show k.ext i s' h' = some r from h3)⟩
  | ret s' h' => exact ⟨n + 1, .ret s' h', by rw [E_code]; show (E F n (.code b (keepS L (setL L vs)) h)).bind (loopK (E F n) L b) = _; rw [hk, h1]; rfl, (show k.ret s' h' = some r from h3)⟩
  | val _ _ => cases h3

/-! ### The words in which the parts of a function are printed -/
def vPick (c a b : Value) (h : H) : R := match c with
  | .bool true => some (a, h)
  | .bool false => some (b, h)
  | _ => none
def vSlice (n : Nat) (c : Option (List Value)) (h : H) : R := c.map fun c => (.slice (some ⟨h.next, 0, none⟩) n n, h.new (.cells c 0))
def vLoad1 (a : Value) (h : H) : R := (ptrOf a).bind fun a => (h.readN a.block a.off 1).bind fun l => (oneOf l).map (·, h)
def vLoadN (n : Nat) (a : Value) (h : H) : R := (ptrOf a).bind fun a => (h.readN a.block a.off n).map fun l => (.agg ⟨l⟩, h)
def vStore (n : Nat) (a x : Value) (h : H) : R := (ptrOf a).bind fun a => if Nat.beq (cellsL x).length n then (h.write a.block a.off (cellsL x)).map fun h => (undefV, h) else none
def vNil (x : Value) (h : H) : R := (nilV x).map (·, h)
def vBin (op : BinOp) (ek : EK) (a b : Value) (h : H) : R := (binV op ek a b).map (·, h)
def vUn (op : UnOp) (a : Value) (h : H) : R := (unV op a).map (·, h)
def vConv (k : IntKind) (a : Value) (h : H) : R := (convV k a).map (·, h)
def vField (off : Nat) (x : Value) (h : H) : R := (ptrOf x).map fun a => (.pointer (some ⟨a.block, a.off + off, none⟩), h)
def vIndex (size : Nat) (x i : Value) (h : H) : R := (indexV size x i).map (·, h)
def vIndexA (n size : Nat) (x i : Value) (h : H) : R := (indexArrV n size x i).map (·, h)
def vLookup (kk : KK) (z : Value) (ok : Bool) (m k : Value) (h : H) : R := (sameKey kk k k).bind fun _ => (entriesOf h m).bind fun es => (findE kk k es).map fun r => (lookupRes z ok r, h)
def vExtract (i : Nat) (x : Value) (h : H) : R := (extractV i x).map (·, h)
def vRes (n : Option Nat) (v : Value) (h : H) : Option Value := (ptrOf v).bind fun a => match n with
  | some n => (h.readN a.block a.off n).map fun l => .agg ⟨l⟩
  | none => (h.readN a.block a.off 1).bind oneOf
def gd (v : Value) (w : Bool) (h : H) (r : R) : R := (wantedV w v).bind fun b => match b with
  | true => r
  | false => some (undefV, h)
def kBlk (i : Nat) (k : K) : K := ⟨k.nrm, blkX i k, k.ret⟩
def kSeq (X : Rn) (c : CC) (L : List (List Bool)) (k : K) : K := ⟨fun s h => sh X c k (keepS L s) h, k.ext, k.ret⟩
def lp (X : Rn) (L : List (List Bool)) (b : CC) (k : K) (vs : List Value) (h : H) : Option Out :=
  X.loop L b k (fun self vs h => withL L vs fun s => sh X b ⟨fun s h => getL L s fun vs => self vs h, k.ext, k.ret⟩ s h) vs h
def kLoop (X : Rn) (L : List (List Bool)) (b : CC) (k : K) : K := ⟨fun s h => getL L s fun vs => lp X L b k vs h, k.ext, k.ret⟩
def fin (l : Nat) (p : Option CC) (h : H) : Option Out := (h.get l).bind (finObj l p h)
def bx (i j : Nat) (a b : Option Out) : Option Out := match Nat.beq i j with
  | true => a
  | false => b
def rgP (l : Nat) (h : H) (kn : H → Option Out) (ke : Nat → H → Option Out) (kr : H → Option Out) : Option Out := (h.get l).bind fun o =>
  let f := fun (pend : Option CC) (h : H) => match pend with
    | none => kn h
    | some .ret => kr h
    | some (.exit i) => ke i h
    | _ => none
  match o with
  | .loop .ready pend sl rc => f pend (h.put l (.loop .exhausted pend sl rc))
  | .loop .done pend sl rc => f pend (h.put l (.loop .exhausted pend sl rc))
  | _ => none
/-- a table of functions. -/
def lookF (l : List (Nat × CFunc)) (g : Nat) : Option CFunc := List.rec (motive := fun _ => Option CFunc) none (fun p _ ih => match Nat.beq p.1 g with | true => some p.2 | false => ih) l
/-- a round of a loop, for proofs. -/
theorem lp_step {F : FuncId → Option CFunc} {L : List (List Bool)} (hn : L.Nodup) {b : CC} {k : K} {vs : List Value} {h : H} {r : Out} (hv : withL L vs (fun s => sh (rI F) b (kLoop (rI F) L b k) s h) = some r) : lp (rI F) L b k vs h = some r :=
  loopI_step (body := fun self vs h => withL L vs fun s => sh (rI F) b ⟨fun s h => getL L s fun vs => self vs h, k.ext, k.ret⟩ s h) (body' := fun self vs h => withL L vs fun s => sh (rI F) b ⟨fun s h => getL L s fun vs => self vs h, k.ext, k.ret⟩ s h) hn hv

/-! ### With fuel and tables: for the kernel -/
abbrev Tab := FuncId → Option (Rn → List Value → H → Option Out)
abbrev RTab := Nat → Option (Rn → Nat → List Value → Slots → H → Option Out)
def rnLoop (m : Nat) (_ : List (List Bool)) (_ : CC) (_ : K) (body : (List Value → H → Option Out) → List Value → H → Option Out) : List Value → H → Option Out := iter body m
def yieldN (RT : RTab) (X : Rn) (l : Nat) (args : List Value) (h : H) : IObj → R
  | .loop _ _ sl rc => (RT rc.rid).bind fun fr => (fr X l args sl h).bind valOf
  | _ => none
def callStepN (T : Tab) (RT : RTab) (X : Rn) (args : List Value) (h : H) : Value → R
  | .func (.func g) first captured => (T g).bind fun fg => (fg X (first.toList ++ args ++ captured.toList) h).bind valOf
  | .func (.yield l) first captured => match first.isEmpty && captured.isEmpty with
    | true => (h.get l).bind (yieldN RT X l args h)
    | false => none
  | _ => none
def callN (T : Tab) (RT : RTab) (m : Nat) (n : Nat) : Value → List Value → H → R :=
  Nat.rec (motive := fun _ => Value → List Value → H → R) (fun _ _ _ => none) (fun _ ih f args h => callStepN T RT ⟨ih, rnLoop m⟩ args h f) n

/-- the rounds that a heap holds are those of a table. -/
def HG (G : Nat → Option RC) (h : H) : Prop := ∀ i st p sl rc, h.get i = some (.loop st p sl rc) → G rc.rid = some rc

theorem keepsG (G : Nat → Option RC) : Keeps (HG G) (fun rc => G rc.rid = some rc) := by
  have put : ∀ (h : H) (i : Nat) (o : IObj), HG G h → (∀ st p sl rc, o = .loop st p sl rc → G rc.rid = some rc) → HG G (h.put i o) := by
    intro h i o hg ho j st p sl rc hj
    rw [H.get_put] at hj
    split at hj
    · cases hj; exact ho _ _ _ _ rfl
    · exact hg _ _ _ _ _ hj
  have new : ∀ (h : H) (o : IObj), HG G h → (∀ st p sl rc, o = .loop st p sl rc → G rc.rid = some rc) → HG G (h.new o) := by
    intro h o hg ho j st p sl rc hj
    rw [H.get_new] at hj
    split at hj
    · cases hj; exact ho _ _ _ _ rfl
    · exact hg _ _ _ _ _ hj
  have nol : ∀ {cs : List Value} {e : Nat}, ∀ st p sl rc, IObj.cells cs e = .loop st p sl rc → G rc.rid = some rc := nofun
  have write : ∀ (h : H) (i off : Nat) (vs : List Value) (h' : H), h.write i off vs = some h' → HG G h → HG G h' := by
    intro h i off vs h' hw hg
    obtain ⟨o, ho, hw⟩ := aof hw
    cases o with
    | cells cs esz =>
      simp only [writeObj] at hw
      split at hw
      · obtain ⟨c, hc, e⟩ := amf hw; subst e; exact put _ _ _ hg nol
      · cases hw
    | map _ _ => cases hw
    | loop _ _ _ _ => cases hw
    | dead => cases hw
  refine ⟨fun op s h v h' hv hg => ?_, fun h s rc hg ho => new _ _ hg (fun _ _ _ _ e => by cases e; exact ho), fun h l st p s rc st' p' hg hl => put _ _ _ hg (fun _ _ _ _ e => by cases e; exact hg _ _ _ _ _ hl)⟩
  by_cases hw : isW op = false
  · by_cases hr : isRd op = true
    · rw [(read_float hr (n := h.next) (m := h.mem) hv).1]; exact hg
    · rcases isW_class hw with hc | hc
      · rw [(pure_float hw (by simpa using hr) hc hv).1]; exact hg
      · cases op <;> simp only [opClass, reduceCtorEq] at hc
        case alloc z => cases hv; exact new _ _ hg nol
        case box x => obtain ⟨u, hu, e⟩ := amf hv; cases e; exact new _ _ hg nol
        case buildSlice n sz z ps => obtain ⟨u, hu, hv⟩ := aof hv; obtain ⟨x, hx, e⟩ := amf hv; cases e; exact new _ _ hg nol
        case makeMap => cases hv; exact new _ _ hg (nofun)
        case makeSlice sz bt z l c =>
          obtain ⟨u, hu, hv⟩ := aof hv; obtain ⟨u2, hu2, hv⟩ := aof hv
          unfold makeSliceV at hv
          split at hv
          · split at hv
            · cases hv; exact new _ _ hg nol
            · cases hv
          · cases hv
        case blt b as => cases b <;> cases hc
  · cases op <;> simp only [isW, not_true_eq_false, reduceCtorEq, not_false_eq_true] at hw
    case store n a x =>
      obtain ⟨u, hu, hv⟩ := aof hv; obtain ⟨u2, hu2, hv⟩ := aof hv; obtain ⟨ad, ha, hv⟩ := aof hv
      split at hv
      · obtain ⟨g, hgw, e⟩ := amf hv; cases e; exact write _ _ _ _ _ hgw hg
      · cases hv
    case mapUpdate kk m k x =>
      obtain ⟨u, hu, hv⟩ := aof hv; obtain ⟨u2, hu2, hv⟩ := aof hv; obtain ⟨u3, hu3, hv⟩ := aof hv
      unfold mapUpd at hv
      split at hv
      · obtain ⟨o, ho, hv⟩ := aof hv
        cases o with
        | map es c => obtain ⟨y, hy, hv⟩ := aof hv; obtain ⟨z, hz, e⟩ := amf hv; cases e; exact put _ _ _ hg (nofun)
        | cells _ _ => cases hv
        | loop _ _ _ _ => cases hv
        | dead => cases hv
      · cases hv
    case call f as => cases hv
    case blt b as =>
      cases b <;> simp only [isW, not_true_eq_false, reduceCtorEq, not_false_eq_true] at hw
      case clear z =>
        obtain ⟨l, hl, hv⟩ := aof hv
        match l with
        | [] => cases hv
        | _ :: _ :: _ => simp [bltV] at hv
        | [sv] =>
          cases sv with
          | slice b n c =>
            cases b with
            | none => cases hv; exact hg
            | some ad =>
              simp only [bltV] at hv
              split at hv
              · cases hv; exact hg
              · obtain ⟨g, hgw, e⟩ := amf hv
                cases e
                exact write _ _ _ _ _ hgw hg
          | _ => simp [bltV] at hv
      rename_i size bytes
      obtain ⟨l, hl, hv⟩ := aof hv
      have putG : ∀ {size : Nat} {a : Addr} {len cap n : Nat} {new : List Value} {h : H} {v : Value} {h' : H}, putIn size a len cap n new h = some (v, h') → HG G h → HG G h' := by
        intro size a len cap n new h v h' hv hg
        obtain ⟨o, ho, e⟩ := amf hv; cases e; exact write _ _ _ _ _ ho hg
      have growG : ∀ {size : Nat} {a : Addr} {len n : Nat} {nw : List Value} {h : H} {cs : List Value} {v : Value} {h' : H}, growIn size a len n nw h cs = some (v, h') → HG G h → HG G h' := by
        intro size a len n nw h cs v h' hv hg
        obtain ⟨o, ho, e⟩ := amf hv; cases e; exact new _ _ hg nol
      match l with
      | [] => cases hv
      | [_] => cases hv
      | _ :: _ :: _ :: _ => cases hv
      | [sv, x] =>
        obtain ⟨nl, hnl, hv⟩ := aof hv
        unfold appendTo at hv
        split at hv
        · split at hv
          · cases hv; exact hg
          · split at hv
            · split at hv
              · split at hv
                · cases hv; exact new _ _ hg nol
                · cases hv
              · obtain ⟨o, ho, hv⟩ := aof hv
                cases o with
                | cells cs esz =>
                  simp only [appendIn] at hv
                  split at hv
                  · split at hv
                    · split at hv
                      · exact putG hv hg
                      · exact growG hv (put _ _ _ hg (nofun))
                    · cases hv
                  · split at hv
                    · exact putG hv hg
                    · exact growG hv hg
                | map _ _ => cases hv
                | loop _ _ _ _ => cases hv
                | dead => cases hv
            · cases hv
        · cases hv

/-- a table of functions is a good one. -/
structure TabOk (F : FuncId → Option CFunc) (G : Nat → Option RC) (T : Tab) (RT : RTab) : Prop where
  fn : ∀ g fg, T g = some fg → ∃ cf n, F g = some cf ∧ n ≤ cf.ntmps ∧ okC (fun rc => G rc.rid = some rc) cf.body ∧ ∀ X args h, fg X args h = shFunc X n cf args h
  rd : ∀ r fr rc, RT r = some fr → G r = some rc → okC (fun rc => G rc.rid = some rc) rc.as ∧ okC (fun rc => G rc.rid = some rc) rc.b ∧ ∀ X l args sl h, fr X l args sl h = shRound X rc l args sl h

theorem valOf_some {o : Out} {v : Value} {h : H} (hv : valOf o = some (v, h)) : o = .val v h := by
  cases o <;> simp only [valOf, Option.some.injEq, Prod.mk.injEq, reduceCtorEq] at hv
  obtain ⟨rfl, rfl⟩ := hv; rfl

theorem soundN {G : Nat → Option RC} {T : Tab} {RT : RTab} (hT : TabOk F G T RT) (m : Nat) : ∀ n, SoundR F (HG G) ⟨callN T RT m n, rnLoop m⟩
  | 0 => ⟨fun _ _ _ _ _ h _ => (by cases h), fun L b k body vs h r hv _ => .inl ⟨m, hv⟩⟩
  | n + 1 => by
    refine ⟨fun f args h v h' hv hi => ?_, fun L b k body vs h r hv _ => .inl ⟨m, hv⟩⟩
    have S := soundN hT m n
    have hv : callStepN T RT ⟨callN T RT m n, rnLoop m⟩ args h f = some (v, h') := hv
    unfold callStepN at hv
    split at hv
    · obtain ⟨fg, hfg, hv⟩ := aof hv
      obtain ⟨o, ho, hv⟩ := aof hv
      obtain rfl := valOf_some hv
      obtain ⟨cf, k, q1, q2, q3, q4⟩ := hT.fn _ _ hfg
      rw [q4] at ho
      exact shFunc_some S (keepsG G) q1 q2 q3 ho hi
    · split at hv
      · rename_i hemp
        rw [Bool.and_eq_true, Array.isEmpty_iff, Array.isEmpty_iff] at hemp
        obtain ⟨rfl, rfl⟩ := hemp
        obtain ⟨o, ho, hv⟩ := aof hv
        cases o with
        | loop st p sl rc =>
          obtain ⟨fr, hfr, hv⟩ := aof hv
          obtain ⟨o2, ho2, hv⟩ := aof hv
          obtain rfl := valOf_some hv
          obtain ⟨q1, q2, q3⟩ := hT.rd _ _ _ hfr (hi _ _ _ _ _ ho)
          rw [q3] at ho2
          exact shRound_some S (keepsG G) ho q1 q2 ho2 hi
        | cells _ _ => cases hv
        | map _ _ => cases hv
        | dead => cases hv
      · cases hv
    · cases hv
end
end
end Go.Ideal
/- From the ideal machine to the given statements: the world that a law is called in, as the ideal machine sees it; what the law's answer leaves. -/
namespace Go.Ideal
noncomputable section
variable {P : Program}

/-! ### The world as the ideal machine sees it -/
def isCells (W : World) (b : Nat) : Bool := match W.heap[b]? with
  | some (.cells _ _ _) => true
  | _ => false
def okV (W : World) : Value → Bool
  | .bool _ => true
  | .int _ _ => true
  | .string _ => true
  | .nilFunc => true
  | .pointer none => true
  | .map none => true
  | .slice none 0 0 => true
  | .slice (some a) len cap => a.spot.isNone && (decide (len ≤ cap) && (decide (cap < openCap) && isCells W a.block))
  | .pointer (some a) => a.spot.isNone && isCells W a.block
  | _ => false
/-- a slice without room that points nowhere. -/
def isDang : Value → Bool
  | .slice (some _) 0 0 => true
  | _ => false
/-- what stands for it. -/
def dang (W : World) : Value := .slice (some ⟨W.heap.size, 0, none⟩) 0 0
def impV (W : World) (v : Value) : Value := if okV W v then v else if isDang v then dang W else poison
def impObj (W : World) : Obj → Option IObj
  | .cells c _ _ => some (.cells (c.toList.map (impV W)) roE)
  | _ => none
open Classical in
/-- the block that is said to be where such a slice points. -/
def dangR (W : World) : Option RB := if h : ∃ b, isCells W b = true then some ⟨Classical.choose h, 0, 0, 0, 1, none⟩ else none
def impRho (W : World) (i : Nat) : Option RB := if i = W.heap.size then dangR W else (W.heap[i]?).bind fun o => match o with
  | .cells c _ _ => some ⟨i, 0, c.size, roE, c.size, some o⟩
  | _ => none
def impMem (W : World) (n : Nat) : PT IObj := Nat.rec (motive := fun _ => PT IObj) .nil (fun i t => match (W.heap[i]?).bind (impObj W) with | some o => t.set (bits i) o | none => t) n
def impH (W : World) : H := ⟨W.heap.size + 1, impMem W W.heap.size⟩

theorem impMem_get (W : World) : ∀ (n j : Nat), (impMem W n).get (bits j) = if j < n then (W.heap[j]?).bind (impObj W) else none
  | 0, j => by rw [if_neg (by omega)]; exact PT.get_nil _
  | n + 1, j => by
    have e : impMem W (n + 1) = match (W.heap[n]?).bind (impObj W) with | some o => (impMem W n).set (bits n) o | none => impMem W n := rfl
    rw [e]
    cases ho : (W.heap[n]?).bind (impObj W) with
    | none =>
      rw [impMem_get W n j]
      by_cases h : j < n
      · rw [if_pos h, if_pos (by omega)]
      · rw [if_neg h]
        by_cases e : j = n
        · subst e; rw [if_pos (by omega), ho]
        · rw [if_neg (by omega)]
    | some o =>
      dsimp only
      rw [PT.get_set_bits, impMem_get W n j]
      by_cases e : n = j
      · subst e; rw [if_pos rfl, if_pos (by omega), ho]
      · rw [if_neg e]
        by_cases h : j < n
        · rw [if_pos h, if_pos (by omega)]
        · rw [if_neg h, if_neg (by omega)]
theorem impH_get (W : World) (j : Nat) : (impH W).get j = (W.heap[j]?).bind (impObj W) := by
  show (impMem W W.heap.size).get (bits j) = _
  rw [impMem_get]
  by_cases h : j < W.heap.size
  · rw [if_pos h]
  · rw [if_neg h, Array.getElem?_eq_none (by omega)]; rfl
theorem impH_cells {W : World} {b : Nat} {c : Array Value} {t : TypeId} {fr : Nat × Nat} (h : W.heap[b]? = some (.cells c t fr)) : (impH W).get b = some (.cells (c.toList.map (impV W)) roE) := by rw [impH_get, h]; rfl
theorem impH_next (W : World) : (impH W).next = W.heap.size + 1 := rfl

theorem isCells_lt {W : World} {b : Nat} (h : isCells W b = true) : b < W.heap.size := by
  unfold isCells at h
  split at h
  · rename_i hb; exact (Array.getElem?_eq_some_iff.1 hb).1
  · cases h
theorem impRho_lt {W : World} {i : Nat} (h : i < W.heap.size) : impRho W i = (W.heap[i]?).bind fun o => match o with | .cells c _ _ => some ⟨i, 0, c.size, roE, c.size, some o⟩ | _ => none := by
  unfold impRho; rw [if_neg (by omega)]
theorem impRho_cells {W : World} {b : Nat} (h : isCells W b = true) : ∃ R, impRho W b = some R ∧ R.blk = b ∧ R.base = 0 := by
  have hlt := isCells_lt h
  unfold isCells at h
  split at h
  · rename_i c t fr hb
    exact ⟨_, by rw [impRho_lt hlt, hb]; rfl, rfl, rfl⟩
  · cases h
theorem okV_rel {W : World} {v : Value} (h : okV W v = true) : VR (impRho W) v v := by
  unfold okV at h
  split at h
  · exact .bool _
  · exact .int _ _
  · exact .str _
  · exact .nilFunc
  · exact .ptrNil
  · exact .mapNil
  · exact .sliceNil
  · rename_i a len cap
    simp only [Bool.and_eq_true, Option.isNone_iff_eq_none, decide_eq_true_eq] at h
    obtain ⟨h1, h2, h3, h4⟩ := h
    obtain ⟨R, hR, hb, h0⟩ := impRho_cells h4
    obtain ⟨b, o, sp⟩ := a
    simp only at h1 hR hb
    subst h1
    have := VR.slice (o := o) (len := len) hR h3 h2
    rw [hb, h0, Nat.zero_add] at this
    exact this
  · rename_i a
    simp only [Bool.and_eq_true, Option.isNone_iff_eq_none] at h
    obtain ⟨h1, h4⟩ := h
    obtain ⟨R, hR, hb, h0⟩ := impRho_cells h4
    obtain ⟨b, o, sp⟩ := a
    simp only at h1 hR hb
    subst h1
    have := VR.ptr (o := o) hR
    rw [hb, h0, Nat.zero_add] at this
    exact this
  · cases h

theorem impRho_some {W : World} {i : Nat} {R : RB} (h : impRho W i = some R) : (i ≠ W.heap.size ∧ ∃ c t fr, W.heap[i]? = some (.cells c t fr) ∧ R = ⟨i, 0, c.size, roE, c.size, some (.cells c t fr)⟩) ∨ (i = W.heap.size ∧ isCells W R.blk = true) := by
  unfold impRho at h
  split at h
  · rename_i e
    refine .inr ⟨e, ?_⟩
    unfold dangR at h
    split at h
    · rename_i hx; cases h; exact Classical.choose_spec hx
    · cases h
  · rename_i e
    obtain ⟨o, ho, h⟩ := aof h
    cases o with
    | cells c t fr => cases h; exact .inl ⟨e, c, t, fr, ho, rfl⟩
    | _ => cases h
theorem impRho_obj {W : World} {i : Nat} {R : RB} {o : IObj} (h : impRho W i = some R) (ho : (impH W).get i = some o) : ∃ c t fr, W.heap[i]? = some (.cells c t fr) ∧ R = ⟨i, 0, c.size, roE, c.size, some (.cells c t fr)⟩ := by
  rcases impRho_some h with ⟨-, h⟩ | ⟨rfl, -⟩
  · exact h
  · rw [impH_get, Array.getElem?_eq_none (Nat.le_refl _)] at ho; cases ho
/-- a slice without room that points nowhere. -/
theorem dang_rel {W : World} {v : Value} {b : Nat} (hb : isCells W b = true) (h : isDang v = true) : VR (impRho W) (dang W) v := by
  unfold isDang at h
  split at h
  · refine .sliceD (R := ⟨Classical.choose (⟨b, hb⟩ : ∃ b, isCells W b = true), 0, 0, 0, 1, none⟩) ?_ (by show 0 < 1; omega)
    unfold impRho; rw [if_pos rfl]; unfold dangR; rw [dif_pos ⟨b, hb⟩]
  · cases h

theorem imp_HR (W : World) : HR P (impRho W) (impH W) W where
  obj := fun i R o hi ho => by
    obtain ⟨c, t, fr, hb, rfl⟩ := impRho_obj hi ho
    rw [impH_cells hb] at ho; cases ho
    refine ⟨rfl, by simp, c, t, fr, hb, .inr ⟨rfl, rfl⟩, rfl, by simp, fun j v hj => ?_⟩
    rw [List.getElem?_map] at hj
    obtain ⟨x, hx, rfl⟩ := Option.map_eq_some_iff.1 hj
    refine ⟨x, by rw [Array.getElem?_toList] at hx; simpa using hx, ?_⟩
    unfold impV
    by_cases hok : okV W x = true
    · rw [if_pos hok]; exact .inr (okV_rel hok)
    · rw [if_neg hok]
      by_cases hd : isDang x = true
      · rw [if_pos hd]; exact .inr (dang_rel (b := i) (by unfold isCells; rw [hb]) hd)
      · rw [if_neg hd]; exact .inl rfl
  nxt := fun i hi => by
    have hi' : W.heap.size + 1 ≤ i := hi
    have hn : W.heap[i]? = none := Array.getElem?_eq_none (by omega)
    exact ⟨by unfold impRho; rw [if_neg (by omega), hn]; rfl, by rw [impH_get, hn]; rfl⟩
  sep := fun i j R S hi hj ai aj e => by
    obtain ⟨o, ho, -⟩ := ai
    obtain ⟨o', ho', -⟩ := aj
    obtain ⟨_, _, _, _, rfl⟩ := impRho_obj hi ho
    obtain ⟨_, _, _, _, rfl⟩ := impRho_obj hj ho'
    exact e
  blk := fun i R hi => by
    rcases impRho_some hi with ⟨-, _, _, _, hb, rfl⟩ | ⟨-, hc⟩
    · exact (Array.getElem?_eq_some_iff.1 hb).1
    · exact isCells_lt hc

/-- an argument of which all is known. -/
def okArg (W : World) : Value → Bool
  | .agg cs => cs.toList.all (okV W)
  | v => okV W v
theorem okArg_rel {W : World} {v : Value} (h : okArg W v = true) : VR (impRho W) v v := by
  unfold okArg at h
  split at h
  · rename_i cs
    have : VRL (impRho W) cs.toList cs.toList := ⟨rfl, fun j x y hx hy => by rw [hx] at hy; cases hy; exact okV_rel (List.all_eq_true.1 h x (List.mem_of_getElem? hx))⟩
    exact VR.agg_of this
  · exact okV_rel h

/-- what the ideal machine answers over the world that came in, the given one answers, and leaves that world as it was. -/
theorem calls_import {F : FuncId → Option CFunc} (hmix : P.follows .mixedOrders = true) (hF : ∀ g cf, F g = some cf → FnOk P g cf) {g : FuncId} {args : Array Value} {W : World} (hargs : ∀ v ∈ args.toList, okArg W v = true)
    {b : Bool} {h' : H} (he : callI F (.func (.func g) #[] #[]) args.toList (impH W) = some (.bool b, h')) (hfr : ∀ i, i < W.heap.size → h'.get i = (impH W).get i) :
    Calls P g args W fun e W' => e = .returned (.bool b) ∧ Same W W' := by
  obtain ⟨n, hn⟩ := callI_iff.1 he
  have ra : VRL (impRho W) args.toList args.toList := ⟨rfl, fun j x y hx hy => by rw [hx] at hy; cases hy; exact okArg_rel (hargs x (List.mem_of_getElem? hx))⟩
  refine (calls_of_E hmix hF hn ra (imp_HR W)).mono ?_
  rintro e W' ⟨v', σ, rfl, hv, hr, hx⟩
  refine ⟨by rw [hv.inv_bool], hx.os, hx.out, fun B hB => ?_, hx.froz, hx.size⟩
  by_cases hc : isCells W B = true
  · obtain ⟨R, hR, hb, h0⟩ := impRho_cells hc
    obtain ⟨-, c, t, fr, hWB, rfl⟩ := (impRho_some hR).resolve_right (fun h => by omega)
    have ho := hr.obj B _ _ (hx.le _ _ hR) (by rw [hfr B hB]; exact impH_cells hWB)
    obtain ⟨_, _, c', t', fr', q1, q2, _⟩ := ho
    rcases q2 with ⟨q2, _⟩ | ⟨q2, _⟩
    · cases q2
    · rw [q1, hWB]; exact (q2.symm ▸ rfl : some (Obj.cells c' t' fr') = some (Obj.cells c t fr))
  · refine hx.frame B hB fun i R hi e => ?_
    rcases impRho_some hi with ⟨-, c, t, fr, hWB, rfl⟩ | ⟨-, hcc⟩
    · have e : i = B := e
      subst e
      exact hc (by unfold isCells; rw [hWB])
    · rw [e] at hcc; exact hc hcc

/-- a function that answers a truth by the kernel's word is a closed one. -/
theorem prim_of {F : FuncId → Option CFunc} (hmix : P.follows .mixedOrders = true) (hF : ∀ g cf, F g = some cf → FnOk P g cf) {g : FuncId} {fn : Func} {cf0 : CFunc} (hfn : P.funcs[g]? = some fn) (hcf : compileFunc P fn = some (stripF cf0)) {b : Bool} {n : Nat} {h' : H}
    (he : E F n (.call (.func (.func g) #[] #[]) [] .empty) = some (.val (.bool b) h')) : FnOk P g (primF b) := by
  refine .inr (.inl ⟨fn, cf0, b, hfn, hcf, rfl, fun w => ?_⟩)
  have hr : HR P (fun _ => none) H.empty w := ⟨fun _ _ _ h => (by cases h), fun i _ => ⟨rfl, PT.get_nil _⟩, fun _ _ _ _ h => (by cases h), fun _ _ h => (by cases h)⟩
  refine (calls_of_E hmix hF he (args' := #[]) ⟨rfl, fun j x y hx => by simp at hx⟩ hr).mono ?_
  rintro e w' ⟨v', σ, rfl, hv, -, hx⟩
  exact ⟨by rw [hv.inv_bool], hx.os, hx.out, fun B hB => hx.frame B hB fun _ _ h => (by cases h), hx.froz, hx.size⟩

section
open Go.ChangeShapes Go.WideShapes Go.RowKit
variable {H : Type} {enc : TypeId × Value → H}

theorem Same.kept {W W' : World} (h : Same W W') (may : MemPlace → Prop) : W.keptBut W' may := by
  refine ⟨h.os, h.out, fun i hi => ?_⟩
  rw [h.heap i hi]
  cases ho : W.heap[i]? with
  | none => trivial
  | some o =>
    cases o with
    | cells c t fr => exact ⟨rfl, rfl, rfl, fun _ _ => rfl⟩
    | map es c => exact .inr ⟨rfl, rfl⟩
    | _ => rfl
theorem Same.at {W W' : World} (h : Same W W') {p : MemPlace} (hp : p.block < W.heap.size) : W.sameAt W' p := by
  cases p with
  | cell b off =>
    show W'.cell? ⟨b, off, none⟩ = W.cell? ⟨b, off, none⟩
    have := h.heap b hp
    simp only [World.cell?, this]
  | map b => exact h.heap b hp

theorem trodAll_stays (hl : laidOutB P = true) {W W' : World} {sp' : Nat → Bool} (hs : Same W W') : ∀ {ts : List TypeId} {vs : List Value} {ds : List (DataW H)} {ps : List MemPlace}, (∀ t ∈ ts, P.readableRec t = true ∧ t < P.types.size) →
    DataW.TrodAll enc P W 0 (fun _ => true) true ts vs ds ps → (∀ p ∈ ps, p.block < W.heap.size) → (∀ p ∈ ps, sp' p.block = true) → DataW.TrodAll enc P W' 0 sp' true ts vs ds ps
  | [], vs, ds, ps, _, h, _, _ => by
    obtain ⟨rfl, rfl, rfl⟩ := trodAll_nil h
    exact trodAll_mk0
  | t :: ts, vs, ds, ps, ht, h, hlt, hsp => by
    obtain ⟨v, vs', d, ds', p, q, rfl, rfl, rfl, h1, h2⟩ := trodAll_cons h
    obtain ⟨r1, r2⟩ := ht t (by simp)
    exact trodAll_cons_mk (WideElems.Trod_stays hl r1 r2 h1 (fun x hx => hs.at (hlt x (by simp [hx]))) (fun x hx => hsp x (by simp [hx])))
      (trodAll_stays hl hs (fun t ht' => ht t (by simp [ht'])) h2 (fun x hx => hlt x (by simp [hx])) (fun x hx => hsp x (by simp [hx])))

/-- the statement of a law: it answers true, and nothing has turned. -/
theorem law_post {s : ChangeSpec} {fn : Func} {apart fresh handsOn again : Bool} {W W' : World} {args : Array Value} {ds gs : List (DataW H)} {before : List MemPlace} {t : TypeId} (hW : DataW.Whole enc P fn.params.toList s.vars apart W args.toList ds gs before)
    (hvars : s.vars = []) (hspec : s.fn H (ds ++ gs) = { results := [.lit (.bool true)], args := ds }) (hres : fn.resultTypes = #[t]) (ht : P.underlying t = some .bool) (hsame : Same W W') (hl : laidOutB P = true) (hr : ∀ t ∈ fn.params.toList, P.readableRec t = true ∧ t < P.types.size) :
    s.post enc P fn apart fresh handsOn again W args (.bool true) W' := by
  have hW' := hW
  obtain ⟨p, q, hA, hV, rfl, hfz, hnd⟩ := hW
  rw [hvars] at hV
  obtain ⟨rfl, rfl⟩ := trodVars_none hV
  refine post_of_same (pa := p) (pv := []) hW' (fun b sp hd => ?_) (fun sp hsp => ?_) (fun sp hsp => ?_) rfl (hsame.kept _) hsame.froz ?_
  · rw [hspec, hres]
    exact trodAll_mk1 (shut_bool ht true)
  · rw [hspec]
    exact trodAll_stays hl hsame hr hA (fun x hx => hW'.lt x (by simp [hx])) (fun x hx => hsp x (by simp [hx]))
  · rw [hspec, hvars]; rfl
  · exact ok_one hres rfl (okWide_bool_mk ht true)
end
end
end Go.Ideal
/- Tables of executables are good ones. -/
namespace Go.Ideal
noncomputable section
def rcs : CC → List RC
  | .seq a _ b => rcs a ++ rcs b
  | .cond _ a b => rcs a ++ rcs b
  | .block _ b => rcs b
  | .loop _ b => rcs b
  | .rangeFunc rid L _ ps as b => [⟨rid, L, ps, as, b⟩]
  | _ => []
theorem okC_rcs {ok : RC → Prop} : ∀ (c : CC), (∀ rc ∈ rcs c, ok rc) → okC ok c
  | .skip, _ => trivial
  | .ops _, _ => trivial
  | .draw _, _ => trivial
  | .draw2 _ _ _, _ => trivial
  | .seq a _ b, h => ⟨okC_rcs a fun rc hr => h rc (List.mem_append.2 (.inl hr)), okC_rcs b fun rc hr => h rc (List.mem_append.2 (.inr hr))⟩
  | .cond _ a b, h => ⟨okC_rcs a fun rc hr => h rc (List.mem_append.2 (.inl hr)), okC_rcs b fun rc hr => h rc (List.mem_append.2 (.inr hr))⟩
  | .block _ b, h => okC_rcs b h
  | .loop _ b, h => okC_rcs b h
  | .rangeFunc _ _ _ _ _ _, h => h _ (List.mem_singleton.2 rfl)
  | .exit _, _ => trivial
  | .ret, _ => trivial
def lookR (L : List RC) (r : Nat) : Option RC := List.rec (motive := fun _ => Option RC) none (fun rc _ ih => match Nat.beq rc.rid r with | true => some rc | false => ih) L
theorem lookR_cons (rc : RC) (L : List RC) (r : Nat) : lookR (rc :: L) r = match Nat.beq rc.rid r with | true => some rc | false => lookR L r := rfl
theorem lookR_mem : ∀ {L : List RC}, (L.map (·.rid)).Nodup → ∀ {rc : RC}, rc ∈ L → lookR L rc.rid = some rc
  | [], _, rc, h => by cases h
  | x :: L, hn, rc, h => by
    rw [lookR_cons]
    rw [List.map_cons, List.nodup_cons] at hn
    rcases List.mem_cons.1 h with rfl | h
    · rw [Nat.beq_refl]
    · have hne : Nat.beq x.rid rc.rid = false := by
        rw [Bool.eq_false_iff]
        intro e
        exact hn.1 (List.mem_map.2 ⟨rc, h, (Nat.eq_of_beq_eq_true e).symm⟩)
      rw [hne]; exact lookR_mem hn.2 h
abbrev Xf := Rn → List Value → H → Option Out
abbrev Xr := Rn → Nat → List Value → Slots → H → Option Out
def tabOf (t : List (Nat × Xf)) : Tab := fun g => List.rec (motive := fun _ => Option Xf) none (fun p _ ih => match Nat.beq p.1 g with | true => some p.2 | false => ih) t
def rtabOf (t : List (RC × Xr)) : RTab := fun g => List.rec (motive := fun _ => Option Xr) none (fun p _ ih => match Nat.beq p.1.rid g with | true => some p.2 | false => ih) t
theorem tabOf_mem : ∀ {t : List (Nat × Xf)} {g : Nat} {x : Xf}, tabOf t g = some x → ∃ p ∈ t, p.1 = g ∧ p.2 = x
  | [], g, x, h => by cases h
  | p :: t, g, x, h => by
    have h : (match Nat.beq p.1 g with | true => some p.2 | false => tabOf t g) = some x := h
    split at h
    · rename_i e; cases h; exact ⟨p, by simp, Nat.eq_of_beq_eq_true e, rfl⟩
    · obtain ⟨q, hq, e⟩ := tabOf_mem h; exact ⟨q, by simp [hq], e⟩
theorem rtabOf_mem : ∀ {t : List (RC × Xr)} {r : Nat} {x : Xr}, rtabOf t r = some x → ∃ p ∈ t, p.1.rid = r ∧ p.2 = x
  | [], g, x, h => by cases h
  | p :: t, g, x, h => by
    have h : (match Nat.beq p.1.rid g with | true => some p.2 | false => rtabOf t g) = some x := h
    split at h
    · rename_i e; cases h; exact ⟨p, by simp, Nat.eq_of_beq_eq_true e, rfl⟩
    · obtain ⟨q, hq, e⟩ := rtabOf_mem h; exact ⟨q, by simp [hq], e⟩
theorem lookF_mem : ∀ {t : List (Nat × CFunc)} {g : Nat} {cf : CFunc}, lookF t g = some cf → ∃ p ∈ t, p.1 = g ∧ p.2 = cf
  | [], g, x, h => by cases h
  | p :: t, g, x, h => by
    have h : (match Nat.beq p.1 g with | true => some p.2 | false => lookF t g) = some x := h
    split at h
    · rename_i e; cases h; exact ⟨p, by simp, Nat.eq_of_beq_eq_true e, rfl⟩
    · obtain ⟨q, hq, e⟩ := lookF_mem h; exact ⟨q, by simp [hq], e⟩
theorem tabOk {tF : List (Nat × CFunc)} {tT : List (Nat × Xf)} {tR : List (RC × Xr)} (hall : tF.flatMap (fun p => rcs p.2.body) ++ tR.flatMap (fun p => rcs p.1.as ++ rcs p.1.b) = tR.map (·.1)) (hnd : (tR.map fun p => p.1.rid).Nodup)
    (hT : ∀ p ∈ tT, ∃ cf n, lookF tF p.1 = some cf ∧ n ≤ cf.ntmps ∧ (fun X args h => shFunc X n cf args h) = p.2) (hR : ∀ p ∈ tR, (fun X l args sl h => shRound X p.1 l args sl h) = p.2) : TabOk (lookF tF) (lookR (tR.map (·.1))) (tabOf tT) (rtabOf tR) := by
  have hnd' : ((tR.map (·.1)).map (·.rid)).Nodup := by rw [List.map_map]; exact hnd
  refine ⟨fun g fg hg => ?_, fun r fr rc hr hG => ?_⟩
  · obtain ⟨p, hp, rfl, rfl⟩ := tabOf_mem hg
    obtain ⟨cf, n, h1, h2, h3⟩ := hT p hp
    refine ⟨cf, n, h1, h2, okC_rcs _ fun rc hrc => lookR_mem hnd' ?_, fun X args h => by rw [← h3]⟩
    obtain ⟨q, hq, _, rfl⟩ := lookF_mem h1
    rw [← hall]
    exact List.mem_append.2 (.inl (List.mem_flatMap.2 ⟨q, hq, hrc⟩))
  · obtain ⟨p, hp, rfl, rfl⟩ := rtabOf_mem hr
    have hm : p.1 ∈ tR.map (·.1) := List.mem_map.2 ⟨p, hp, rfl⟩
    rw [lookR_mem hnd' hm] at hG
    cases hG
    have key : ∀ x ∈ rcs p.1.as ++ rcs p.1.b, lookR (tR.map (·.1)) x.rid = some x := fun x hx => lookR_mem hnd' (by
      rw [← hall]
      exact List.mem_append.2 (.inr (List.mem_flatMap.2 ⟨p, hp, hx⟩)))
    exact ⟨okC_rcs _ fun x hx => key x (List.mem_append.2 (.inl hx)), okC_rcs _ fun x hx => key x (List.mem_append.2 (.inr hx)), fun X l args sl h => by rw [← hR p hp]⟩
def isT : R → Bool
  | some (.bool b, _) => b
  | _ => false
/-- what the tables find true, the ideal machine finds true. -/
theorem E_of_isT {tF : List (Nat × CFunc)} {tT : List (Nat × Xf)} {tR : List (RC × Xr)} (hT : TabOk (lookF tF) (lookR (tR.map (·.1))) (tabOf tT) (rtabOf tR)) {m n : Nat} {f : Value} (h : isT (callN (tabOf tT) (rtabOf tR) m n f [] H.empty) = true) :
    ∃ k h', E (lookF tF) k (.call f [] H.empty) = some (.val (.bool true) h') := by
  cases hc : callN (tabOf tT) (rtabOf tR) m n f [] H.empty with
  | none => rw [hc] at h; cases h
  | some x =>
    obtain ⟨v, h'⟩ := x
    rw [hc] at h
    obtain ⟨k, hk, _⟩ := (soundN hT m n).call _ _ _ _ _ hc (fun i st p sl rc hi => by
      have : H.empty.get i = none := PT.get_nil _
      rw [this] at hi; cases hi)
    refine ⟨k, h', ?_⟩
    cases v <;> simp only [isT, Bool.false_eq_true] at h
    subst h; exact hk
end
end Go.Ideal
/- Words and rules for proofs over the ideal machine's second evaluator. -/
namespace Go.Ideal
variable {F : FuncId → Option CFunc}

abbrev fnV (g : FuncId) : Value := .func (.func g) #[] #[]
theorem rI_call (f : Value) (args : List Value) (h : H) : (rI F).call f args h = callI F f args h := id rfl
/-- a named function is its text. -/
theorem call_fn {g : FuncId} {cf : CFunc} (hF : F g = some cf) (n : Nat) (hn : n ≤ cf.ntmps) {args : List Value} {h : H} {v : Value} {h' : H} (hv : shFunc (rI F) n cf args h = some (.val v h')) : callI F (fnV g) args h = some (v, h') :=
  callI_func hF hn (by simpa using hv)

/-! ### Heaps -/
structure Fr (h h' : H) : Prop where
  next : h.next ≤ h'.next
  get : ∀ i, i < h.next → h'.get i = h.get i
theorem Fr.refl (h : H) : Fr h h := ⟨Nat.le_refl _, fun _ _ => rfl⟩
theorem Fr.trans {a b c : H} (h : Fr a b) (k : Fr b c) : Fr a c := ⟨Nat.le_trans h.next k.next, fun i hi => (k.get i (Nat.lt_of_lt_of_le hi h.next)).trans (h.get i hi)⟩
theorem Fr.new (h : H) (o : IObj) : Fr h (h.new o) := ⟨by simp, fun i hi => by rw [H.get_new, if_neg (by omega)]⟩
theorem Fr.newR {a b : H} (h : Fr a b) (o : IObj) : Fr a (b.new o) := h.trans (.new b o)
theorem Fr.put {a b : H} (h : Fr a b) {i : Nat} (hi : a.next ≤ i) (o : IObj) : Fr a (b.put i o) := ⟨h.next, fun j hj => by rw [H.get_put, if_neg (by omega)]; exact h.get j hj⟩

theorem get_new_same (h : H) (o : IObj) : (h.new o).get h.next = some o := by simp
theorem get_new_lt {h : H} {o : IObj} {i : Nat} (hi : i < h.next) : (h.new o).get i = h.get i := by rw [H.get_new, if_neg (by omega)]
theorem get_put_same (h : H) (i : Nat) (o : IObj) : (h.put i o).get i = some o := by simp
theorem get_put_ne {h : H} {i j : Nat} {o : IObj} (hi : i ≠ j) : (h.put i o).get j = h.get j := by rw [H.get_put, if_neg hi]

theorem readN_of {h : H} {i : Nat} {cs : List Value} {e : Nat} (hg : h.get i = some (.cells cs e)) (off n : Nat) : h.readN i off n = takeC n (dropN off cs) := by unfold H.readN; rw [hg]; rfl
theorem write_of' {h : H} {i : Nat} {cs : List Value} {e : Nat} (hg : h.get i = some (.cells cs e)) (off : Nat) (vs : List Value) : h.write i off vs = if vs.all isCell && !Nat.beq e roE then (writeAt cs off vs).map fun cs' => h.put i (.cells cs' e) else none := by
  unfold H.write; rw [hg]; rfl

/-! ### Words -/
theorem k2_val (v : Value) (h : H) (k : Value → H → Option Out) : k2 (some (v, h)) k = k v h := id rfl
theorem br_true (a b : Option Out) : br (.bool true) a b = a := id rfl
theorem br_false (a b : Option Out) : br (.bool false) a b = b := id rfl
theorem newPtr_eq (h : H) (cs : List Value) : newPtr h cs = (.pointer (some ⟨h.next, 0, none⟩), h.new (.cells cs 0)) := id rfl
theorem vLoad1_eq (b o : Nat) (s : Option Nat) (h : H) : vLoad1 (.pointer (some ⟨b, o, s⟩)) h = (h.readN b o 1).bind fun l => (oneOf l).map (·, h) := id rfl
theorem vLoadN_eq (n b o : Nat) (s : Option Nat) (h : H) : vLoadN n (.pointer (some ⟨b, o, s⟩)) h = (h.readN b o n).map fun l => (.agg ⟨l⟩, h) := id rfl
theorem vField_eq (off b o : Nat) (s : Option Nat) (h : H) : vField off (.pointer (some ⟨b, o, s⟩)) h = some (.pointer (some ⟨b, o + off, none⟩), h) := id rfl
theorem vStore_eq (n b o : Nat) (s : Option Nat) (x : Value) (h : H) : vStore n (.pointer (some ⟨b, o, s⟩)) x h = if Nat.beq (cellsL x).length n then (h.write b o (cellsL x)).map fun h => (undefV, h) else none := id rfl
theorem vExtract_eq (i : Nat) (vs : Array Value) (h : H) : vExtract i (.tuple vs) h = (vs.toList[i]?).map (·, h) := id rfl
theorem gd_true_true (h : H) (r : R) : gd (.bool true) true h r = r := id rfl
theorem gd_false_true (h : H) (r : R) : gd (.bool false) true h r = some (undefV, h) := id rfl
theorem gd_true_false (h : H) (r : R) : gd (.bool true) false h r = some (undefV, h) := id rfl
theorem gd_false_false (h : H) (r : R) : gd (.bool false) false h r = r := id rfl
theorem gd_undef (w : Bool) (h : H) (r : R) : gd undefV w h r = some (undefV, h) := id rfl
theorem vPick_true (a b : Value) (h : H) : vPick (.bool true) a b h = some (a, h) := id rfl
theorem vPick_false (a b : Value) (h : H) : vPick (.bool false) a b h = some (b, h) := id rfl
theorem rdF_cons (rd : H → R) (lo p : Nat) (h b : H) (r : List (Nat × H)) : rdF rd lo h ((p, b) :: r) = (rd b).bind fun y => if readsF rd lo y.1 r then some (y.1, h) else none := id rfl
theorem readsF_nil (rd : H → R) (lo : Nat) (v : Value) : readsF rd lo v [] = true := id rfl
theorem readsF_cons (rd : H → R) (lo p : Nat) (v : Value) (b : H) (r : List (Nat × H)) : readsF rd lo v ((p, b) :: r) = if Nat.blt p lo then readsF rd lo v r else match rd b with
    | some y => eqVal v y.1 && readsF rd lo v r
    | none => false := id rfl
theorem eqCell_int (k : IntKind) (a : Int) : eqCell (.int k a) (.int k a) = true := by simp [eqCell, eqI_eq]
theorem eqCell_bool (a : Bool) : eqCell (.bool a) (.bool a) = true := by simp [eqCell]
theorem eqCell_slN (n c : Nat) : eqCell (.slice none n c) (.slice none n c) = true := by simp [eqCell]
theorem eqAddr_self (a : Addr) (h : a.spot = none) : eqAddr a a = true := by
  obtain ⟨b, o, s⟩ := a
  cases h; simp [eqAddr]
theorem eqCell_sl (b o n c : Nat) : eqCell (.slice (some ⟨b, o, none⟩) n c) (.slice (some ⟨b, o, none⟩) n c) = true := by simp [eqCell, eqAddr_self]
theorem eqCell_ptr (b o : Nat) : eqCell (.pointer (some ⟨b, o, none⟩)) (.pointer (some ⟨b, o, none⟩)) = true := by simp [eqCell, eqAddr_self]
theorem eqVal_int (k : IntKind) (a : Int) : eqVal (.int k a) (.int k a) = true := eqCell_int k a
theorem eqVal_bool (a : Bool) : eqVal (.bool a) (.bool a) = true := eqCell_bool a
theorem eqVal_slN (n c : Nat) : eqVal (.slice none n c) (.slice none n c) = true := eqCell_slN n c
theorem eqVal_sl (b o n c : Nat) : eqVal (.slice (some ⟨b, o, none⟩) n c) (.slice (some ⟨b, o, none⟩) n c) = true := eqCell_sl b o n c
theorem eqVal_agg (l : List Value) : eqVal (.agg ⟨l⟩) (.agg ⟨l⟩) = eqCells l l := id rfl
theorem eqCells_nil : eqCells [] [] = true := id rfl
theorem eqCells_cons (a b : Value) (l m : List Value) : eqCells (a :: l) (b :: m) = (eqCell a b && eqCells l m) := id rfl

theorem wrapF_in {n : Int} (h1 : -9223372036854775808 ≤ n) (h2 : n ≤ 9223372036854775807) : wrapF .i64 n = n := by
  rw [wrapF_eq]
  show (if (true && decide (n % (2 ^ 64 : Int) ≥ (2 ^ 63 : Int))) = true then n % (2 ^ 64 : Int) - (2 ^ 64 : Int) else n % (2 ^ 64 : Int)) = n
  simp only [Bool.true_and, decide_eq_true_eq]
  split <;> omega
theorem i64_add {ek : EK} {a b : Int} {h : H} (h1 : -9223372036854775808 ≤ a + b) (h2 : a + b ≤ 9223372036854775807) : vBin .add ek (.int .i64 a) (.int .i64 b) h = some (.int .i64 (a + b), h) := by
  show some (Value.int .i64 (wrapF .i64 (a + b)), h) = _
  rw [wrapF_in h1 h2]
theorem i64_sub {ek : EK} {a b : Int} {h : H} (h1 : -9223372036854775808 ≤ a - b) (h2 : a - b ≤ 9223372036854775807) : vBin .sub ek (.int .i64 a) (.int .i64 b) h = some (.int .i64 (a - b), h) := by
  show some (Value.int .i64 (wrapF .i64 (a - b)), h) = _
  rw [wrapF_in h1 h2]
theorem vBin_lss (ek : EK) (a b : Int) (h : H) : vBin .lss ek (.int .i64 a) (.int .i64 b) h = some (.bool (decide (a < b)), h) := by
  show some (Value.bool (ltI a b), h) = _; rw [ltI_eq]
theorem vBin_gtr (ek : EK) (a b : Int) (h : H) : vBin .gtr ek (.int .i64 a) (.int .i64 b) h = some (.bool (decide (b < a)), h) := by
  show some (Value.bool (ltI b a), h) = _; rw [ltI_eq]
theorem vBin_leq (ek : EK) (a b : Int) (h : H) : vBin .leq ek (.int .i64 a) (.int .i64 b) h = some (.bool (decide (a ≤ b)), h) := by
  show some (Value.bool (!ltI b a), h) = _
  rw [ltI_eq]; congr 3; rw [Bool.eq_iff_iff]; simp
theorem vBin_geq (ek : EK) (a b : Int) (h : H) : vBin .geq ek (.int .i64 a) (.int .i64 b) h = some (.bool (decide (b ≤ a)), h) := by
  show some (Value.bool (!ltI a b), h) = _
  rw [ltI_eq]; congr 3; rw [Bool.eq_iff_iff]; simp
theorem vBin_eql (ek : EK) (a b : Int) (h : H) : vBin .eql ek (.int .i64 a) (.int .i64 b) h = some (.bool (decide (a = b)), h) := by
  show some (Value.bool (eqI a b), h) = _
  rw [eqI_eq]; congr 3
theorem vBin_neq (ek : EK) (a b : Int) (h : H) : vBin .neq ek (.int .i64 a) (.int .i64 b) h = some (.bool (decide (a ≠ b)), h) := by
  show some (Value.bool (!eqI a b), h) = _
  rw [eqI_eq]; congr 3; rw [Bool.eq_iff_iff]; simp

/-! ### Reading and writing through what was made -/
theorem new_next (h : H) (o : IObj) : (h.new o).next = h.next + 1 := id rfl
theorem put_next (h : H) (i : Nat) (o : IObj) : (h.put i o).next = h.next := id rfl
theorem new_eq_put (h : H) (o : IObj) : h.new o = ⟨h.next + 1, (h.put h.next o).mem⟩ := id rfl
theorem PT.set_same {α : Type} (a b : α) : ∀ (p : List Bool) (t : PT α), (t.set p a).set p b = t.set p b
  | [], .nil => rfl
  | [], .node _ _ _ => rfl
  | true :: p, .nil => by rw [PT.set_nil_true, PT.set_node_true, PT.set_same a b p, PT.set_nil_true]
  | false :: p, .nil => by rw [PT.set_nil_false, PT.set_node_false, PT.set_same a b p, PT.set_nil_false]
  | true :: p, .node _ _ _ => by rw [PT.set_node_true, PT.set_node_true, PT.set_same a b p, PT.set_node_true]
  | false :: p, .node _ _ _ => by rw [PT.set_node_false, PT.set_node_false, PT.set_same a b p, PT.set_node_false]
theorem put_put (h : H) (i : Nat) (a b : IObj) : (h.put i a).put i b = h.put i b := by
  show (⟨_, _⟩ : H) = ⟨_, _⟩
  congr 1; exact PT.set_same _ _ _ _
theorem new_put (h : H) (a b : IObj) : (h.new a).put h.next b = h.new b := by
  show (⟨_, _⟩ : H) = ⟨_, _⟩
  congr 1; exact PT.set_same _ _ _ _
theorem new_put_ne {h : H} {i : Nat} (hi : i ≠ h.next) (a b : IObj) : (h.new a).put i b = (h.put i b).new a := by
  have := H.put_comm h (Ne.symm hi) a b
  show (⟨h.next + 1, ((h.put h.next a).put i b).mem⟩ : H) = ⟨_, _⟩
  rw [this]; rfl
theorem get_new (h : H) (o : IObj) (i : Nat) : (h.new o).get i = if i = h.next then some o else h.get i := by
  rw [H.get_new]; by_cases e : i = h.next
  · subst e; simp
  · rw [if_neg (fun x => e x.symm), if_neg e]
theorem get_put (h : H) (o : IObj) (j i : Nat) : (h.put j o).get i = if i = j then some o else h.get i := by
  rw [H.get_put]; by_cases e : i = j
  · subst e; simp
  · rw [if_neg (fun x => e x.symm), if_neg e]
theorem get_new_ne {h : H} {o : IObj} {i : Nat} (hi : i ≠ h.next) : (h.new o).get i = h.get i := by rw [get_new, if_neg hi]
theorem readN_def (h : H) (i off n : Nat) : h.readN i off n = (h.get i).bind (readObj off n) := id rfl
theorem write_def (h : H) (i off : Nat) (vs : List Value) : h.write i off vs = (h.get i).bind (writeObj h i off vs) := id rfl
theorem readObj_cells (off n : Nat) (cs : List Value) (e : Nat) : readObj off n (.cells cs e) = takeC n (dropN off cs) := id rfl
theorem writeObj_cells (h : H) (i off : Nat) (vs cs : List Value) (e : Nat) : writeObj h i off vs (.cells cs e) = if vs.all isCell && !Nat.beq e roE then (writeAt cs off vs).map fun cs' => h.put i (.cells cs' e) else none := id rfl
theorem takeN_z (l : List Value) : takeN 0 l = some [] := id rfl
theorem takeN_s (n : Nat) (a : Value) (l : List Value) : takeN (n + 1) (a :: l) = (takeN n l).map (a :: ·) := id rfl
theorem dropN_z (l : List Value) : dropN 0 l = l := id rfl
theorem dropN_s (n : Nat) (a : Value) (l : List Value) : dropN (n + 1) (a :: l) = dropN n l := id rfl
theorem takeC_of {n : Nat} {l r : List Value} (h : takeN n l = some r) (hc : r.all clean1 = true) : takeC n l = some r := by unfold takeC cleanL; rw [h, Option.bind_some, if_pos hc]
theorem takeC_def (n : Nat) (l : List Value) : takeC n l = (takeN n l).bind fun r => if r.all clean1 then some r else none := id rfl
theorem takeC_z (l : List Value) : takeC 0 l = some [] := id rfl
theorem takeC_s {n : Nat} {a : Value} {l : List Value} (h : clean1 a = true) : takeC (n + 1) (a :: l) = (takeC n l).map (a :: ·) := by
  unfold takeC
  rw [takeN_s]
  cases takeN n l with
  | none => rfl
  | some r =>
    have e : (a :: r).all clean1 = r.all clean1 := by rw [List.all_cons, h, Bool.true_and]
    show cleanL (a :: r) = (cleanL r).map _
    unfold cleanL
    rw [e]
    split <;> rfl
theorem beq_ro0 : Nat.beq 0 roE = false := by decide
theorem beq_ro1 : Nat.beq 1 roE = false := by decide
theorem beq_ro2 : Nat.beq 2 roE = false := by decide
theorem beq_ro3 : Nat.beq 3 roE = false := by decide
theorem clean_int (k : IntKind) (n : Int) : clean1 (.int k n) = true := id rfl
theorem clean_bool (b : Bool) : clean1 (.bool b) = true := id rfl
theorem clean_sl (a : Option Addr) (n c : Nat) : clean1 (.slice a n c) = true := id rfl
theorem clean_ptr (a : Option Addr) : clean1 (.pointer a) = true := id rfl
theorem cell_int (k : IntKind) (n : Int) : isCell (.int k n) = true := id rfl
theorem cell_bool (b : Bool) : isCell (.bool b) = true := id rfl
theorem cell_sl (a : Option Addr) (n c : Nat) : isCell (.slice a n c) = true := id rfl
theorem cell_ptr (a : Option Addr) : isCell (.pointer a) = true := id rfl
theorem writeAt_n (cs : List Value) (n : Nat) : writeAt cs n [] = some cs := by cases cs <;> cases n <;> rfl
theorem writeAt_z (c : Value) (cs : List Value) (v : Value) (vs : List Value) : writeAt (c :: cs) 0 (v :: vs) = (writeAt cs 0 vs).map (v :: ·) := id rfl
theorem writeAt_s (c : Value) (cs : List Value) (n : Nat) (v : Value) (vs : List Value) : writeAt (c :: cs) (n + 1) (v :: vs) = (writeAt cs n (v :: vs)).map (c :: ·) := id rfl

theorem k2_congr {r r' : R} (h : r = r') (k : Value → H → Option Out) : k2 r k = k2 r' k := by rw [h]
theorem br_congr {v v' : Value} (h : v = v') (a b : Option Out) : br v a b = br v' a b := by rw [h]
theorem gd_congr {v v' : Value} (h : v = v') (w : Bool) (g : H) (r : R) : gd v w g r = gd v' w g r := by rw [h]
theorem bind_congr1 {α β : Type} {x x' : Option α} (h : x = x') (k : α → Option β) : x.bind k = x'.bind k := by rw [h]
theorem vRes_eq (n b o : Nat) (s : Option Nat) (h : H) : vRes (some n) (.pointer (some ⟨b, o, s⟩)) h = (h.readN b o n).map fun l => .agg ⟨l⟩ := id rfl
theorem vRes1_eq (b o : Nat) (s : Option Nat) (h : H) : vRes none (.pointer (some ⟨b, o, s⟩)) h = (h.readN b o 1).bind oneOf := id rfl
theorem oneOf_eq (v : Value) : oneOf [v] = some v := id rfl
theorem tupleOf_one (v : Value) : tupleOf [v] = v := id rfl
theorem tupleOf_two (a b : Value) : tupleOf [a, b] = .tuple ⟨[a, b]⟩ := id rfl
theorem cellsL_agg (l : List Value) : cellsL (.agg ⟨l⟩) = l := id rfl
theorem cellsL_int (k : IntKind) (n : Int) : cellsL (.int k n) = [.int k n] := id rfl
theorem cellsL_bool (b : Bool) : cellsL (.bool b) = [.bool b] := id rfl
theorem cellsL_sl (a : Option Addr) (n c : Nat) : cellsL (.slice a n c) = [.slice a n c] := id rfl
theorem vUn_not (b : Bool) (h : H) : vUn .not (.bool b) h = some (.bool !b, h) := id rfl
theorem len_eq (a : Option Addr) (n c : Nat) (h : H) : bltV h .len [.slice a n c] = some (.int .i64 n, h) := id rfl
theorem vIndex_eq {sz b o len cap i : Nat} {s : Option Nat} {k : IntKind} {h : H} (hi : i < len) : vIndex sz (.slice (some ⟨b, o, s⟩) len cap) (.int k (i : Nat)) h = some (.pointer (some ⟨b, o + i * sz, none⟩), h) := by
  show ((if Nat.blt i len = true then _ else none : Option Value)).map _ = _
  rw [if_pos (by rw [Nat.blt_eq]; exact hi)]; rfl
theorem vIndex_int {sz b o len cap : Nat} {s : Option Nat} {k : IntKind} {h : H} {i : Int} (h0 : 0 ≤ i) (hi : i < len) : vIndex sz (.slice (some ⟨b, o, s⟩) len cap) (.int k i) h = some (.pointer (some ⟨b, o + i.toNat * sz, none⟩), h) := by
  obtain ⟨n, rfl⟩ := Int.eq_ofNat_of_zero_le h0
  rw [vIndex_eq (by omega)]; rfl
theorem vSlice_eq (n : Nat) (c : List Value) (h : H) : vSlice n (some c) h = some (.slice (some ⟨h.next, 0, none⟩) n n, h.new (.cells c 0)) := id rfl
theorem rI_call' (f : Value) (args : List Value) (h : H) : (rI F).call f args h = callI F f args h := id rfl
attribute [simp] beq_ro0 beq_ro1 beq_ro2 beq_ro3 k2_val newPtr_eq vField_eq vLoad1_eq vLoadN_eq vStore_eq vExtract_eq cellsL_agg cellsL_int cellsL_bool cellsL_sl readN_def write_def new_next put_next readObj_cells writeObj_cells takeC_s takeC_z dropN_s dropN_z clean_int clean_bool clean_sl clean_ptr cell_int cell_bool cell_sl cell_ptr oneOf_eq vBin_neq vBin_eql vBin_lss vBin_gtr vBin_leq vBin_geq br_true br_false tupleOf_one tupleOf_two gd_true_true gd_true_false gd_false_true gd_false_false gd_undef vPick_true vPick_false rdF_cons readsF_nil readsF_cons eqVal_int eqVal_bool eqVal_slN eqVal_sl eqVal_agg eqCells_nil eqCells_cons eqCell_int eqCell_bool eqCell_slN eqCell_sl eqCell_ptr writeAt_n writeAt_z writeAt_s new_put put_put vRes_eq vRes1_eq vUn_not len_eq vIndex_int i64_add i64_sub vSlice_eq rI_call'
attribute [congr] k2_congr br_congr gd_congr bind_congr1

/-! ### Rows -/
/-- a slice, and the rows of cells that its elements have. -/
inductive Row (h : H) (sz : Nat) : Value → List (List Value) → Prop
  | nil : Row h sz (.slice none 0 0) []
  | hole {b off : Nat} (hlt : b < h.next) : Row h sz (.slice (some ⟨b, off, none⟩) 0 0) []
  | cells {b off cap e : Nat} {cs : List Value} {rows : List (List Value)} (hlt : b < h.next) (hg : h.get b = some (.cells cs e)) (hrd : ∀ i r, rows[i]? = some r → takeC sz (dropN (off + i * sz) cs) = some r) (hcap : (cap = openCap ∧ e = sz ∧ 0 < sz ∧ off + rows.length * sz ≤ cs.length) ∨ (cap < openCap ∧ rows.length ≤ cap)) : Row h sz (.slice (some ⟨b, off, none⟩) rows.length cap) rows
theorem Row.len {h : H} {sz : Nat} {v : Value} {rows : List (List Value)} (hr : Row h sz v rows) : ∃ base c, v = .slice base rows.length c := by
  cases hr <;> exact ⟨_, _, rfl⟩
theorem Row.fr {h h' : H} {sz : Nat} {v : Value} {rows : List (List Value)} (hr : Row h sz v rows) (hf : Fr h h') : Row h' sz v rows := by
  cases hr with
  | nil => exact .nil
  | hole hlt => exact .hole (Nat.lt_of_lt_of_le hlt hf.next)
  | cells hlt hg hrd hcap => exact .cells (Nat.lt_of_lt_of_le hlt hf.next) ((hf.get _ hlt).trans hg) hrd hcap
theorem Row.index {h : H} {sz : Nat} {v : Value} {rows : List (List Value)} (hr : Row h sz v rows) {i : Nat} {r : List Value} (hi : rows[i]? = some r) : ∃ b o cs e, (∀ h', vIndex sz v (.int .i64 (i : Int)) h' = some (.pointer (some ⟨b, o, none⟩), h')) ∧ b < h.next ∧ h.get b = some (.cells cs e) ∧ takeC sz (dropN o cs) = some r := by
  cases hr with
  | nil => simp at hi
  | hole _ => simp at hi
  | cells hlt hg hrd hcap =>
    have hl : i < rows.length := by
      rcases Nat.lt_or_ge i rows.length with h | h
      · exact h
      · rw [List.getElem?_eq_none h] at hi; cases hi
    exact ⟨_, _, _, _, fun h' => vIndex_eq hl, hlt, hg, hrd i r hi⟩
theorem Fr.newR' {a b : H} {o : IObj} (h : Fr a b) : Fr a (b.new o) := h.newR o
/-- reading behind a row's element. -/
theorem readN_at {h : H} {b o n e : Nat} {cs r : List Value} (hg : h.get b = some (.cells cs e)) (ht : takeC n (dropN o cs) = some r) : h.readN b o n = some r := by unfold H.readN; rw [hg]; exact ht

/-! ### What answers, and how -/
def Ok (o : Option Out) (Q : Out → Prop) : Prop := ∃ r, o = some r ∧ Q r
theorem Ok.eq {a b : Option Out} {Q : Out → Prop} (h : Ok b Q) (e : a = b) : Ok a Q := e ▸ h
theorem Ok.loop {a b : Option Out} {Q : Out → Prop} (h : Ok b Q) (e : ∀ {r}, b = some r → a = some r) : Ok a Q := by
  obtain ⟨r, h1, h2⟩ := h; exact ⟨r, e h1, h2⟩
theorem Ok.mono {a : Option Out} {Q Q' : Out → Prop} (h : Ok a Q) (e : ∀ r, Q r → Q' r) : Ok a Q' := by
  obtain ⟨r, h1, h2⟩ := h; exact ⟨r, h1, e r h2⟩
/-- what was there stays, but for some blocks. -/
structure FrX (M : List Nat) (h h' : H) : Prop where
  next : h.next ≤ h'.next
  get : ∀ i, i < h.next → i ∉ M → h'.get i = h.get i
theorem FrX.refl (M : List Nat) (h : H) : FrX M h h := ⟨Nat.le_refl _, fun _ _ _ => rfl⟩
theorem FrX.trans {M : List Nat} {a b c : H} (h : FrX M a b) (k : FrX M b c) : FrX M a c := ⟨Nat.le_trans h.next k.next, fun i hi hm => (k.get i (Nat.lt_of_lt_of_le hi h.next) hm).trans (h.get i hi hm)⟩
theorem Fr.X {M : List Nat} {a b : H} (h : Fr a b) : FrX M a b := ⟨h.next, fun i hi _ => h.get i hi⟩
theorem FrX.newR {M : List Nat} {a b : H} (h : FrX M a b) (o : IObj) : FrX M a (b.new o) := h.trans (Fr.new b o).X
theorem FrX.put {M : List Nat} {a b : H} (h : FrX M a b) {i : Nat} (hi : i ∈ M ∨ a.next ≤ i) (o : IObj) : FrX M a (b.put i o) := ⟨h.next, fun j hj hm => by
  rw [H.get_put, if_neg]
  · exact h.get j hj hm
  · rintro rfl
    rcases hi with hi | hi
    · exact hm hi
    · omega⟩
/-- blocks that are new since are of no account. -/
theorem FrX.fresh {M : List Nat} {a b : H} (h : FrX M a b) (hm : ∀ i ∈ M, a.next ≤ i) : Fr a b := ⟨h.next, fun i hi => h.get i hi fun hx => by have := hm i hx; omega⟩
theorem Row.frX {M : List Nat} {h h' : H} {sz : Nat} {v : Value} {rows : List (List Value)} (hr : Row h sz v rows) (hf : FrX M h h') (hm : ∀ b o n c, v = .slice (some ⟨b, o, none⟩) n c → b ∉ M) : Row h' sz v rows := by
  cases hr with
  | nil => exact .nil
  | hole hlt => exact .hole (Nat.lt_of_lt_of_le hlt hf.next)
  | cells hlt hg hrd hcap => exact .cells (Nat.lt_of_lt_of_le hlt hf.next) ((hf.get _ hlt (hm _ _ _ _ rfl)).trans hg) hrd hcap
theorem takeC_at {cs : List Value} {i : Nat} {v : Value} (h : cs[i]? = some v) (hc : clean1 v = true) : takeC 1 (dropN i cs) = some [v] := by
  induction cs generalizing i with
  | nil => simp at h
  | cons c cs ih =>
    cases i with
    | zero => simp at h; subst h; rw [dropN_z, takeC_s hc, takeC_z]; rfl
    | succ i => rw [dropN_s]; exact ih (by simpa using h)
theorem writeAt_at {cs : List Value} {i : Nat} {v : Value} (h : i < cs.length) : writeAt cs i [v] = some (cs.set i v) := by
  induction cs generalizing i with
  | nil => simp at h
  | cons c cs ih =>
    cases i with
    | zero => rw [writeAt_z, writeAt_n]; rfl
    | succ i => rw [writeAt_s, ih (by simpa using h)]; rfl
end Go.Ideal
/- Rules for proofs over the second evaluator: what a piece of text answers, step by step. -/
namespace Go.Ideal
variable {F : FuncId → Option CFunc}

/-! ### Answers -/
def OkV (o : Option Out) (P : Value → H → Prop) : Prop := ∃ v h', o = some (.val v h') ∧ P v h'
def Ret (F : FuncId → Option CFunc) (f : Value) (args : List Value) (h : H) (P : Value → H → Prop) : Prop := ∃ v h', callI F f args h = some (v, h') ∧ P v h'
theorem OkV.val {v : Value} {h : H} {P : Value → H → Prop} (hp : P v h) : OkV (some (.val v h)) P := ⟨v, h, rfl, hp⟩
theorem OkV.mono {o : Option Out} {P Q : Value → H → Prop} (hp : OkV o P) (hq : ∀ v h, P v h → Q v h) : OkV o Q := by
  obtain ⟨v, h, e, p⟩ := hp; exact ⟨v, h, e, hq v h p⟩
theorem Ret.mono {f : Value} {args : List Value} {h : H} {P Q : Value → H → Prop} (hp : Ret F f args h P) (hq : ∀ v h, P v h → Q v h) : Ret F f args h Q := by
  obtain ⟨v, h, e, p⟩ := hp; exact ⟨v, h, e, hq v h p⟩
theorem Ret.eq {f : Value} {args : List Value} {h : H} {v : Value} {h' : H} (e : callI F f args h = some (v, h')) : Ret F f args h fun v1 h1 => v1 = v ∧ h1 = h' := ⟨v, h', e, rfl, rfl⟩
theorem OkV.lp {a b : Option Out} {P : Value → H → Prop} (hp : OkV b P) (e : ∀ {r}, b = some r → a = some r) : OkV a P := by
  obtain ⟨v, h, e1, p⟩ := hp; exact ⟨v, h, e e1, p⟩
theorem OkV.eq {a b : Option Out} {P : Value → H → Prop} (hp : OkV b P) (e : a = b) : OkV a P := e ▸ hp
theorem OkV.br {c : Prop} [Decidable c] {A B : Option Out} {P : Value → H → Prop} (h1 : c → OkV A P) (h2 : ¬ c → OkV B P) : OkV (br (.bool (decide c)) A B) P := by
  by_cases hc : c
  · rw [decide_eq_true hc]; exact h1 hc
  · rw [decide_eq_false hc]; exact h2 hc
theorem OkV.brb {b : Bool} {A B : Option Out} {P : Value → H → Prop} (h1 : b = true → OkV A P) (h2 : b = false → OkV B P) : OkV (Go.Ideal.br (.bool b) A B) P := by
  cases b
  · exact h2 rfl
  · exact h1 rfl
theorem OkV.call {f : Value} {args : List Value} {h : H} {k : Value → H → Option Out} {P Q : Value → H → Prop} (hc : Ret F f args h P) (hk : ∀ v h', P v h' → OkV (k v h') Q) : OkV (k2 (callI F f args h) k) Q := by
  obtain ⟨v, h', e, p⟩ := hc
  rw [e]; exact hk v h' p
theorem Ret.fn {g : FuncId} {cf : CFunc} (hF : F g = some cf) (n : Nat) (hn : n ≤ cf.ntmps) {args : List Value} {h : H} {P : Value → H → Prop} (hv : OkV (shFunc (rI F) n cf args h) P) : Ret F (fnV g) args h P := by
  obtain ⟨v, h', e, p⟩ := hv
  exact ⟨v, h', call_fn hF n hn e, p⟩
theorem Ret.clo {g : FuncId} {cf : CFunc} (hF : F g = some cf) (n : Nat) (hn : n ≤ cf.ntmps) {a b : List Value} {args : List Value} {h : H} {P : Value → H → Prop} (hv : OkV (shFunc (rI F) n cf (a ++ args ++ b) h) P) : Ret F (.func (.func g) ⟨a⟩ ⟨b⟩) args h P := by
  obtain ⟨v, h', e, p⟩ := hv
  exact ⟨v, h', callI_func hF hn e, p⟩
theorem Ret.round {l : Nat} {st : LoopState} {pend : Option CC} {sl : Slots} {rc : RC} {h : H} (hg : h.get l = some (.loop st pend sl rc)) {args : List Value} {P : Value → H → Prop} (hv : OkV (shRound (rI F) rc l args sl h) P) : Ret F (.func (.yield l) #[] #[]) args h P := by
  obtain ⟨v, h', e, p⟩ := hv
  exact ⟨v, h', callI_yield hg e, p⟩

/-! ### Branches that are known -/
theorem br_pos {c : Prop} [Decidable c] {A B : Option Out} (h : c) : br (.bool (decide c)) A B = A := by rw [decide_eq_true h]; rfl
theorem br_neg {c : Prop} [Decidable c] {A B : Option Out} (h : ¬ c) : br (.bool (decide c)) A B = B := by rw [decide_eq_false h]; rfl
theorem gdT_pos {c : Prop} [Decidable c] {h : H} {r : R} (hc : c) : gd (.bool (decide c)) true h r = r := by rw [decide_eq_true hc]; rfl
theorem gdT_neg {c : Prop} [Decidable c] {h : H} {r : R} (hc : ¬ c) : gd (.bool (decide c)) true h r = some (undefV, h) := by rw [decide_eq_false hc]; rfl
theorem gdF_pos {c : Prop} [Decidable c] {h : H} {r : R} (hc : c) : gd (.bool (decide c)) false h r = some (undefV, h) := by rw [decide_eq_true hc]; rfl
theorem gdF_neg {c : Prop} [Decidable c] {h : H} {r : R} (hc : ¬ c) : gd (.bool (decide c)) false h r = r := by rw [decide_eq_false hc]; rfl
theorem vPick_pos {c : Prop} [Decidable c] {a b : Value} {h : H} (hc : c) : vPick (.bool (decide c)) a b h = some (a, h) := by rw [decide_eq_true hc]; rfl
theorem vPick_neg {c : Prop} [Decidable c] {a b : Value} {h : H} (hc : ¬ c) : vPick (.bool (decide c)) a b h = some (b, h) := by rw [decide_eq_false hc]; rfl
/-- a guard that is not known is cut. -/
theorem OkV.gdT {c : Prop} [Decidable c] {h : H} {r : R} {k : Value → H → Option Out} {P : Value → H → Prop} (h1 : c → OkV (k2 r k) P) (h2 : ¬ c → OkV (k2 (some (undefV, h)) k) P) : OkV (k2 (gd (.bool (decide c)) true h r) k) P := by
  by_cases hc : c
  · rw [gdT_pos hc]; exact h1 hc
  · rw [gdT_neg hc]; exact h2 hc
theorem OkV.gdF {c : Prop} [Decidable c] {h : H} {r : R} {k : Value → H → Option Out} {P : Value → H → Prop} (h1 : c → OkV (k2 (some (undefV, h)) k) P) (h2 : ¬ c → OkV (k2 r k) P) : OkV (k2 (gd (.bool (decide c)) false h r) k) P := by
  by_cases hc : c
  · rw [gdF_pos hc]; exact h1 hc
  · rw [gdF_neg hc]; exact h2 hc
theorem OkV.gdTb {b : Bool} {h : H} {r : R} {k : Value → H → Option Out} {P : Value → H → Prop} (h1 : b = true → OkV (k2 r k) P) (h2 : b = false → OkV (k2 (some (undefV, h)) k) P) : OkV (k2 (gd (.bool b) true h r) k) P := by
  cases b
  · exact h2 rfl
  · exact h1 rfl
theorem OkV.gdFb {b : Bool} {h : H} {r : R} {k : Value → H → Option Out} {P : Value → H → Prop} (h1 : b = true → OkV (k2 (some (undefV, h)) k) P) (h2 : b = false → OkV (k2 r k) P) : OkV (k2 (gd (.bool b) false h r) k) P := by
  cases b
  · exact h2 rfl
  · exact h1 rfl

/-! ### Heaps -/
theorem get_new_eq {h : H} {o : IObj} {i : Nat} (hi : i = h.next) : (h.new o).get i = some o := by rw [get_new, if_pos hi]
theorem get_put_eq {h : H} {o : IObj} {i j : Nat} (hi : i = j) : (h.put j o).get i = some o := by rw [get_put, if_pos hi]
theorem get_put_ne' {h : H} {o : IObj} {i j : Nat} (hi : i ≠ j) : (h.put j o).get i = h.get i := by rw [get_put, if_neg hi]
theorem new_put_eq {h : H} {a b : IObj} {i : Nat} (hi : i = h.next) : (h.new a).put i b = h.new b := by subst hi; exact new_put h a b
theorem put_put_eq {h : H} {a b : IObj} {i j : Nat} (hi : i = j) : (h.put j a).put i b = h.put j b := by subst hi; exact put_put h i a b
theorem new_put_lt {h : H} {a b : IObj} {i : Nat} (hi : i ≠ h.next) : (h.new a).put i b = (h.put i b).new a := new_put_ne hi a b

/-- all but some old blocks are as they were. -/
structure FrD (D : Nat → Prop) (h h' : H) : Prop where
  next : h.next ≤ h'.next
  get : ∀ i, i < h.next → ¬ D i → h'.get i = h.get i
theorem FrD.refl (D : Nat → Prop) (h : H) : FrD D h h := ⟨Nat.le_refl _, fun _ _ _ => rfl⟩
theorem FrD.trans {D : Nat → Prop} {a b c : H} (h : FrD D a b) (k : FrD D b c) : FrD D a c := ⟨Nat.le_trans h.next k.next, fun i hi hd => (k.get i (Nat.lt_of_lt_of_le hi h.next) hd).trans (h.get i hi hd)⟩
theorem FrD.mono {D E : Nat → Prop} {a b : H} (h : FrD D a b) (hd : ∀ i, i < a.next → D i → E i) : FrD E a b := ⟨h.next, fun i hi he => h.get i hi fun hx => he (hd i hi hx)⟩
theorem FrD.new {D : Nat → Prop} {a b : H} (h : FrD D a b) (o : IObj) : FrD D a (b.new o) := ⟨by rw [new_next]; have := h.next; omega, fun i hi hd => by rw [get_new_ne (by have := h.next; omega)]; exact h.get i hi hd⟩
theorem FrD.put {D : Nat → Prop} {a b : H} (h : FrD D a b) {i : Nat} (hi : a.next ≤ i ∨ D i) (o : IObj) : FrD D a (b.put i o) := ⟨h.next, fun j hj hd => by
  rw [get_put_ne' (by rintro rfl; rcases hi with hi | hi; omega; exact hd hi)]; exact h.get j hj hd⟩
theorem Fr.D {D : Nat → Prop} {a b : H} (h : Fr a b) : FrD D a b := ⟨h.next, fun i hi _ => h.get i hi⟩
theorem FrD.fr {D : Nat → Prop} {a b : H} (h : FrD D a b) (hd : ∀ i, i < a.next → ¬ D i) : Fr a b := ⟨h.next, fun i hi => h.get i hi (hd i hi)⟩
/-- behind an old heap, the new blocks may change. -/
theorem Fr.transD {D : Nat → Prop} {a b c : H} (h : Fr a b) (k : FrD D b c) (hd : ∀ i, i < a.next → ¬ D i) : Fr a c := ⟨Nat.le_trans h.next k.next, fun i hi => (k.get i (Nat.lt_of_lt_of_le hi h.next) (hd i hi)).trans (h.get i hi)⟩

/-! ### Slices of slices -/
theorem Row.lt {h : H} {sz : Nat} {v : Value} {rows : List (List Value)} (hr : Row h sz v rows) {b o n c : Nat} (e : v = .slice (some ⟨b, o, none⟩) n c) : b < h.next := by
  cases hr with
  | nil => cases e
  | hole hlt => cases e; exact hlt
  | cells hlt => cases e; exact hlt
theorem Row.lenM {α : Type} {h : H} {sz : Nat} {v : Value} {es : List α} {f : α → List Value} (hr : Row h sz v (es.map f)) : ∃ base c, v = .slice base es.length c := by
  have := hr.len; rwa [List.length_map] at this
theorem Row.frD {D : Nat → Prop} {h h' : H} {sz : Nat} {v : Value} {rows : List (List Value)} (hr : Row h sz v rows) (hf : FrD D h h') (hd : ∀ b o n c, v = .slice (some ⟨b, o, none⟩) n c → ¬ D b) : Row h' sz v rows := by
  cases hr with
  | nil => exact .nil
  | hole hlt => exact .hole (Nat.lt_of_lt_of_le hlt hf.next)
  | cells hlt hg hrd hcap => exact .cells (Nat.lt_of_lt_of_le hlt hf.next) ((hf.get _ hlt (hd _ _ _ _ rfl)).trans hg) hrd hcap
theorem Row.drop {h : H} {sz : Nat} {v : Value} {rows : List (List Value)} (hr : Row h sz v rows) {k : Nat} (hk : k ≤ rows.length) : ∃ v', (∀ h', h'.next ≥ h.next → (∀ i, i < h.next → h'.get i = h.get i) → sliceV sz h' (some (.int .i64 (k : Int))) none v = some (v', h')) ∧ Row h sz v' (rows.drop k) ∧ ∀ b o n c, v' = .slice (some ⟨b, o, none⟩) n c → ∃ o' n' c', v = .slice (some ⟨b, o', none⟩) n' c' := by
  cases hr with
  | nil =>
    have : k = 0 := by simpa using hk
    subst this
    exact ⟨_, fun h' _ _ => rfl, .nil, fun _ _ _ _ e => by cases e⟩
  | @hole b off hlt =>
    have : k = 0 := by simpa using hk
    subst this
    exact ⟨.slice (some ⟨b, off, none⟩) 0 0, fun h' _ _ => rfl, .hole hlt, fun _ _ _ _ e => by cases e; exact ⟨_, _, _, rfl⟩⟩
  | @cells b off cap e cs rows hlt hg hrd hcap =>
    have hrd' : ∀ i r, (rows.drop k)[i]? = some r → takeC sz (dropN (off + k * sz + i * sz) cs) = some r := by
      intro i r hi
      rw [List.getElem?_drop] at hi
      have := hrd _ _ hi
      rwa [Nat.add_mul, ← Nat.add_assoc] at this
    have hlen : (rows.drop k).length = rows.length - k := List.length_drop ..
    have hkk : inB ((k : Nat) : Int) rows.length = some k := by show (if Nat.ble k rows.length = true then _ else _) = _; rw [if_pos (by simpa using hk)]
    rcases hcap with ⟨rfl, rfl, h0, hl⟩ | ⟨hne, hle⟩
    · refine ⟨.slice (some ⟨b, off + k * e, none⟩) (rows.length - k) openCap, fun h' _ hget => ?_, ?_, fun _ _ _ _ e => by cases e; exact ⟨_, _, _, rfl⟩⟩
      · unfold sliceV; dsimp only
        rw [if_pos (by simp), Option.bind_some]
        dsimp only
        rw [hget b hlt, hg, Option.bind_some]
        unfold sliceOpen; dsimp only
        rw [if_pos (by simp [h0])]
        simp only [boundV, Option.bind_some, hkk, Option.map_some]
      · rw [← hlen]
        refine .cells hlt hg hrd' (.inl ⟨rfl, rfl, h0, ?_⟩)
        rw [hlen, Nat.sub_mul]
        have : k * e ≤ rows.length * e := Nat.mul_le_mul_right _ hk
        omega
    · have hs : ∀ h' : H, sliceV sz h' (some (.int .i64 (k : Int))) none (.slice (some ⟨b, off, none⟩) rows.length cap) = some (.slice (if Nat.beq cap k then some ⟨b, off, none⟩ else some ⟨b, off + k * sz, none⟩) (rows.length - k) (cap - k), h') := by
        intro h'
        unfold sliceV; dsimp only
        rw [if_neg (by simp; omega)]
        simp only [boundV, Option.bind_some, hkk, Option.map_some]
      refine ⟨_, fun h' _ _ => hs h', ?_, fun _ _ _ _ e => by split at e <;> (cases e; exact ⟨_, _, _, rfl⟩)⟩
      rw [← hlen]
      by_cases e : cap = k
      · have hd : rows.drop k = [] := List.drop_eq_nil_of_le (by omega)
        rw [if_pos (by simpa using e)]
        refine .cells hlt hg (fun i r hi => ?_) (.inr ⟨?_, ?_⟩)
        · rw [hd] at hi; simp at hi
        · omega
        · rw [hlen]; omega
      · rw [if_neg (by simpa using e)]
        refine .cells hlt hg hrd' ?_
        exact .inr ⟨by omega, by rw [hlen]; omega⟩

/-- what a slice's value is good for. -/
structure SlV (v : Value) (n : Nat) : Prop where
  clean : clean1 v = true
  cell : isCell v = true
  cells : cellsL v = [v]
  take : takeC 1 [v] = some [v]
  one : oneOf [v] = some v
  eq : eqVal v v = true
  eqc : eqCell v v = true
  len : ∀ h, bltV h .len [v] = some (.int .i64 n, h)
theorem SlV.of (b : Option Addr) (n c : Nat) (h : ∀ a, b = some a → a.spot = none) : SlV (.slice b n c) n := by
  refine ⟨rfl, rfl, rfl, rfl, rfl, ?_, ?_, fun _ => rfl⟩
  · cases b with
    | none => simp
    | some a => obtain ⟨x, y, z⟩ := a; have := h _ rfl; simp only at this; subst this; simp
  · cases b with
    | none => simp
    | some a => obtain ⟨x, y, z⟩ := a; have := h _ rfl; simp only at this; subst this; simp
theorem Row.slv {h : H} {sz : Nat} {v : Value} {rows : List (List Value)} (hr : Row h sz v rows) : SlV v rows.length := by
  cases hr with
  | nil => exact .of _ _ _ nofun
  | hole => exact .of _ _ _ fun a e => by cases e; rfl
  | cells => exact .of _ _ _ fun a e => by cases e; rfl
theorem Row.slvM {α : Type} {h : H} {sz : Nat} {v : Value} {es : List α} {f : α → List Value} (hr : Row h sz v (es.map f)) : SlV v es.length := by
  have := hr.slv; rwa [List.length_map] at this

/-! ### The end of a range over a function -/
theorem rgP_ready {l : Nat} {h : H} {sl : Slots} {rc : RC} (hg : h.get l = some (.loop .ready none sl rc)) (kn : H → Option Out) (ke : Nat → H → Option Out) (kr : H → Option Out) : rgP l h kn ke kr = kn (h.put l (.loop .exhausted none sl rc)) := by
  unfold rgP; rw [hg]; rfl
theorem rgP_ret {l : Nat} {h : H} {sl : Slots} {rc : RC} (hg : h.get l = some (.loop .done (some .ret) sl rc)) (kn : H → Option Out) (ke : Nat → H → Option Out) (kr : H → Option Out) : rgP l h kn ke kr = kr (h.put l (.loop .exhausted (some .ret) sl rc)) := by
  unfold rgP; rw [hg]; rfl
theorem rgP_exit {l i : Nat} {h : H} {sl : Slots} {rc : RC} (hg : h.get l = some (.loop .done (some (.exit i)) sl rc)) (kn : H → Option Out) (ke : Nat → H → Option Out) (kr : H → Option Out) : rgP l h kn ke kr = ke i (h.put l (.loop .exhausted (some (.exit i)) sl rc)) := by
  unfold rgP; rw [hg]; rfl
theorem busyK_eq {l : Nat} {h : H} {p : Option CC} {sl : Slots} {rc : RC} (hg : h.get l = some (.loop .ready p sl rc)) (k : H → Option Out) : busyK l h k = k (h.put l (.loop .busy p sl rc)) := by
  unfold busyK; rw [hg]; rfl
theorem fin_none {l : Nat} {h : H} {st : LoopState} {p : Option CC} {sl : Slots} {rc : RC} (hg : h.get l = some (.loop st p sl rc)) : fin l none h = some (.val (.bool true) (h.put l (.loop .ready none sl rc))) := by
  unfold fin; rw [hg]; rfl
theorem fin_some {l : Nat} {h : H} {st : LoopState} {p : Option CC} {sl : Slots} {rc : RC} {q : CC} (hg : h.get l = some (.loop st p sl rc)) : fin l (some q) h = some (.val (.bool false) (h.put l (.loop .done (some q) sl rc))) := by
  unfold fin; rw [hg]; rfl
theorem isFn_func (g : FuncId) (a b : Array Value) : isFn (.func (.func g) a b) = some (.func (.func g) a b) := id rfl
theorem clean_func (f : Fn) (a b : Array Value) : clean1 (.func f a b) = true := id rfl
theorem cell_func (f : Fn) (a b : Array Value) : isCell (.func f a b) = true := id rfl
theorem cellsL_func (f : Fn) (a b : Array Value) : cellsL (.func f a b) = [.func f a b] := id rfl
theorem cellsL_ptr (a : Option Addr) : cellsL (.pointer a) = [.pointer a] := id rfl
theorem some_map_pair (v : Value) (h : H) : (some v).map (·, h) = some (v, h) := id rfl
theorem vExtract20 (a b : Value) (h : H) : vExtract 0 (.tuple #[a, b]) h = some (a, h) := id rfl
theorem vExtract21 (a b : Value) (h : H) : vExtract 1 (.tuple #[a, b]) h = some (b, h) := id rfl
theorem vExtract20' (a b : Value) (h : H) : vExtract 0 (.tuple ⟨[a, b]⟩) h = some (a, h) := id rfl
theorem vExtract21' (a b : Value) (h : H) : vExtract 1 (.tuple ⟨[a, b]⟩) h = some (b, h) := id rfl
theorem cons_get0 (a : Value) (l : List Value) : (a :: l)[0]? = some a := id rfl
theorem cons_get1 (a b : Value) (l : List Value) : (a :: b :: l)[1]? = some b := id rfl
theorem cons_get2 (a b c : Value) (l : List Value) : (a :: b :: c :: l)[2]? = some c := id rfl
theorem ite_nat_ne {α : Sort _} {a b : Nat} {x y : α} (h : a ≠ b) : (if a = b then x else y) = y := if_neg h
theorem takeC_int (n : Nat) (k : IntKind) (a : Int) (l : List Value) : takeC (n + 1) (.int k a :: l) = (takeC n l).map (.int k a :: ·) := takeC_s rfl
theorem takeC_bool (n : Nat) (b : Bool) (l : List Value) : takeC (n + 1) (.bool b :: l) = (takeC n l).map (.bool b :: ·) := takeC_s rfl
theorem takeC_sl (n : Nat) (a : Option Addr) (m c : Nat) (l : List Value) : takeC (n + 1) (.slice a m c :: l) = (takeC n l).map (.slice a m c :: ·) := takeC_s rfl
theorem takeC_ptr (n : Nat) (a : Option Addr) (l : List Value) : takeC (n + 1) (.pointer a :: l) = (takeC n l).map (.pointer a :: ·) := takeC_s rfl
theorem takeC_func (n : Nat) (f : Fn) (a b : Array Value) (l : List Value) : takeC (n + 1) (.func f a b :: l) = (takeC n l).map (.func f a b :: ·) := takeC_s rfl
theorem takeC_map (n : Nat) (m : Option Nat) (l : List Value) : takeC (n + 1) (.map m :: l) = (takeC n l).map (.map m :: ·) := takeC_s rfl
theorem clean_map (m : Option Nat) : clean1 (.map m) = true := id rfl
theorem cell_map (m : Option Nat) : isCell (.map m) = true := id rfl
theorem cellsL_map (m : Option Nat) : cellsL (.map m) = [.map m] := id rfl
attribute [simp] cons_get0 cons_get1 cons_get2 vExtract20 vExtract21 vExtract20' vExtract21' ite_nat_ne takeC_int takeC_bool takeC_sl takeC_ptr takeC_func takeC_map clean_map cell_map cellsL_map br_pos br_neg gdT_pos gdT_neg gdF_pos gdF_neg vPick_pos vPick_neg get_new_eq get_new_ne get_put_eq get_put_ne' new_put_eq put_put_eq isFn_func clean_func cell_func cellsL_func cellsL_ptr
end Go.Ideal
