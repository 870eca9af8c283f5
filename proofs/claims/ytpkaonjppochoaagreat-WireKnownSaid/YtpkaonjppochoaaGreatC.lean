/- A part of the proof: the ideal machine, and what the functions of the program answer over it. -/
import Derived.RowKit
import Derived.OpenShut
import Derived.WideKeyArgs
import Derived.ChangeSame
import Derived.Test.YtpkaonjppochoaaGreatB
set_option linter.unusedSimpArgs false
set_option linter.unusedVariables false
set_option linter.unusedSectionVars false
/- The ideal machine is sound. -/
namespace Go.Ideal
variable {P : Program}
/-! ### Nothing is taken back -/
theorem runOps_next {ih : IH} (hnx : ∀ t o, ih t = some o → nextT t ≤ nextO o) : ∀ {l : List CI} {s : Slots} {h : H} {o : Out}, runOps ih l s h = some o → h.next ≤ nextO o
  | [], s, h, o, hv => by rw [runOps_nil] at hv; cases hv; exact Nat.le_refl _
  | c :: l, s, h, o, hv => by
    rw [runOps_cons] at hv
    obtain ⟨y, hstep, hrest⟩ := aof hv
    obtain ⟨b, hb, hstep⟩ := aof hstep
    have h1 : h.next ≤ nextO y := by
      cases b with
      | true => exact doOpP_next hnx hstep
      | false => cases hstep; exact Nat.le_refl _
    refine Nat.le_trans h1 ?_
    cases y with
    | val v g => exact runOps_next hnx (show runOps ih l _ _ = some o from hrest)
    | pan _ _ _ => cases hrest; exact Nat.le_refl _
    | nrm _ _ => cases hrest
    | exit _ _ _ => cases hrest
    | ret _ _ => cases hrest
theorem drawOps_next {ih : IH} (hnx : ∀ t o, ih t = some o → nextT t ≤ nextO o) : ∀ {l : List CI} {bs : List (Nat × H)} {s : Slots} {h : H} {s' : Slots} {h' : H}, drawOps ih l bs s h = some (s', h') → h.next ≤ h'.next
  | [], bs, s, h, s', h', hv => by rw [drawOps_nil] at hv; cases hv; exact Nat.le_refl _
  | o :: l, bs, s, h, s', h', hv => by
    rw [drawOps_cons] at hv
    obtain ⟨⟨v, h1, bs1⟩, hstep, hrest⟩ := aof hv
    obtain ⟨b, hb, hstep⟩ := aof hstep
    refine Nat.le_trans ?_ (drawOps_next hnx hrest)
    cases b with
    | true =>
      simp only [drawDo] at hstep
      split at hstep
      · obtain ⟨x, hx, e⟩ := amf hstep; cases e; exact doOp_next hnx hx
      · split at hstep
        · cases bs with
          | nil => cases hstep
          | cons b0 bs =>
            obtain ⟨y, hy, hstep⟩ := aof hstep
            split at hstep
            · cases hstep; exact Nat.le_refl _
            · cases hstep
        · obtain ⟨x, hx, e⟩ := amf hstep; cases e; exact opV_next hx
    | false => cases hstep; exact Nat.le_refl _
theorem thenK_next {ih : IH} (hnx : ∀ t o, ih t = some o → nextT t ≤ nextO o) {L : List (List Bool)} {b : CC} {o o' : Out} (h : thenK ih L b o = some o') : nextO o ≤ nextO o' := by
  cases o with
  | nrm s h1 => exact hnx _ _ h
  | exit _ _ _ => cases h; exact Nat.le_refl _
  | ret _ _ => cases h; exact Nat.le_refl _
  | val _ _ => cases h; exact Nat.le_refl _
  | pan _ _ _ => cases h; exact Nat.le_refl _
theorem loopK_next {ih : IH} (hnx : ∀ t o, ih t = some o → nextT t ≤ nextO o) {L : List (List Bool)} {b : CC} {o o' : Out} (h : loopK ih L b o = some o') : nextO o ≤ nextO o' := by
  cases o with
  | nrm s h1 => exact hnx _ _ h
  | exit _ _ _ => cases h; exact Nat.le_refl _
  | ret _ _ => cases h; exact Nat.le_refl _
  | val _ _ => cases h; exact Nat.le_refl _
  | pan _ _ _ => cases h; exact Nat.le_refl _
theorem resOf_next {rs : List CR} {s : Slots} {h : H} {o : Out} (ho : resOf rs s h = some o) : nextO o = h.next := by
  obtain ⟨vs, hvs, rfl⟩ := amf ho; rfl
theorem pendK_next {s : Slots} {h : H} {p : Option CC} {o : Out} (ho : pendK s h p = some o) : nextO o = h.next := by
  unfold pendK at ho
  split at ho <;> cases ho <;> rfl

theorem codeStep_next {ih : IH} (hnx : ∀ t o, ih t = some o → nextT t ≤ nextO o) {c : CC} {s : Slots} {h : H} {o : Out} (hv : codeStep c ih s h = some o) : h.next ≤ nextO o := by
  cases c with
  | skip => cases hv; exact Nat.le_refl _
  | ops l => exact runOps_next hnx (show runOps ih l s h = some o from hv)
  | draw l => obtain ⟨⟨s', h'⟩, hr, e⟩ := amf hv; subst e; exact drawOps_next hnx hr
  | draw2 l x y =>
    obtain ⟨⟨s', h'⟩, hr, hv⟩ := aof hv
    obtain ⟨g, hg, e⟩ := amf hv
    subst e
    obtain ⟨_, _, _, _, _, _, _, _, n2⟩ := store2_spec hg
    have := drawOps_next hnx hr
    show h.next ≤ g.next
    rw [n2]; exact this
  | seq a L b => obtain ⟨o1, h1, h2⟩ := aof hv; exact Nat.le_trans (hnx _ _ h1) (thenK_next hnx h2)
  | cond x a b => obtain ⟨u, hu, hv⟩ := aof hv; obtain ⟨y, hy, hv⟩ := aof hv; exact hnx _ _ hv
  | block i b =>
    obtain ⟨o1, h1, e⟩ := amf hv
    have := hnx _ _ h1
    subst e
    cases o1 with
    | exit j s' h' =>
      simp only [blockK]
      split <;> exact this
    | nrm _ _ => exact this
    | ret _ _ => exact this
    | val _ _ => exact this
    | pan _ _ _ => exact this
  | loop L b => obtain ⟨o1, h1, h2⟩ := aof hv; exact Nat.le_trans (hnx _ _ h1) (loopK_next hnx h2)
  | rangeFunc rid L f ps as b =>
    obtain ⟨u, hu, hv⟩ := aof hv
    obtain ⟨g, hg, hv⟩ := aof hv
    obtain ⟨o1, ho1, hv⟩ := aof hv
    obtain ⟨⟨v1, h1⟩, hval, hv⟩ := aof hv
    obtain ⟨lo, hlo, hv⟩ := aof hv
    have h2 := hnx _ _ ho1
    cases o1 with
    | val v0 g0 =>
      simp only [valOf, Option.some.injEq, Prod.mk.injEq] at hval
      obtain ⟨-, rfl⟩ := hval
      have h3 : h.next + 1 ≤ g0.next := h2
      have : nextO o = g0.next := by
        unfold rangeEnd at hv
        split at hv
        · have := pendK_next hv; exact this
        · have := pendK_next hv; exact this
        · cases hv
      omega
    | nrm _ _ => cases hval
    | exit _ _ _ => cases hval
    | ret _ _ => cases hval
    | pan _ _ _ => cases hval
  | exit i => cases hv; exact Nat.le_refl _
  | ret => cases hv; exact Nat.le_refl _

theorem finRound_next {l : Nat} {o o' : Out} (h : finRound l o = some o') : nextO o = nextO o' := by
  have fin : ∀ {p : Option CC} {g : H} {lo : IObj}, finObj l p g lo = some o' → g.next = nextO o' := by
    intro p g lo hf
    cases lo with
    | loop _ _ _ _ => cases hf; rfl
    | cells _ _ => cases hf
    | map _ _ => cases hf
    | dead => cases hf
    | glob _ _ => cases hf
  cases o with
  | nrm s g => obtain ⟨lo, -, hf⟩ := aof h; exact fin hf
  | exit i s g => obtain ⟨lo, -, hf⟩ := aof h; exact fin hf
  | ret s g => obtain ⟨lo, -, hf⟩ := aof h; exact fin hf
  | val _ _ => cases h
  | pan _ _ _ => cases h

theorem resK1_next {rs : List CR} {s : Slots} {o x : Out} (h : resK1 rs s o = some x) : nextO x = nextO o := by
  cases o with
  | val v g => exact resOf_next h
  | nrm _ _ => cases h
  | exit _ _ _ => cases h
  | ret _ _ => cases h
  | pan _ _ _ => cases h
theorem doneK_next {ih : IH} (hnx : ∀ t o, ih t = some o → nextT t ≤ nextO o) {f : Value} {args : List Value} {rs : List CR} {o x : Out} (hv : doneK ih f args rs o = some x) : nextO o ≤ nextO x := by
  cases o with
  | nrm s h => obtain ⟨o1, h1, h2⟩ := aof hv; rw [resK1_next h2]; exact hnx _ _ h1
  | ret s h => obtain ⟨o1, h1, h2⟩ := aof hv; rw [resK1_next h2]; exact hnx _ _ h1
  | pan v s h => obtain ⟨o1, h1, h2⟩ := aof hv; rw [resK1_next h2]; exact hnx _ _ h1
  | exit _ _ _ => cases hv
  | val _ _ => cases hv
theorem bodyK_next {ih : IH} (hnx : ∀ t o, ih t = some o → nextT t ≤ nextO o) {rs : List CR} {d : Option Dfr} {o x : Out} (hv : bodyK ih rs d o = some x) : nextO o ≤ nextO x := by
  cases d with
  | none =>
    cases o with
    | nrm s g => exact Nat.le_of_eq (resOf_next hv).symm
    | ret s g => exact Nat.le_of_eq (resOf_next hv).symm
    | pan v s g => cases hv; exact Nat.le_refl _
    | exit _ _ _ => cases hv
    | val _ _ => cases hv
  | some d =>
    cases o with
    | nrm s h =>
      obtain ⟨f, h1, hv⟩ := aof (show (d.f.ev s).bind _ = some x from hv)
      obtain ⟨f', h2, hv⟩ := aof hv
      obtain ⟨l, h3, hv⟩ := aof hv
      obtain ⟨o1, h4, hv⟩ := aof hv
      exact Nat.le_trans (hnx _ _ h4) (doneK_next hnx hv)
    | pan _ _ _ => cases hv; exact Nat.le_refl _
    | ret _ _ => cases hv
    | exit _ _ _ => cases hv
    | val _ _ => cases hv
theorem handOps_next : ∀ {l : List CI} {p : Option Value} {s : Slots} {h : H} {x : Option Value × Slots × H}, handOps l p s h = some x → h.next ≤ x.2.2.next
  | [], p, s, h, x, hv => by rw [handOps_nil] at hv; cases hv; exact Nat.le_refl _
  | o :: l, p, s, h, x, hv => by
    rw [handOps_cons] at hv
    obtain ⟨b, hb, hv⟩ := aof hv
    cases b with
    | true =>
      have hv : handOp o (handOps l) p s h = some x := hv
      unfold handOp at hv
      split at hv
      · exact handOps_next hv
      · obtain ⟨y, hy, hv⟩ := aof hv
        exact Nat.le_trans (opV_next hy) (handOps_next hv)
    | false => exact handOps_next (show handOps l p _ h = some x from hv)
theorem handStep_next {F : FuncId → Option CFunc} {ih : IH} (hnx : ∀ t o, ih t = some o → nextT t ≤ nextO o) {f : Value} {args : List Value} {p : Option Value} {h : H} {o : Out} (hv : handStep F ih args p h f = some o) : h.next ≤ nextO o := by
  unfold handStep at hv
  split at hv
  · obtain ⟨cf, hcf, hv⟩ := aof hv
    unfold runHand at hv
    split at hv
    · split at hv
      · unfold handBody at hv
        split at hv
        · rename_i l L b hbd
          obtain ⟨⟨px, sx, gx⟩, hx, hv⟩ := aof hv
          cases px with
          | some _ => cases hv
          | none =>
            obtain ⟨o1, h1, hv⟩ := aof (show (ih (.code b (keepA L sx) gx)).bind _ = some o from hv)
            have h2 := handOps_next hx
            have h3 := hnx _ _ h1
            cases o1 with
            | nrm s g => rw [resOf_next hv]; exact Nat.le_trans h2 h3
            | ret s g => rw [resOf_next hv]; exact Nat.le_trans h2 h3
            | exit _ _ _ => cases hv
            | val _ _ => cases hv
            | pan _ _ _ => cases hv
        · cases hv
      · cases hv
    · cases hv
  · cases hv

theorem callStep_next {F : FuncId → Option CFunc} {ih : IH} (hnx : ∀ t o, ih t = some o → nextT t ≤ nextO o) {f : Value} {args : List Value} {h : H} {o : Out} (hv : callStep F ih args h f = some o) : h.next ≤ nextO o := by
  unfold callStep at hv
  split at hv
  · obtain ⟨cf, hcf, hv⟩ := aof hv
    have wk : ∀ l, walkFunc ih cf l h = some o → h.next ≤ nextO o := by
      intro l hv
      unfold walkFunc at hv
      split at hv
      · obtain ⟨o1, ho1, hret⟩ := aof hv
        exact Nat.le_trans (hnx _ _ ho1) (bodyK_next hnx hret)
      · cases hv
    unfold runFunc at hv
    split at hv
    · exact wk _ hv
    · split at hv
      · unfold primOut at hv
        split at hv
        · rename_i hle; cases hv; exact Nat.le_of_ble_eq_true hle
        · cases hv
      · exact wk _ hv
  · split at hv
    · obtain ⟨lo, hlo, hv⟩ := aof hv
      cases lo with
      | loop st pend sl rc =>
        obtain ⟨s0, hs0, hv⟩ := aof hv
        obtain ⟨o1, ho1, hv⟩ := aof hv
        have h1 := hnx _ _ ho1
        cases o1 with
        | nrm s g =>
          obtain ⟨lo1, hlo1, hv⟩ := aof hv
          cases lo1 with
          | loop st1 pend1 sl1 rc1 =>
            cases st1 <;> simp only [roundBody, reduceCtorEq] at hv
            obtain ⟨o2, ho2, hfin⟩ := aof hv
            have h2 := hnx _ _ ho2
            rw [← finRound_next hfin]
            exact Nat.le_trans h1 h2
          | cells _ _ => cases hv
          | map _ _ => cases hv
          | dead => cases hv
          | glob _ _ => cases hv
        | exit _ _ _ => cases hv
        | ret _ _ => cases hv
        | val _ _ => cases hv
        | pan _ _ _ => cases hv
      | cells _ _ => cases hv
      | map _ _ => cases hv
      | dead => cases hv
      | glob _ _ => cases hv
    · cases hv
  · cases hv

theorem E_next {F : FuncId → Option CFunc} : ∀ (n : Nat) (t : Task) (o : Out), E F n t = some o → nextT t ≤ nextO o
  | 0, t, o, h => by cases h
  | n + 1, t, o, h => by
    cases t with
    | code c s g => exact codeStep_next (E_next n) (show codeStep c (E F n) s g = some o from h)
    | call f args g => exact callStep_next (E_next n) (show callStep F (E F n) args g f = some o from h)
    | hand f args p g => exact handStep_next (E_next n) (show handStep F (E F n) args p g f = some o from h)

/-! ### Code -/
section
theorem stuckC_none {ih : IH} {c : CC} {s : Slots} {h : H} (hc : stuckC = strip c) : codeStep c ih s h = none := by
  obtain ⟨a, b, rfl, -, -⟩ := strip_cond hc
  rfl
theorem codeStep_sound {ih : IH} {M : Nat} (hih : ∀ t o, ih t = some o → Sound P M t o) (hmix : P.follows .mixedOrders = true) (hnx : ∀ t o, ih t = some o → nextT t ≤ nextO o) : ∀ (code : Code) (c : CC) (N : Nat), compileCode P N code = some (strip c) → ∀ (s : Slots) (h : H) (o : Out), codeStep c ih s h = some o →
    ∀ (r : Option Nat) (ρ : Rho) (a : Act) (w : World) (Ds : List Nat) (Db : List Deferred), RoundOk r w → a.tmps.size = N → SR ρ s a.tmps → HR P ρ h w → a.defers = Ds.map markOf ++ Db → DefOk ρ w Ds → CodeOk P (M + 1) r (CPost P ρ w N Ds Db o) a w code
  | .skip, c, N, hc, s, h, o, hv, r, ρ, a, w, Ds, Db, hR, hN, hs, hr, hd, hD => by
    obtain rfl := strip_skip (Option.some.inj hc); cases hv
    exact wpIn_skip ⟨ρ, Ds, s, h, .refl _ _, hN, hd, ⟨hD, fun D h => .inl h⟩, hs, hr, .inl ⟨rfl, rfl⟩⟩
  | .label l, c, N, hc, s, h, o, hv, r, ρ, a, w, Ds, Db, hR, hN, hs, hr, hd, hD => by
    obtain rfl := strip_skip (Option.some.inj hc); cases hv
    exact wpIn_label ⟨ρ, Ds, s, h, .refl _ _, hN, hd, ⟨hD, fun D h => .inl h⟩, hs, hr, .inl ⟨rfl, rfl⟩⟩
  | .exit i, c, N, hc, s, h, o, hv, r, ρ, a, w, Ds, Db, hR, hN, hs, hr, hd, hD => by
    obtain rfl := strip_exit (Option.some.inj hc); cases hv
    exact wpIn_exit ⟨ρ, Ds, s, h, .refl _ _, hN, hd, ⟨hD, fun D h => .inl h⟩, hs, hr, .inr (.inl ⟨i, rfl, rfl⟩)⟩
  | .ret, c, N, hc, s, h, o, hv, r, ρ, a, w, Ds, Db, hR, hN, hs, hr, hd, hD => by
    obtain rfl := strip_ret (Option.some.inj hc); cases hv
    exact wpIn_ret ⟨ρ, Ds, s, h, .refl _ _, hN, hd, ⟨hD, fun D h => .inl h⟩, hs, hr, .inr (.inr (.inl ⟨rfl, rfl⟩))⟩
  | .goto l, c, N, hc, s, h, o, hv, _, _, _, _, _, _, _, _, _, _, _, _ => by rw [stuckC_none (Option.some.inj hc)] at hv; cases hv
  | .refuse l, c, N, hc, s, h, o, hv, _, _, _, _, _, _, _, _, _, _, _, _ => by rw [stuckC_none (Option.some.inj hc)] at hv; cases hv
  | .scope b, c, N, hc, s, h, o, hv, r, ρ, a, w, Ds, Db, hR, hN, hs, hr, hd, hD => by
    have := (codeStep_sound hih hmix hnx b c N hc s h o hv r ρ a w Ds Db hR hN hs hr hd hD).wpIn
    exact wpIn_scope this (fun l a w h => by
      obtain ⟨_, _, _, _, _, _, _, _, _, _, h⟩ := h
      rcases h with ⟨_, h⟩ | ⟨_, _, h⟩ | ⟨_, h⟩ | ⟨_, _, _, _, h⟩ <;> cases h)
  | .region id ops d, c, N, hc, s, h, o, hv, r, ρ, a, w, Ds, Db, hR, hN, hs, hr, hd, hD => by
    obtain ⟨l, hl, hc⟩ := aof hc
    cases d with
    | false =>
      obtain rfl := strip_ops (Option.some.inj hc)
      exact wpIn_region (ops_wpIn hih r hl (show runOps ih l s h = some o from hv) hr hs hN hd hD)
    | true =>
      have hc : some ((if ops.toList.zipIdx.all (fun x => (x.1.after.toList.filter (Region.binds .any)).all fun e => Nat.blt e.on x.2) then drawIn (ancs ops.toList) l else none).getD stuckC) = some (strip c) := hc
      have hc : (if ops.toList.zipIdx.all (fun x => (x.1.after.toList.filter (Region.binds .any)).all fun e => Nat.blt e.on x.2) then drawIn (ancs ops.toList) l else none) = some (strip c) := by
        generalize hd : (if ops.toList.zipIdx.all (fun x => (x.1.after.toList.filter (Region.binds .any)).all fun e => Nat.blt e.on x.2) then drawIn (ancs ops.toList) l else none) = dd at hc
        cases dd with
        | some x => exact hc
        | none => rw [stuckC_none (Option.some.inj hc)] at hv; cases hv
      split at hc
      · rename_i hbk
        have e : strip c = c := by
          rcases drawIn_some hc with ⟨l', order, e, -⟩ | ⟨l', order, x, y, c', d, rest, e, -⟩
          · rw [strip_draw e.symm]; rfl
          · rw [strip_draw2 e.symm]; rfl
        rw [e] at hc
        exact draw_sound hmix hih hnx hl hbk hc hv hN hs hr hd hD
      · cases hc
  | .seq x y, c, N, hc, s, h, o, hv, r, ρ, a, w, Ds, Db, hR, hN, hs, hr, hd, hD => by
    obtain ⟨cx, hx, hc⟩ := aof hc
    obtain ⟨cy, hy, hc⟩ := amf hc
    obtain ⟨ca, L, cb, rfl, rfl, rfl⟩ := strip_seq hc
    obtain ⟨o1, h1, h2⟩ := aof hv
    refine wpIn_seq (wpIn_mono ((hih _ _ h1 x N hx r ρ a w Ds Db hR hN hs hr hd hD).wpIn) ?_)
    rintro e a1 w1 ⟨σ, Ds1, s1, hh1, he, hN1, hd1, ⟨hD1, hds1⟩, hs1, hr1, hcase⟩
    rcases hcase with ⟨rfl, rfl⟩ | ⟨i, rfl, rfl⟩ | ⟨rfl, rfl⟩ | ⟨pv, pv', rfl, hpv, rfl⟩
    · exact wpIn_mono ((hih _ _ h2 y N hy r σ a1 w1 Ds1 Db (hR.ext he) hN1 (hs1.keep L) hr1 hd1 hD1).wpIn) (fun e a2 w2 h => h.ext he hds1)
    · cases h2; exact ⟨σ, Ds1, s1, hh1, he, hN1, hd1, ⟨hD1, hds1⟩, hs1, hr1, .inr (.inl ⟨i, rfl, rfl⟩)⟩
    · cases h2; exact ⟨σ, Ds1, s1, hh1, he, hN1, hd1, ⟨hD1, hds1⟩, hs1, hr1, .inr (.inr (.inl ⟨rfl, rfl⟩))⟩
    · cases h2; exact ⟨σ, Ds1, s1, hh1, he, hN1, hd1, ⟨hD1, hds1⟩, hs1, hr1, .inr (.inr (.inr ⟨pv, pv', rfl, hpv, rfl⟩))⟩
  | .cond x y z, c, N, hc, s, h, o, hv, r, ρ, a, w, Ds, Db, hR, hN, hs, hr, hd, hD => by
    obtain ⟨cx, hx, hc⟩ := aof hc
    obtain ⟨cy, hy, hc⟩ := aof hc
    obtain ⟨cz, hz, hc⟩ := amf hc
    obtain ⟨ca, cb, rfl, rfl, rfl⟩ := strip_cond hc
    obtain ⟨u, hu, hv⟩ := aof hv
    obtain ⟨cc, hcc, hv⟩ := aof hv
    have hxv := co_ev hx hs hu
    unfold condV at hcc
    split at hcc
    · cases hcc
      exact wpIn_cond_true hxv.inv_bool ((hih _ _ hv y N hy r ρ a w Ds Db hR hN hs hr hd hD).wpIn)
    · cases hcc
      exact wpIn_cond_false hxv.inv_bool ((hih _ _ hv z N hz r ρ a w Ds Db hR hN hs hr hd hD).wpIn)
    · cases hcc
  | .block id b, c, N, hc, s, h, o, hv, r, ρ, a, w, Ds, Db, hR, hN, hs, hr, hd, hD => by
    obtain ⟨cb, hb, hc⟩ := amf hc
    obtain ⟨ca, rfl, rfl⟩ := strip_block hc
    obtain ⟨o1, h1, rfl⟩ := amf hv
    refine wpIn_block (wpIn_mono ((hih _ _ h1 b N hb r ρ a w Ds Db hR hN hs hr hd hD).wpIn) ?_)
    rintro e a1 w1 ⟨σ, Ds1, s1, hh1, he, hN1, hd1, ⟨hD1, hds1⟩, hs1, hr1, hcase⟩
    rcases hcase with ⟨rfl, rfl⟩ | ⟨i, rfl, rfl⟩ | ⟨rfl, rfl⟩ | ⟨pv, pv', rfl, hpv, rfl⟩
    · exact ⟨σ, Ds1, s1, hh1, he, hN1, hd1, ⟨hD1, hds1⟩, hs1, hr1, .inl ⟨rfl, rfl⟩⟩
    · by_cases hid : i = id
      · subst hid
        simp only [Exit.inBlock, if_true, blockK, Nat.beq_refl]
        exact ⟨σ, Ds1, s1, hh1, he, hN1, hd1, ⟨hD1, hds1⟩, hs1, hr1, .inl ⟨rfl, rfl⟩⟩
      · have : Nat.beq i id = false := by
          cases h : Nat.beq i id with
          | false => rfl
          | true => exact absurd (Nat.eq_of_beq_eq_true h) hid
        simp only [Exit.inBlock, if_neg hid, blockK, this]
        exact ⟨σ, Ds1, s1, hh1, he, hN1, hd1, ⟨hD1, hds1⟩, hs1, hr1, .inr (.inl ⟨i, rfl, rfl⟩)⟩
    · exact ⟨σ, Ds1, s1, hh1, he, hN1, hd1, ⟨hD1, hds1⟩, hs1, hr1, .inr (.inr (.inl ⟨rfl, rfl⟩))⟩
    · exact ⟨σ, Ds1, s1, hh1, he, hN1, hd1, ⟨hD1, hds1⟩, hs1, hr1, .inr (.inr (.inr ⟨pv, pv', rfl, hpv, rfl⟩))⟩
  | .loop b, c, N, hc, s, h, o, hv, r, ρ, a, w, Ds, Db, hR, hN, hs, hr, hd, hD => by
    obtain ⟨cb, hb, hc⟩ := amf hc
    obtain ⟨L, ca, rfl, rfl⟩ := strip_loop hc
    obtain ⟨o1, h1, h2⟩ := aof hv
    show Code.roundsIn (Wf r) 0 P b _ (M + 1) a w
    rw [roundsIn_succ]
    refine wpIn_mono ((hih _ _ h1 b N hb r ρ a w Ds Db hR hN (hs.keep L) hr hd hD).wpIn) ?_
    rintro e a1 w1 ⟨σ, Ds1, s1, hh1, he, hN1, hd1, ⟨hD1, hds1⟩, hs1, hr1, hcase⟩
    rcases hcase with ⟨rfl, rfl⟩ | ⟨i, rfl, rfl⟩ | ⟨rfl, rfl⟩ | ⟨pv, pv', rfl, hpv, rfl⟩
    · have hl : CodeOk P M r (CPost P σ w1 N Ds1 Db o) a1 w1 (.loop b) := hih _ _ h2 (.loop b) N (by simp [compileCode, hb, strip]) r σ a1 w1 Ds1 Db (hR.ext he) hN1 hs1 hr1 hd1 hD1
      exact rounds_mono (fun e a2 w2 h => h.ext he hds1) M a1 w1 hl
    · cases h2; exact ⟨σ, Ds1, s1, hh1, he, hN1, hd1, ⟨hD1, hds1⟩, hs1, hr1, .inr (.inl ⟨i, rfl, rfl⟩)⟩
    · cases h2; exact ⟨σ, Ds1, s1, hh1, he, hN1, hd1, ⟨hD1, hds1⟩, hs1, hr1, .inr (.inr (.inl ⟨rfl, rfl⟩))⟩
    · cases h2; exact ⟨σ, Ds1, s1, hh1, he, hN1, hd1, ⟨hD1, hds1⟩, hs1, hr1, .inr (.inr (.inr ⟨pv, pv', rfl, hpv, rfl⟩))⟩
  | .rangeFunc f ps as b, c, N, hc, s, h, o, hv, r, ρ, a, w, Ds, Db, hR, hN, hs, hr, hd, hD => by
    unfold compileCode at hc
    split at hc
    · rename_i hps
      obtain ⟨cf, hf, hc⟩ := aof hc
      obtain ⟨cas, has, hc⟩ := aof hc
      obtain ⟨cb, hb, hc⟩ := amf hc
      obtain ⟨rid, L, ca, cb', rfl, rfl, rfl⟩ := strip_range hc
      exact range_sound hih hps hf has hb hv hR hN hs hr hd hD
    · cases hc
end

/-- WHAT THE IDEAL MACHINE RETURNS THE GIVEN ONE RETURNS. -/
theorem E_sound {F : FuncId → Option CFunc} (hmix : P.follows .mixedOrders = true) (hF : ∀ g cf, F g = some cf → FnOk P g cf) : ∀ (n : Nat) (t : Task) (o : Out), E F n t = some o → Sound P n t o
  | 0, t, o, h => by cases h
  | n + 1, t, o, h => by
    have hih := E_sound hmix hF n
    cases t with
    | code c s g =>
      intro code N hc r ρ a w Ds Db hR hN hs hr hd hD
      exact codeStep_sound hih hmix (E_next n) code c N hc s g o (show codeStep c (E F n) s g = some o from h) r ρ a w Ds Db hR hN hs hr hd hD
    | call f args g =>
      refine call_sound hF (E_dec n) (fun b s h o he => ?_) hih (show callStep F (E F n) args g f = some o from h)
      cases n with
      | zero => cases he
      | succ n => exact (Option.some.inj he).symm
    | hand f args p g => exact hand_task hF hih (show handStep F (E F n) args p g f = some o from h)

/-- a call of a function by its number. -/
theorem calls_of_E {F : FuncId → Option CFunc} (hmix : P.follows .mixedOrders = true) (hF : ∀ g cf, F g = some cf → FnOk P g cf) {n : Nat} {g : FuncId} {args : List Value} {h h' : H} {v : Value}
    (he : E F n (.call (.func (.func g) #[] #[]) args h) = some (.val v h')) {ρ : Rho} {args' : Array Value} {w : World} (ra : VRL ρ args args'.toList) (hr : HR P ρ h w) :
    Calls P g args' w fun e w' => ∃ v' σ, e = .returned v' ∧ VR σ v v' ∧ HR P σ h' w' ∧ Ext ρ w σ w' := by
  have hs := E_sound hmix hF n _ _ he ρ (.func (.func g) #[] #[]) args' w (.func g rfl rfl (by simp) (by simp)) ra hr
  have hc := callsIn_wide.1 hs.1
  simp only [Array.empty_append, Array.append_empty] at hc
  refine hc.mono ?_
  intro e w' hpp
  obtain ⟨v0, h0, v', σ, e1, e2, q1, q2, q3⟩ := hpp.val
  cases e1
  exact ⟨v', σ, e2, q1, q2, q3⟩
end Go.Ideal
/- From the ideal machine to the given statements: the world that a law is called in, as the ideal machine sees it; what the law's answer leaves. -/
namespace Go.Ideal
noncomputable section
variable {P : Program}

/-! ### The world as the ideal machine sees it -/
def isCells (W : World) (b : Nat) : Bool := match W.heap[b]? with
  | some (.cells _ _ _) => true
  | _ => false
def okV (W : World) : Value → Bool
  | .bool _ => true
  | .int _ _ => true
  | .string _ => true
  | .nilFunc => true
  | .pointer none => true
  | .map none => true
  | .slice none 0 0 => true
  | .slice (some a) len cap => a.spot.isNone && (decide (len ≤ cap) && (decide (cap < openCap) && isCells W a.block))
  | .pointer (some a) => a.spot.isNone && isCells W a.block
  | _ => false
/-- a slice without room that points nowhere. -/
def isDang : Value → Bool
  | .slice (some _) 0 0 => true
  | _ => false
/-- what stands for it. -/
def dang (W : World) : Value := .slice (some ⟨W.heap.size, 0, none⟩) 0 0
def impV (W : World) (v : Value) : Value := if okV W v then v else if isDang v then dang W else poison
def impObj (W : World) : Obj → Option IObj
  | .cells c _ _ => some (.cells (c.toList.map (impV W)) roE)
  | _ => none
open Classical in
/-- the block that is said to be where such a slice points. -/
def dangR (W : World) : Option RB := if h : ∃ b, isCells W b = true then some ⟨Classical.choose h, 0, 0, 0, 1, none⟩ else none
def impRho (W : World) (i : Nat) : Option RB := if i = W.heap.size then dangR W else (W.heap[i]?).bind fun o => match o with
  | .cells c _ _ => some ⟨i, 0, c.size, roE, c.size, some o⟩
  | _ => none
def impMem (W : World) (n : Nat) : PT IObj := Nat.rec (motive := fun _ => PT IObj) .nil (fun i t => match (W.heap[i]?).bind (impObj W) with | some o => t.set (bits i) o | none => t) n
def impH (W : World) : H := ⟨W.heap.size + 1, impMem W W.heap.size⟩

theorem impMem_get (W : World) : ∀ (n j : Nat), (impMem W n).get (bits j) = if j < n then (W.heap[j]?).bind (impObj W) else none
  | 0, j => by rw [if_neg (by omega)]; exact PT.get_nil _
  | n + 1, j => by
    have e : impMem W (n + 1) = match (W.heap[n]?).bind (impObj W) with | some o => (impMem W n).set (bits n) o | none => impMem W n := rfl
    rw [e]
    cases ho : (W.heap[n]?).bind (impObj W) with
    | none =>
      rw [impMem_get W n j]
      by_cases h : j < n
      · rw [if_pos h, if_pos (by omega)]
      · rw [if_neg h]
        by_cases e : j = n
        · subst e; rw [if_pos (by omega), ho]
        · rw [if_neg (by omega)]
    | some o =>
      dsimp only
      rw [PT.get_set_bits, impMem_get W n j]
      by_cases e : n = j
      · subst e; rw [if_pos rfl, if_pos (by omega), ho]
      · rw [if_neg e]
        by_cases h : j < n
        · rw [if_pos h, if_pos (by omega)]
        · rw [if_neg h, if_neg (by omega)]
theorem impH_get (W : World) (j : Nat) : (impH W).get j = (W.heap[j]?).bind (impObj W) := by
  show (impMem W W.heap.size).get (bits j) = _
  rw [impMem_get]
  by_cases h : j < W.heap.size
  · rw [if_pos h]
  · rw [if_neg h, Array.getElem?_eq_none (by omega)]; rfl
theorem impH_cells {W : World} {b : Nat} {c : Array Value} {t : TypeId} {fr : Nat × Nat} (h : W.heap[b]? = some (.cells c t fr)) : (impH W).get b = some (.cells (c.toList.map (impV W)) roE) := by rw [impH_get, h]; rfl
theorem impH_next (W : World) : (impH W).next = W.heap.size + 1 := rfl

theorem isCells_lt {W : World} {b : Nat} (h : isCells W b = true) : b < W.heap.size := by
  unfold isCells at h
  split at h
  · rename_i hb; exact (Array.getElem?_eq_some_iff.1 hb).1
  · cases h
theorem impRho_lt {W : World} {i : Nat} (h : i < W.heap.size) : impRho W i = (W.heap[i]?).bind fun o => match o with | .cells c _ _ => some ⟨i, 0, c.size, roE, c.size, some o⟩ | _ => none := by
  unfold impRho; rw [if_neg (by omega)]
theorem impRho_cells {W : World} {b : Nat} (h : isCells W b = true) : ∃ R, impRho W b = some R ∧ R.blk = b ∧ R.base = 0 := by
  have hlt := isCells_lt h
  unfold isCells at h
  split at h
  · rename_i c t fr hb
    exact ⟨_, by rw [impRho_lt hlt, hb]; rfl, rfl, rfl⟩
  · cases h
theorem okV_rel {W : World} {v : Value} (h : okV W v = true) : VR (impRho W) v v := by
  unfold okV at h
  split at h
  · exact .bool _
  · exact .int _ _
  · exact .str _
  · exact .nilFunc
  · exact .ptrNil
  · exact .mapNil
  · exact .sliceNil
  · rename_i a len cap
    simp only [Bool.and_eq_true, Option.isNone_iff_eq_none, decide_eq_true_eq] at h
    obtain ⟨h1, h2, h3, h4⟩ := h
    obtain ⟨R, hR, hb, h0⟩ := impRho_cells h4
    obtain ⟨b, o, sp⟩ := a
    simp only at h1 hR hb
    subst h1
    have := VR.slice (o := o) (len := len) hR h3 h2
    rw [hb, h0, Nat.zero_add] at this
    exact this
  · rename_i a
    simp only [Bool.and_eq_true, Option.isNone_iff_eq_none] at h
    obtain ⟨h1, h4⟩ := h
    obtain ⟨R, hR, hb, h0⟩ := impRho_cells h4
    obtain ⟨b, o, sp⟩ := a
    simp only at h1 hR hb
    subst h1
    have := VR.ptr (o := o) hR
    rw [hb, h0, Nat.zero_add] at this
    exact this
  · cases h

theorem impRho_some {W : World} {i : Nat} {R : RB} (h : impRho W i = some R) : (i ≠ W.heap.size ∧ ∃ c t fr, W.heap[i]? = some (.cells c t fr) ∧ R = ⟨i, 0, c.size, roE, c.size, some (.cells c t fr)⟩) ∨ (i = W.heap.size ∧ isCells W R.blk = true) := by
  unfold impRho at h
  split at h
  · rename_i e
    refine .inr ⟨e, ?_⟩
    unfold dangR at h
    split at h
    · rename_i hx; cases h; exact Classical.choose_spec hx
    · cases h
  · rename_i e
    obtain ⟨o, ho, h⟩ := aof h
    cases o with
    | cells c t fr => cases h; exact .inl ⟨e, c, t, fr, ho, rfl⟩
    | _ => cases h
theorem impRho_obj {W : World} {i : Nat} {R : RB} {o : IObj} (h : impRho W i = some R) (ho : (impH W).get i = some o) : ∃ c t fr, W.heap[i]? = some (.cells c t fr) ∧ R = ⟨i, 0, c.size, roE, c.size, some (.cells c t fr)⟩ := by
  rcases impRho_some h with ⟨-, h⟩ | ⟨rfl, -⟩
  · exact h
  · rw [impH_get, Array.getElem?_eq_none (Nat.le_refl _)] at ho; cases ho
/-- a slice without room that points nowhere. -/
theorem dang_rel {W : World} {v : Value} {b : Nat} (hb : isCells W b = true) (h : isDang v = true) : VR (impRho W) (dang W) v := by
  unfold isDang at h
  split at h
  · refine .sliceD (R := ⟨Classical.choose (⟨b, hb⟩ : ∃ b, isCells W b = true), 0, 0, 0, 1, none⟩) ?_ (by show 0 < 1; omega)
    unfold impRho; rw [if_pos rfl]; unfold dangR; rw [dif_pos ⟨b, hb⟩]
  · cases h

theorem imp_HR (W : World) : HR P (impRho W) (impH W) W where
  obj := fun i R o hi ho => by
    obtain ⟨c, t, fr, hb, rfl⟩ := impRho_obj hi ho
    rw [impH_cells hb] at ho; cases ho
    refine ⟨rfl, by simp, c, t, fr, hb, .inr ⟨rfl, rfl⟩, rfl, by simp, fun j v hj => ?_⟩
    rw [List.getElem?_map] at hj
    obtain ⟨x, hx, rfl⟩ := Option.map_eq_some_iff.1 hj
    refine ⟨x, by rw [Array.getElem?_toList] at hx; simpa using hx, ?_⟩
    unfold impV
    by_cases hok : okV W x = true
    · rw [if_pos hok]; exact .inr (okV_rel hok)
    · rw [if_neg hok]
      by_cases hd : isDang x = true
      · rw [if_pos hd]; exact .inr (dang_rel (b := i) (by unfold isCells; rw [hb]) hd)
      · rw [if_neg hd]; exact .inl rfl
  nxt := fun i hi => by
    have hi' : W.heap.size + 1 ≤ i := hi
    have hn : W.heap[i]? = none := Array.getElem?_eq_none (by omega)
    exact ⟨by unfold impRho; rw [if_neg (by omega), hn]; rfl, by rw [impH_get, hn]; rfl⟩
  sep := fun i j R S hi hj ai aj e => by
    obtain ⟨o, ho, -⟩ := ai
    obtain ⟨o', ho', -⟩ := aj
    obtain ⟨_, _, _, _, rfl⟩ := impRho_obj hi ho
    obtain ⟨_, _, _, _, rfl⟩ := impRho_obj hj ho'
    exact e
  blk := fun i R hi => by
    rcases impRho_some hi with ⟨-, _, _, _, hb, rfl⟩ | ⟨-, hc⟩
    · exact (Array.getElem?_eq_some_iff.1 hb).1
    · exact isCells_lt hc
  glb := fun i b x hi => by
    rw [impH_get] at hi
    obtain ⟨o, -, ho⟩ := aof hi
    cases o <;> cases ho

/-- an argument of which all is known. -/
def okArg (W : World) : Value → Bool
  | .agg cs => cs.toList.all (okV W)
  | v => okV W v
theorem okArg_rel {W : World} {v : Value} (h : okArg W v = true) : VR (impRho W) v v := by
  unfold okArg at h
  split at h
  · rename_i cs
    have : VRL (impRho W) cs.toList cs.toList := ⟨rfl, fun j x y hx hy => by rw [hx] at hy; cases hy; exact okV_rel (List.all_eq_true.1 h x (List.mem_of_getElem? hx))⟩
    exact VR.agg_of this
  · exact okV_rel h

/-- what the ideal machine answers over the world that came in, the given one answers, and leaves that world as it was. -/
theorem calls_import {F : FuncId → Option CFunc} (hmix : P.follows .mixedOrders = true) (hF : ∀ g cf, F g = some cf → FnOk P g cf) {g : FuncId} {args : Array Value} {W : World} (hargs : ∀ v ∈ args.toList, okArg W v = true)
    {b : Bool} {n : Nat} {h' : H} (hn : E F n (.call (.func (.func g) #[] #[]) args.toList (impH W)) = some (.val (.bool b) h')) (hfr : ∀ i, i < W.heap.size → h'.get i = (impH W).get i) :
    Calls P g args W fun e W' => e = .returned (.bool b) ∧ Same W W' := by
  have ra : VRL (impRho W) args.toList args.toList := ⟨rfl, fun j x y hx hy => by rw [hx] at hy; cases hy; exact okArg_rel (hargs x (List.mem_of_getElem? hx))⟩
  refine (calls_of_E hmix hF hn ra (imp_HR W)).mono ?_
  rintro e W' ⟨v', σ, rfl, hv, hr, hx⟩
  refine ⟨by rw [hv.inv_bool], hx.os, hx.out, fun B hB => ?_, hx.froz, hx.td, hx.size⟩
  by_cases hc : isCells W B = true
  · obtain ⟨R, hR, hb, h0⟩ := impRho_cells hc
    obtain ⟨-, c, t, fr, hWB, rfl⟩ := (impRho_some hR).resolve_right (fun h => by omega)
    have ho := hr.obj B _ _ (hx.le _ _ hR) (by rw [hfr B hB]; exact impH_cells hWB)
    obtain ⟨_, _, c', t', fr', q1, q2, _⟩ := ho
    rcases q2 with ⟨q2, _⟩ | ⟨q2, _⟩
    · cases q2
    · rw [q1, hWB]; exact (q2.symm ▸ rfl : some (Obj.cells c' t' fr') = some (Obj.cells c t fr))
  · refine hx.frame B hB fun i R hi e => ?_
    rcases impRho_some hi with ⟨-, c, t, fr, hWB, rfl⟩ | ⟨-, hcc⟩
    · have e : i = B := e
      subst e
      exact hc (by unfold isCells; rw [hWB])
    · rw [e] at hcc; exact hc hcc

/-- a function that answers a truth by the kernel's word is a closed one. -/
theorem prim_of {F : FuncId → Option CFunc} (hmix : P.follows .mixedOrders = true) (hF : ∀ g cf, F g = some cf → FnOk P g cf) {g : FuncId} {fn : Func} {cf0 : CFunc} (hfn : P.funcs[g]? = some fn) (hcf : compileFunc P fn = some (stripF cf0)) {b : Bool} {n : Nat} {h' : H}
    (he : E F n (.call (.func (.func g) #[] #[]) [] .empty) = some (.val (.bool b) h')) : FnOk P g (primF b) := by
  refine .inr (.inl ⟨fn, cf0, b, hfn, hcf, rfl, fun w => ?_⟩)
  have hr : HR P (fun _ => none) H.empty w := ⟨fun _ _ _ h => (by cases h), fun i _ => ⟨rfl, PT.get_nil _⟩, fun _ _ _ _ h => (by cases h), fun _ _ h => (by cases h), fun i _ _ h => by rw [H.get_empty] at h; cases h⟩
  refine (calls_of_E hmix hF he (args' := #[]) ⟨rfl, fun j x y hx => by simp at hx⟩ hr).mono ?_
  rintro e w' ⟨v', σ, rfl, hv, -, hx⟩
  exact ⟨by rw [hv.inv_bool], hx.os, hx.out, fun B hB => hx.frame B hB fun _ _ h => (by cases h), hx.froz, hx.td, hx.size⟩

/-- a closed law. -/
theorem calls_closed {F : FuncId → Option CFunc} (hmix : P.follows .mixedOrders = true) (hF : ∀ g cf, F g = some cf → FnOk P g cf) {g : FuncId} {b : Bool} {n : Nat} {h' : H}
    (he : E F n (.call (.func (.func g) #[] #[]) [] .empty) = some (.val (.bool b) h')) (w : World) : Calls P g #[] w fun e w' => e = .returned (.bool b) ∧ Same w w' := by
  have hr : HR P (fun _ => none) H.empty w := ⟨fun _ _ _ h => (by cases h), fun i _ => ⟨rfl, PT.get_nil _⟩, fun _ _ _ _ h => (by cases h), fun _ _ h => (by cases h), fun i _ _ h => by rw [H.get_empty] at h; cases h⟩
  refine (calls_of_E hmix hF he (args' := #[]) ⟨rfl, fun j x y hx => by simp at hx⟩ hr).mono ?_
  rintro e w' ⟨v', σ, rfl, hv, -, hx⟩
  exact ⟨by rw [hv.inv_bool], hx.os, hx.out, fun B hB => hx.frame B hB fun _ _ h => (by cases h), hx.froz, hx.td, hx.size⟩
/-- the variable of a package, and nothing else. -/
def globH (b : Nat) (x : Value) : H := H.empty.new (.glob b x)
def globRho (b : Nat) (o : Obj) (i : Nat) : Option RB := if i = 0 then some ⟨b, 0, 0, 0, 0, some o⟩ else none
theorem glob_HR {b : Nat} {x : Value} {W : World} {c : Array Value} {t : TypeId} {fr : Nat × Nat} (hW : W.heap[b]? = some (.cells c t fr)) (hx : c[0]? = some x) : HR P (globRho b (.cells c t fr)) (globH b x) W where
  obj := fun i R o hi ho => by
    unfold globRho at hi
    split at hi
    · rename_i e; subst e; cases hi
      have ho : (globH b x).get 0 = some o := ho
      rw [show (globH b x).get 0 = some (.glob b x) from by unfold globH; rw [H.get_new]; exact if_pos rfl] at ho
      cases ho
      exact ⟨rfl, c, t, fr, rfl, hW, hx⟩
    · cases hi
  nxt := fun i hi => by
    have hi : 1 ≤ i := hi
    refine ⟨by unfold globRho; rw [if_neg (by omega)], ?_⟩
    unfold globH; rw [H.get_new, if_neg (by show ¬ (0 = i); omega)]; exact PT.get_nil _
  sep := fun i j R S hi hj _ _ _ => by
    unfold globRho at hi hj
    split at hi
    · split at hj
      · rename_i a b; rw [a, b]
      · cases hj
    · cases hi
  blk := fun i R hi => by
    unfold globRho at hi
    split at hi
    · cases hi; exact (Array.getElem?_eq_some_iff.1 hW).1
    · cases hi
  glb := fun i b' x' hi => by
    unfold globH at hi
    rw [H.get_new] at hi
    by_cases e : H.empty.next = i
    · subst e; exact ⟨_, rfl⟩
    · rw [if_neg e, H.get_empty] at hi; cases hi
/-- a closed law that reads a variable of a package. -/
theorem calls_glob {F : FuncId → Option CFunc} (hmix : P.follows .mixedOrders = true) (hF : ∀ g cf, F g = some cf → FnOk P g cf) {g : FuncId} {b n : Nat} {x : Value} {h' : H} {t : Bool}
    (he : E F n (.call (.func (.func g) #[] #[]) [] (globH b x)) = some (.val (.bool t) h')) (hg : h'.get 0 = some (.glob b x)) {W : World} (hW : W.cell? ⟨b, 0, none⟩ = some x) : Calls P g #[] W fun e W' => e = .returned (.bool t) ∧ Same W W' := by
  obtain ⟨c, ty, fr, hb, hx⟩ : ∃ c t fr, W.heap[b]? = some (.cells c t fr) ∧ c[0]? = some x := by
    unfold World.cell? at hW
    dsimp only at hW
    split at hW
    · rename_i hb; exact ⟨_, _, _, hb, hW⟩
    · cases hW
  refine (calls_of_E hmix hF he (args' := #[]) ⟨rfl, fun j x y hx => by simp at hx⟩ (glob_HR hb hx)).mono ?_
  rintro e w' ⟨v', σ, rfl, hv, hr, hx'⟩
  refine ⟨by rw [hv.inv_bool], hx'.os, hx'.out, fun B hB => ?_, hx'.froz, hx'.td, hx'.size⟩
  have h0 : globRho b (.cells c ty fr) 0 = some ⟨b, 0, 0, 0, 0, some (.cells c ty fr)⟩ := rfl
  by_cases e : B = b
  · subst e
    obtain ⟨-, c', t', fr', q1, q2, -⟩ := hr.obj 0 _ _ (hx'.le _ _ h0) hg
    rw [q2, hb, ← q1]
  · refine hx'.frame B hB fun i R hi e' => ?_
    unfold globRho at hi
    split at hi
    · cases hi; exact e e'.symm
    · cases hi

section
open Go.ChangeShapes Go.WideShapes Go.RowKit
variable {H : Type} {enc : TypeId × Value → H}

theorem Same.kept {W W' : World} (h : Same W W') (may : MemPlace → Prop) : W.keptBut W' may := by
  refine ⟨h.os, h.out, fun i hi => ?_⟩
  rw [h.heap i hi]
  cases ho : W.heap[i]? with
  | none => trivial
  | some o =>
    cases o with
    | cells c t fr => exact ⟨rfl, rfl, rfl, fun _ _ => rfl⟩
    | map es c => exact .inr ⟨rfl, rfl⟩
    | _ => rfl
theorem Same.at {W W' : World} (h : Same W W') {p : MemPlace} (hp : p.block < W.heap.size) : W.sameAt W' p := by
  cases p with
  | cell b off =>
    show W'.cell? ⟨b, off, none⟩ = W.cell? ⟨b, off, none⟩
    have := h.heap b hp
    simp only [World.cell?, this]
  | map b => exact h.heap b hp

theorem trodAll_stays (hl : laidOutB P = true) {W W' : World} {sp' : Nat → Bool} (hs : Same W W') : ∀ {ts : List TypeId} {vs : List Value} {ds : List (DataW H)} {ps : List MemPlace}, (∀ t ∈ ts, P.readableRec t = true ∧ t < P.types.size) →
    DataW.TrodAll enc P W 0 (fun _ => true) true ts vs ds ps → (∀ p ∈ ps, p.block < W.heap.size) → (∀ p ∈ ps, sp' p.block = true) → DataW.TrodAll enc P W' 0 sp' true ts vs ds ps
  | [], vs, ds, ps, _, h, _, _ => by
    obtain ⟨rfl, rfl, rfl⟩ := trodAll_nil h
    exact trodAll_mk0
  | t :: ts, vs, ds, ps, ht, h, hlt, hsp => by
    obtain ⟨v, vs', d, ds', p, q, rfl, rfl, rfl, h1, h2⟩ := trodAll_cons h
    obtain ⟨r1, r2⟩ := ht t (by simp)
    exact trodAll_cons_mk (WideElems.Trod_stays hl r1 r2 h1 (fun x hx => hs.at (hlt x (by simp [hx]))) (fun x hx => hsp x (by simp [hx])))
      (trodAll_stays hl hs (fun t ht' => ht t (by simp [ht'])) h2 (fun x hx => hlt x (by simp [hx])) (fun x hx => hsp x (by simp [hx])))

/-- the post, where the world that came in is as it was. -/
theorem post_kept {f : Func} {s : ChangeSpec} {apart fresh handsOn again : Bool} {W W' : World} {args : Array Value} {v : Value} {ds gs : List (DataW H)} {before pa pv : List MemPlace}
    (hW : DataW.Whole enc P f.params.toList s.vars apart W args.toList ds gs before)
    (hres : ∀ (b : Nat) (sp : Nat → Bool) (hd : Bool), DataW.TrodAll enc P W' b sp hd f.resultTypes.toList (v.resultList f.resultTypes.size) (s.fn H (ds ++ gs)).results [])
    (hargs : ∀ sp : Nat → Bool, (∀ p ∈ before, sp p.block = true) → DataW.TrodAll enc P W' 0 sp true f.params.toList args.toList (s.fn H (ds ++ gs)).args pa)
    (hvars : ∀ sp : Nat → Bool, (∀ p ∈ before, sp p.block = true) → DataW.TrodVars enc P W' sp s.vars (s.fn H (ds ++ gs)).vars pv)
    (hps : before = pa ++ pv) (hk : W.keptBut W' (· ∈ before)) (hfz : ∀ a : Addr, a.block < W.heap.size → W'.frozen? a = W.frozen? a)
    (hok : ∀ (j : Nat) (t : TypeId) (r : Value), f.resultTypes[j]? = some t → (v.resultList f.resultTypes.size)[j]? = some r → Value.okWide P W' .any 0 t r) :
    s.post enc P f apart fresh handsOn again W args v W' := by
  refine ⟨ds, gs, before, [], pa, pv, hW, hres _ _ _, hargs _ fun p hp => by simpa using hW.lt p hp, hvars _ fun p hp => by simpa using hW.lt p hp, World.keptBut_mono (fun p hp => ⟨hp, ?_⟩) hk, fun _ => ?_⟩
  · rw [hps, List.mem_append] at hp
    exact Or.inr hp
  · have hlt := hW.lt
    obtain ⟨_, _, _, _, _, hz, hn⟩ := hW
    refine ⟨hok, _, _, ([] ++ pa) ++ pv, ⟨[] ++ pa, pv, trodAll_append (hargs _ (fun _ _ => rfl)) (hres _ _ _), hvars _ (fun _ _ => rfl), rfl, fun b off hp => ?_, fun ha => ?_⟩, fun p hp _ => ?_⟩
    · have hb : MemPlace.cell b off ∈ before := by rw [hps]; simpa using hp
      rw [hfz ⟨b, off, none⟩ (hlt _ hb)]
      exact hz b off hb
    · have := hn ha
      rw [hps] at this
      simpa using this
    · rw [hps]
      simpa using hp
/-- the statement of a law: it answers true, and nothing has turned. -/
theorem law_post {s : ChangeSpec} {fn : Func} {apart fresh handsOn again : Bool} {W W' : World} {args : Array Value} {ds gs : List (DataW H)} {before : List MemPlace} {t : TypeId} (hW : DataW.Whole enc P fn.params.toList s.vars apart W args.toList ds gs before)
    (hvars : s.vars = []) (hspec : s.fn H (ds ++ gs) = { results := [.lit (.bool true)], args := ds }) (hres : fn.resultTypes = #[t]) (ht : P.underlying t = some .bool) (hsame : Same W W') (hl : laidOutB P = true) (hr : ∀ t ∈ fn.params.toList, P.readableRec t = true ∧ t < P.types.size) :
    s.post enc P fn apart fresh handsOn again W args (.bool true) W' := by
  have hW' := hW
  obtain ⟨p, q, hA, hV, rfl, hfz, hnd⟩ := hW
  rw [hvars] at hV
  obtain ⟨rfl, rfl⟩ := trodVars_none hV
  refine post_kept (pa := p) (pv := []) hW' (fun b sp hd => ?_) (fun sp hsp => ?_) (fun sp hsp => ?_) rfl (hsame.kept _) hsame.froz ?_
  · rw [hspec, hres]
    exact trodAll_mk1 (shut_bool ht true)
  · rw [hspec]
    exact trodAll_stays hl hsame hr hA (fun x hx => hW'.lt x (by simp [hx])) (fun x hx => hsp x (by simp [hx]))
  · rw [hspec, hvars]; rfl
  · exact ok_one hres rfl (okWide_bool_mk ht true)
end
end
end Go.Ideal
/- A run in pieces: a call whose run is known stands for itself in a greater run. -/
namespace Go.Ideal
noncomputable section
variable {P : Program}

/-! ### Values alike -/
def allEq {α : Type} (f : α → α → Bool) : List α → List α → Bool
  | [], [] => true
  | a :: l, b :: m => f a b && allEq f l m
  | _, _ => false
theorem allEq_eq {α : Type} {f : α → α → Bool} (hf : ∀ a b, f a b = true → a = b) : ∀ {l m : List α}, allEq f l m = true → l = m
  | [], [], _ => rfl
  | [], _ :: _, h => by cases h
  | _ :: _, [], h => by cases h
  | a :: l, b :: m, h => by
    simp only [allEq, Bool.and_eq_true] at h
    rw [hf _ _ h.1, allEq_eq hf h.2]
def eqX : Nat → Value → Value → Bool
  | n + 1, .agg a, .agg b => allEq (eqX n) a.toList b.toList
  | n + 1, .tuple a, .tuple b => allEq (eqX n) a.toList b.toList
  | n + 1, .iface t a, .iface u b => Nat.beq t u && eqX n a b
  | _, .nilIface, .nilIface => true
  | _, .func (.func f) a b, .func (.func g) c d => Nat.beq f g && (a.isEmpty && b.isEmpty && (c.isEmpty && d.isEmpty))
  | _, a, b => eqCell a b
theorem eqX_eq : ∀ (n : Nat) (a b : Value), eqX n a b = true → a = b := by
  intro n
  induction n with
  | zero =>
    intro a b h
    unfold eqX at h
    split at h
    · rename_i e; exact absurd e (by simp)
    · rename_i e; exact absurd e (by simp)
    · rename_i e; exact absurd e (by simp)
    · rfl
    · simp only [Bool.and_eq_true, Array.isEmpty_iff] at h
      obtain ⟨h1, ⟨h2, h3⟩, h4, h5⟩ := h
      rw [Nat.eq_of_beq_eq_true h1, h2, h3, h4, h5]
    · exact eqCell_eq h
  | succ n ih =>
    intro a b h
    unfold eqX at h
    split at h
    · rename_i e; cases e; rw [Array.toList_inj.1 (allEq_eq ih h)]
    · rename_i e; cases e; rw [Array.toList_inj.1 (allEq_eq ih h)]
    · rename_i e; cases e; rw [Bool.and_eq_true] at h; rw [Nat.eq_of_beq_eq_true h.1, ih _ _ h.2]
    · rfl
    · simp only [Bool.and_eq_true, Array.isEmpty_iff] at h
      obtain ⟨h1, ⟨h2, h3⟩, h4, h5⟩ := h
      rw [Nat.eq_of_beq_eq_true h1, h2, h3, h4, h5]
    · exact eqCell_eq h
def eqEnt (a b : Value × Value × Nat) : Bool := eqX 4 a.1 b.1 && (eqX 4 a.2.1 b.2.1 && Nat.beq a.2.2 b.2.2)
theorem eqEnt_eq (a b : Value × Value × Nat) (h : eqEnt a b = true) : a = b := by
  simp only [eqEnt, Bool.and_eq_true] at h
  obtain ⟨a1, a2, a3⟩ := a
  obtain ⟨b1, b2, b3⟩ := b
  have h1 := eqX_eq _ _ _ h.1
  have h2 := eqX_eq _ _ _ h.2.1
  have h3 := Nat.eq_of_beq_eq_true h.2.2
  simp only at h1 h2 h3
  rw [h1, h2, h3]
def eqObj : IObj → IObj → Bool
  | .cells a e, .cells b f => Nat.beq e f && allEq (eqX 4) a b
  | .map a c, .map b d => Nat.beq c d && allEq eqEnt a b
  | .glob b x, .glob c y => Nat.beq b c && eqX 4 x y
  | .dead, .dead => true
  | _, _ => false
theorem eqObj_eq {a b : IObj} (h : eqObj a b = true) : a = b := by
  unfold eqObj at h
  split at h
  · rw [Bool.and_eq_true] at h; rw [Nat.eq_of_beq_eq_true h.1, allEq_eq (eqX_eq 4) h.2]
  · rw [Bool.and_eq_true] at h; rw [Nat.eq_of_beq_eq_true h.1, allEq_eq eqEnt_eq h.2]
  · rw [Bool.and_eq_true] at h; rw [Nat.eq_of_beq_eq_true h.1, eqX_eq _ _ _ h.2]
  · rfl
  · cases h
def liveO : IObj → Bool
  | .dead => false
  | _ => true

/-! ### What a value names -/
def refF (S : Nat → Bool) : Nat → Value → Bool
  | n + 1, .agg a => a.toList.all (refF S n)
  | n + 1, .tuple a => a.toList.all (refF S n)
  | n + 1, .iface _ v => refF S n v
  | _, .pointer (some a) => S a.block
  | _, .slice (some a) _ _ => S a.block
  | _, .map (some i) => S i
  | _, .func (.func _) a b => a.isEmpty && b.isEmpty
  | _, .bool _ => true
  | _, .int _ _ => true
  | _, .string _ => true
  | _, .pointer none => true
  | _, .slice none _ _ => true
  | _, .map none => true
  | _, .nilFunc => true
  | _, .nilIface => true
  | _, .complex _ _ _ => true
  | _, _ => false
theorem VR.agree {ρ σ : Rho} {S : Nat → Bool} (hS : ∀ i, S i = true → σ i = ρ i) : ∀ (n : Nat) {v v' : Value}, VR ρ v v' → refF S n v = true → VR σ v v' := by
  intro n
  induction n with
  | zero =>
    intro v v' h hv
    cases h with
    | bool b => exact .bool b
    | int k n => exact .int k n
    | str s => exact .str s
    | ptrNil => exact .ptrNil
    | ptr h => exact .ptr ((hS _ hv).trans h)
    | sliceNil => exact .sliceNil
    | slice h hc hl => exact .slice ((hS _ hv).trans h) hc hl
    | sliceO h he hl hs hb => exact .sliceO ((hS _ hv).trans h) he hl hs hb
    | sliceE h he hb => exact .sliceE ((hS _ hv).trans h) he hb
    | sliceD h hm => exact .sliceD ((hS _ hv).trans h) hm
    | sliceR h he hl => exact .sliceR ((hS _ hv).trans h) he hl
    | mapNil => exact .mapNil
    | map h => exact .map ((hS _ hv).trans h)
    | func f ha hb ra rb =>
      have hv : (Array.isEmpty _ && Array.isEmpty _) = true := hv
      simp only [Bool.and_eq_true, Array.isEmpty_iff] at hv
      obtain ⟨rfl, rfl⟩ := hv
      exact .func f ha hb (fun j x y hx => by simp at hx) (fun j x y hx => by simp at hx)
    | yield h => cases hv
    | nilFunc => exact .nilFunc
    | nilIface => exact .nilIface
    | iface t h => cases hv
    | agg ha ra => cases hv
    | tuple ha ra => cases hv
  | succ n ih =>
    intro v v' h hv
    cases h with
    | bool b => exact .bool b
    | int k n => exact .int k n
    | str s => exact .str s
    | ptrNil => exact .ptrNil
    | ptr h => exact .ptr ((hS _ hv).trans h)
    | sliceNil => exact .sliceNil
    | slice h hc hl => exact .slice ((hS _ hv).trans h) hc hl
    | sliceO h he hl hs hb => exact .sliceO ((hS _ hv).trans h) he hl hs hb
    | sliceE h he hb => exact .sliceE ((hS _ hv).trans h) he hb
    | sliceD h hm => exact .sliceD ((hS _ hv).trans h) hm
    | sliceR h he hl => exact .sliceR ((hS _ hv).trans h) he hl
    | mapNil => exact .mapNil
    | map h => exact .map ((hS _ hv).trans h)
    | func f ha hb ra rb =>
      have hv : (Array.isEmpty _ && Array.isEmpty _) = true := hv
      simp only [Bool.and_eq_true, Array.isEmpty_iff] at hv
      obtain ⟨rfl, rfl⟩ := hv
      exact .func f ha hb (fun j x y hx => by simp at hx) (fun j x y hx => by simp at hx)
    | yield h => cases hv
    | nilFunc => exact .nilFunc
    | nilIface => exact .nilIface
    | iface t h => exact .iface t (ih h hv)
    | agg ha ra =>
      exact .agg ha (fun j x y hx hy => ih (ra j x y hx hy) (List.all_eq_true.1 (show (Array.toList _).all (refF S n) = true from hv) x (Array.mem_toList_iff.2 (Array.mem_of_getElem? hx))))
    | tuple ha ra =>
      exact .tuple ha (fun j x y hx hy => ih (ra j x y hx hy) (List.all_eq_true.1 (show (Array.toList _).all (refF S n) = true from hv) x (Array.mem_toList_iff.2 (Array.mem_of_getElem? hx))))
def refO (S : Nat → Bool) : IObj → Bool
  | .cells cs _ => cs.all (refF S 4)
  | .map es _ => es.all fun e => refF S 4 e.1 && refF S 4 e.2.1
  | .glob _ _ => true
  | .dead => true
  | .loop _ _ _ _ => false
theorem OR.agree {ρ σ : Rho} {S : Nat → Bool} (hS : ∀ i, S i = true → σ i = ρ i) {w : World} {R : RB} {o : IObj} (h : OR P ρ w R o) (ho : refO S o = true) : OR P σ w R o := by
  cases o with
  | cells cs esz =>
    obtain ⟨h1, h2, c, t, fr, h3, h7, h4, h5, h6⟩ := h
    exact ⟨h1, h2, c, t, fr, h3, h7, h4, h5, fun j v hj => let ⟨v', a, b⟩ := h6 j v hj; ⟨v', a, b.imp id (fun b => b.agree hS 4 (List.all_eq_true.1 ho v (List.mem_of_getElem? hj)))⟩⟩
  | map es clock =>
    obtain ⟨es', h1, h2, h3⟩ := h
    refine ⟨es', h1, h2, fun j e hj => ?_⟩
    obtain ⟨e', a, b, c, d⟩ := h3 j e hj
    have := List.all_eq_true.1 ho e (List.mem_of_getElem? hj)
    rw [Bool.and_eq_true] at this
    exact ⟨e', a, b.agree hS 4 this.1, c.agree hS 4 this.2, d⟩
  | glob b x => exact h
  | loop _ _ _ _ => cases ho
  | dead => trivial
theorem VRL.agree {ρ σ : Rho} {S : Nat → Bool} (hS : ∀ i, S i = true → σ i = ρ i) {xs ys : List Value} (h : VRL ρ xs ys) (hx : xs.all (refF S 4) = true) : VRL σ xs ys :=
  ⟨h.1, fun j x y h1 h2 => (h.2 j x y h1 h2).agree hS 4 (List.all_eq_true.1 hx x (List.mem_of_getElem? h1))⟩

/-! ### Pieces -/
structure Piece where
  args : List Value
  next : Nat
  pre : List (Nat × IObj)
  val : Value
  next' : Nat
  post : List (Nat × IObj)
def setAll (l : List (Nat × IObj)) (t : PT IObj) : PT IObj := List.rec (motive := fun _ => PT IObj) t (fun x _ ih => ih.set (bits x.1) x.2) l
def matchH (h : H) (l : List (Nat × IObj)) : Bool := l.all fun x => match h.get x.1 with
  | some o => eqObj o x.2
  | none => false
def hasId (l : List (Nat × IObj)) (i : Nat) : Bool := l.any fun x => Nat.beq x.1 i
def Piece.fits (p : Piece) (args : List Value) (h : H) : Bool := Nat.beq h.next p.next && (allEq (eqX 4) args p.args && matchH h p.pre)
def Piece.out (p : Piece) (h : H) : Value × H := (p.val, ⟨p.next', setAll p.post h.mem⟩)
def piecesV (l : List Piece) (args : List Value) (h : H) : Option (Value × H) :=
  List.rec (motive := fun _ => Option (Value × H)) none (fun p _ ih => match p.fits args h with | true => some (p.out h) | false => ih) l
def Piece.start (p : Piece) : H := ⟨p.next, setAll p.pre .nil⟩
/-- the run comes to what is printed. -/
def Piece.ends (p : Piece) : Option Out → Bool
  | some (.val v h) => eqX 4 v p.val && (Nat.beq h.next p.next' && matchH h p.post)
  | _ => false
def Piece.runs (F : FuncId → Option CFunc) (n : Nat) (g : FuncId) (p : Piece) : Bool := p.ends (E F n (.call (.func (.func g) #[] #[]) p.args p.start))
/-- what is printed names only what is printed. -/
def Piece.good (p : Piece) : Bool :=
  Nat.ble p.next p.next' && (p.pre.all (fun x => Nat.blt x.1 p.next && hasId p.post x.1) && (p.post.all (fun x => hasId p.pre x.1 || (Nat.ble p.next x.1 && Nat.blt x.1 p.next')) &&
  (p.args.all (refF (hasId p.pre) 4) && (p.pre.all (fun x => liveO x.2 && refO (hasId p.pre) x.2) && (refF (hasId p.post) 4 p.val && p.post.all (fun x => refO (hasId p.post) x.2))))))

theorem hasId_iff {l : List (Nat × IObj)} {i : Nat} : hasId l i = true ↔ ∃ o, (i, o) ∈ l := by
  unfold hasId
  rw [List.any_eq_true]
  constructor
  · rintro ⟨⟨j, o⟩, h1, h2⟩; exact ⟨o, by rw [← Nat.eq_of_beq_eq_true h2]; exact h1⟩
  · rintro ⟨o, h⟩; exact ⟨(i, o), h, Nat.beq_refl i⟩
theorem setAll_out {l : List (Nat × IObj)} {t : PT IObj} {i : Nat} (h : hasId l i = false) : (setAll l t).get (bits i) = t.get (bits i) := by
  induction l with
  | nil => rfl
  | cons x l ih =>
    have h' : (Nat.beq x.1 i || hasId l i) = false := h
    rw [Bool.or_eq_false_iff] at h'
    show ((setAll l t).set (bits x.1) x.2).get (bits i) = _
    rw [PT.get_set_bits, if_neg (by rintro rfl; rw [Nat.beq_refl] at h'; cases h'.1), ih h'.2]
theorem setAll_in {l : List (Nat × IObj)} {t : PT IObj} {i : Nat} (h : hasId l i = true) : ∃ o, (i, o) ∈ l ∧ (setAll l t).get (bits i) = some o := by
  induction l with
  | nil => cases h
  | cons x l ih =>
    have e : (setAll (x :: l) t).get (bits i) = if x.1 = i then some x.2 else (setAll l t).get (bits i) := PT.get_set_bits _ _ _ _
    rw [e]
    by_cases hi : x.1 = i
    · rw [if_pos hi]; exact ⟨x.2, by subst hi; simp, rfl⟩
    · rw [if_neg hi]
      have h' : (Nat.beq x.1 i || hasId l i) = true := h
      rw [Bool.or_eq_true] at h'
      obtain ⟨o, h1, h2⟩ := ih (h'.resolve_left fun e => hi (Nat.eq_of_beq_eq_true e))
      exact ⟨o, by simp [h1], h2⟩
theorem matchH_mem {h : H} {l : List (Nat × IObj)} (hm : matchH h l = true) {i : Nat} {o : IObj} (hi : (i, o) ∈ l) : h.get i = some o := by
  have := List.all_eq_true.1 hm _ hi
  dsimp only at this
  split at this
  · rename_i o' ho; have e := eqObj_eq this; subst e; exact ho
  · cases this

theorem piece_calls {F : FuncId → Option CFunc} (hmix : P.follows .mixedOrders = true) (hF : ∀ g cf, F g = some cf → FnOk P g cf) {n : Nat} {g : FuncId} {p : Piece} (hg : p.good = true) (hrun : p.runs F n g = true)
    {args : List Value} {h : H} (hfit : p.fits args h = true) {ρ : Rho} {args' : Array Value} {w : World} (ra : VRL ρ args args'.toList) (hr : HR P ρ h w) :
    Calls P g args' w (VPost P ρ w (.val (p.out h).1 (p.out h).2)) := by
  simp only [Piece.good, Bool.and_eq_true] at hg
  obtain ⟨g1, g2, g3, g4, g5, g6, g7⟩ := hg
  simp only [Piece.fits, Bool.and_eq_true] at hfit
  obtain ⟨f1, f2, f3⟩ := hfit
  have f2 := allEq_eq (eqX_eq 4) f2
  subst f2
  have f1 := Nat.eq_of_beq_eq_true f1
  have g1 := Nat.le_of_ble_eq_true g1
  have preLt : ∀ i, hasId p.pre i = true → i < p.next ∧ hasId p.post i = true := fun i hi => by
    obtain ⟨o, ho⟩ := hasId_iff.1 hi
    have := List.all_eq_true.1 g2 _ ho
    rw [Bool.and_eq_true] at this
    exact ⟨Nat.le_of_ble_eq_true this.1, this.2⟩
  have postIn : ∀ i, hasId p.post i = true → hasId p.pre i = true ∨ (p.next ≤ i ∧ i < p.next') := fun i hi => by
    obtain ⟨o, ho⟩ := hasId_iff.1 hi
    have := List.all_eq_true.1 g3 _ ho
    rw [Bool.or_eq_true, Bool.and_eq_true] at this
    exact this.imp id fun h => ⟨Nat.le_of_ble_eq_true h.1, Nat.le_of_ble_eq_true h.2⟩
  have preGet : ∀ i, hasId p.pre i = true → ∃ o, h.get i = some o ∧ o ≠ .dead ∧ p.start.get i = some o ∧ refO (hasId p.pre) o = true := fun i hi => by
    obtain ⟨o, h1, h2⟩ := setAll_in (t := .nil) hi
    have q1 := matchH_mem f3 h1
    have q4 := List.all_eq_true.1 g5 _ h1
    rw [Bool.and_eq_true] at q4
    exact ⟨o, q1, by rintro rfl; exact Bool.false_ne_true q4.1, h2, q4.2⟩
  have preNo : ∀ i, hasId p.pre i = false → p.start.get i = none := fun i hi => (setAll_out hi).trans (PT.get_nil _)
  -- the relation cut to what the piece needs
  obtain ⟨ρ', hρ'⟩ : ∃ ρ' : Rho, ∀ i, ρ' i = if hasId p.pre i = true then ρ i else none := ⟨_, fun _ => rfl⟩
  have agr : ∀ i, hasId p.pre i = true → ρ' i = ρ i := fun i hi => by rw [hρ', if_pos hi]
  have sub : ∀ i R, ρ' i = some R → hasId p.pre i = true ∧ ρ i = some R := fun i R hi => by
    rw [hρ'] at hi
    split at hi
    · rename_i hc; exact ⟨hc, hi⟩
    · cases hi
  have hr' : HR P ρ' p.start w := {
    obj := fun i R o hi ho => by
      obtain ⟨hc, hi⟩ := sub i R hi
      obtain ⟨o', q1, q2, q3, q4⟩ := preGet i hc
      have e : o' = o := Option.some.inj (q3.symm.trans ho)
      subst e
      exact (hr.obj i R o' hi q1).agree agr q4
    nxt := fun i hi => by
      have hi : p.next ≤ i := hi
      have hc : hasId p.pre i = false := by
        rw [Bool.eq_false_iff]; intro hc; have := (preLt i hc).1; omega
      exact ⟨by rw [hρ', if_neg (by rw [hc]; simp)], preNo i hc⟩
    sep := fun i j R S hi hj _ _ e => by
      obtain ⟨hc, hi⟩ := sub i R hi
      obtain ⟨hd, hj⟩ := sub j S hj
      obtain ⟨o, q1, q2, -, -⟩ := preGet i hc
      obtain ⟨o', r1, r2, -, -⟩ := preGet j hd
      exact hr.sep i j R S hi hj ⟨o, q1, q2⟩ ⟨o', r1, r2⟩ e
    blk := fun i R hi => hr.blk i R (sub i R hi).2
    glb := fun i b x hi => by
      cases hc : hasId p.pre i with
      | false => rw [preNo i hc] at hi; cases hi
      | true =>
        obtain ⟨o', q1, -, q3, -⟩ := preGet i hc
        have e : o' = .glob b x := Option.some.inj (q3.symm.trans hi)
        subst e
        obtain ⟨R, hR⟩ := hr.glb i b x q1
        exact ⟨R, (agr i hc).trans hR⟩ }
  have ra' : VRL ρ' p.args args'.toList := ra.agree agr g4
  unfold Piece.runs at hrun
  generalize he : E F n (.call (.func (.func g) #[] #[]) p.args p.start) = out at hrun
  unfold Piece.ends at hrun
  split at hrun
  · rename_i v h2
    simp only [Bool.and_eq_true] at hrun
    obtain ⟨e1, e2, e3⟩ := hrun
    obtain rfl := eqX_eq _ _ _ e1
    have e2 := Nat.eq_of_beq_eq_true e2
    refine (calls_of_E hmix hF he ra' hr').mono ?_
    rintro e w' ⟨v', σ2, rfl, hv, hr2, hx⟩
    obtain ⟨σ, hσ⟩ : ∃ σ : Rho, ∀ i, σ i = if hasId p.post i = true then σ2 i else ρ i := ⟨_, fun _ => rfl⟩
    have agr2 : ∀ i, hasId p.post i = true → σ i = σ2 i := fun i hi => by rw [hσ, if_pos hi]
    have oth : ∀ i, hasId p.post i = false → σ i = ρ i := fun i hi => by rw [hσ, if_neg (by rw [hi]; simp)]
    have le : RhoLe ρ σ := fun i R hi => by
      cases hc : hasId p.post i with
      | false => rw [oth i hc]; exact hi
      | true =>
        rw [agr2 i hc]
        rcases postIn i hc with hp | ⟨hp, -⟩
        · exact hx.le i R ((agr i hp).trans hi)
        · have := (hr.nxt i (by omega)).1; rw [hi] at this; cases this
    have postGet : ∀ i, hasId p.post i = true → ∃ o, h2.get i = some o ∧ (p.out h).2.get i = some o ∧ refO (hasId p.post) o = true := fun i hi => by
      obtain ⟨o, h1, h3⟩ := setAll_in (t := h.mem) hi
      have q1 := matchH_mem e3 h1
      exact ⟨o, q1, h3, List.all_eq_true.1 g7 _ h1⟩
    have postNo : ∀ i, hasId p.post i = false → (p.out h).2.get i = h.get i := fun i hi => setAll_out hi
    -- what is not of the piece stands apart
    have apart : ∀ i R j S, hasId p.post i = true → σ2 i = some R → hasId p.post j = false → ρ j = some S → alive h j → R.blk ≠ S.blk := fun i R j S hi hiR hj hjS aj e => by
      rcases hx.fresh i R hiR with ⟨k, T, hk, hT⟩ | hb
      · obtain ⟨hc, hk⟩ := sub k T hk
        obtain ⟨o, q1, q2, -, -⟩ := preGet k hc
        have := hr.sep k j T S hk hjS ⟨o, q1, q2⟩ aj (hT.trans e)
        subst this
        rw [(preLt k hc).2] at hj; cases hj
      · have := hr.blk j S hjS; omega
    have hrN : HR P σ (p.out h).2 w' := {
      obj := fun i R o hi ho => by
        cases hc : hasId p.post i with
        | true =>
          rw [agr2 i hc] at hi
          obtain ⟨o', q1, q3, q4⟩ := postGet i hc
          have e : o' = o := Option.some.inj (q3.symm.trans ho)
          subst e
          exact (hr2.obj i R o' hi q1).agree agr2 q4
        | false =>
          rw [oth i hc] at hi
          rw [postNo i hc] at ho
          by_cases hd : o = .dead
          · subst hd; trivial
          · refine (hr.obj i R o hi ho).mono le (hx.frame _ (hr.blk i R hi) fun j S hj e => ?_)
            obtain ⟨hp, hj⟩ := sub j S hj
            obtain ⟨o', q1, q2, -, -⟩ := preGet j hp
            have := hr.sep j i S R hj hi ⟨o', q1, q2⟩ ⟨o, ho, hd⟩ e
            subst this
            rw [(preLt j hp).2] at hc; cases hc
      nxt := fun i hi => by
        have hi : p.next' ≤ i := hi
        have hc : hasId p.post i = false := by
          rw [Bool.eq_false_iff]; intro hc
          rcases postIn i hc with hp | hp
          · have := (preLt i hp).1; omega
          · omega
        rw [oth i hc, postNo i hc]
        exact hr.nxt i (by omega)
      sep := fun i j R S hi hj ai aj e => by
        have al : ∀ k, hasId p.post k = true → alive (p.out h).2 k → alive h2 k := fun k hk ⟨o, h1, h3⟩ => by
          obtain ⟨o', q1, q2, -⟩ := postGet k hk
          have e : o' = o := Option.some.inj (q2.symm.trans h1)
          subst e; exact ⟨o', q1, h3⟩
        have al' : ∀ k, hasId p.post k = false → alive (p.out h).2 k → alive h k := fun k hk ⟨o, h1, h3⟩ => ⟨o, (postNo k hk).symm.trans h1, h3⟩
        cases hc : hasId p.post i with
        | true =>
          rw [agr2 i hc] at hi
          cases hd : hasId p.post j with
          | true => rw [agr2 j hd] at hj; exact hr2.sep i j R S hi hj (al i hc ai) (al j hd aj) e
          | false => rw [oth j hd] at hj; exact absurd e (apart i R j S hc hi hd hj (al' j hd aj))
        | false =>
          rw [oth i hc] at hi
          cases hd : hasId p.post j with
          | true => rw [agr2 j hd] at hj; exact absurd e.symm (apart j S i R hd hj hc hi (al' i hc ai))
          | false => rw [oth j hd] at hj; exact hr.sep i j R S hi hj (al' i hc ai) (al' j hd aj) e
      blk := fun i R hi => by
        cases hc : hasId p.post i with
        | true => rw [agr2 i hc] at hi; exact hr2.blk i R hi
        | false => rw [oth i hc] at hi; exact Nat.lt_of_lt_of_le (hr.blk i R hi) hx.size
      glb := fun i b x hi => by
        cases hc : hasId p.post i with
        | true =>
          obtain ⟨o', q1, q3, -⟩ := postGet i hc
          have e : o' = .glob b x := Option.some.inj (q3.symm.trans hi)
          subst e
          obtain ⟨R, hR⟩ := hr2.glb i b x q1
          exact ⟨R, (agr2 i hc).trans hR⟩
        | false =>
          rw [postNo i hc] at hi
          obtain ⟨R, hR⟩ := hr.glb i b x hi
          exact ⟨R, (oth i hc).trans hR⟩ }
    refine ⟨_, _, v', σ, rfl, rfl, hv.agree agr2 4 g6, hrN, le, hx.size, fun i R hi => ?_, fun B hB hn => hx.frame B hB fun i R hi => hn i R (sub i R hi).2, hx.loops, hx.os, hx.out, hx.froz, hx.td⟩
    cases hc : hasId p.post i with
    | true =>
      rw [agr2 i hc] at hi
      rcases hx.fresh i R hi with ⟨j, S, hj, e⟩ | hb
      · exact .inl ⟨j, S, (sub j S hj).2, e⟩
      · exact .inr hb
    | false => rw [oth i hc] at hi; exact .inl ⟨i, R, hi, rfl⟩
  · cases hrun

/-- the calls of a function of which all are printed. -/
theorem pieces_ok (hmix : P.follows .mixedOrders = true) {g : FuncId} {fn : Func} {cf0 : CFunc} (hfn : P.funcs[g]? = some fn) (hcf : compileFunc P fn = some (stripF cf0))
    {l : List Piece} (hl : ∀ p ∈ l, p.good = true ∧ ∃ F n, (∀ g cf, F g = some cf → FnOk P g cf) ∧ p.runs F n g = true) : FnOk P g (primW (piecesV l) cf0) := by
  refine .inr (.inr (.inr ⟨_, fn, cf0, rfl, ⟨fun args w => ?_, fun args h v h' hp ρ args' w ra hr => ?_⟩, hfn, hcf⟩))
  · obtain ⟨hname, c, hbody, -⟩ := compileFunc_some hcf
    have hne : ¬ fn.name = "runtime.NumGoroutine" := by simpa using hname
    simp [callFunc, hfn, hne, hbody]
  · induction l with
    | nil => cases hp
    | cons p l ih =>
      have hp : (match p.fits args h with | true => some (p.out h) | false => piecesV l args h) = some (v, h') := hp
      split at hp
      · rename_i hfit
        obtain ⟨q1, F, n, hF, q2⟩ := hl p (by simp)
        have e : p.out h = (v, h') := Option.some.inj hp
        have := piece_calls hmix hF q1 q2 hfit ra hr
        rw [e] at this; exact this
      · exact ih (fun p hp => hl p (by simp [hp])) hp

/-! ### Tables -/
def lookE (l : List (Nat × CFunc)) (g : Nat) : Option CFunc := List.rec (motive := fun _ => Option CFunc) none (fun p _ ih => match Nat.beq p.1 g with | true => some p.2 | false => ih) l
theorem lookE_mem : ∀ {t : List (Nat × CFunc)} {g : Nat} {cf : CFunc}, lookE t g = some cf → ∃ p ∈ t, p.1 = g ∧ p.2 = cf
  | [], g, x, h => by cases h
  | p :: t, g, x, h => by
    have h : (match Nat.beq p.1 g with | true => some p.2 | false => lookE t g) = some x := h
    split at h
    · rename_i e; cases h; exact ⟨p, by simp, Nat.eq_of_beq_eq_true e, rfl⟩
    · obtain ⟨q, hq, e⟩ := lookE_mem h; exact ⟨q, by simp [hq], e⟩
def overF (l : List (Nat × CFunc)) (F : FuncId → Option CFunc) : FuncId → Option CFunc := fun g => match lookE l g with
  | some cf => some cf
  | none => F g
theorem over_ok {l : List (Nat × CFunc)} {F : FuncId → Option CFunc} (hl : ∀ p ∈ l, FnOk P p.1 p.2) (hF : ∀ g cf, F g = some cf → FnOk P g cf) : ∀ g cf, overF l F g = some cf → FnOk P g cf := by
  intro g cf h
  unfold overF at h
  split at h
  · rename_i c hc; cases h; obtain ⟨p, hp, rfl, rfl⟩ := lookE_mem hc; exact hl p hp
  · exact hF g cf h
theorem look_ok {l : List (Nat × CFunc)} (hl : ∀ p ∈ l, FnOk P p.1 p.2) : ∀ g cf, lookE l g = some cf → FnOk P g cf := fun g cf h => by
  obtain ⟨p, hp, rfl, rfl⟩ := lookE_mem h; exact hl p hp
/-- a closed run answers true, and the variable of a package is as it was. -/
def endsT (x : Value) : Option Out → Bool
  | some (.val (.bool true) h) => (match h.get 0 with | some o => eqObj o (.glob 0 x) | none => false)
  | _ => false
theorem endsT_some {x : Value} {o : Option Out} (h : endsT x o = true) : ∃ h', o = some (.val (.bool true) h') ∧ h'.get 0 = some (.glob 0 x) := by
  unfold endsT at h
  split at h
  · rename_i h'
    split at h
    · rename_i o ho; exact ⟨_, rfl, by rw [ho, eqObj_eq h]⟩
    · cases h
  · cases h
def endsTrue : Option Out → Bool
  | some (.val (.bool true) _) => true
  | _ => false
theorem endsTrue_some {o : Option Out} (h : endsTrue o = true) : ∃ h', o = some (.val (.bool true) h') := by
  unfold endsTrue at h
  split at h
  · exact ⟨_, rfl⟩
  · cases h
end
end Go.Ideal
