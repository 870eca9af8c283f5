/- A part of the proof: the ideal machine, and what the functions of the program answer over it. -/
import Derived.ProofKit
import Derived.JoinedOf
import Derived.Sort.Grow
import Derived.KernelRfl
import Derived.Test.YtanaepeilcjhcaaB
set_option linter.unusedSimpArgs false
set_option linter.unusedVariables false
set_option linter.unusedSectionVars false
namespace Go.Ideal
variable {F : FuncId → Option zr}
def OkV (o : Option Out) (P : Value → H → Prop) : Prop := ∃ v h', o = some (.val v h') ∧ P v h'
def Ret (F : FuncId → Option zr) (f : Value) (args : List Value) (h : H) (P : Value → H → Prop) : Prop := ∃ v h', zbs F f args h = some (v, h') ∧ P v h'
theorem OkV.val {v : Value} {h : H} {P : Value → H → Prop} (hp : P v h) : OkV (some (.val v h)) P := ⟨v, h, rfl, hp⟩
theorem OkV.mono {o : Option Out} {P Q : Value → H → Prop} (hp : OkV o P) (hq : ∀ v h, P v h → Q v h) : OkV o Q := by
  obtain ⟨v, h, e, p⟩ := hp; exact ⟨v, h, e, hq v h p⟩
theorem Ret.mono {f : Value} {args : List Value} {h : H} {P Q : Value → H → Prop} (hp : Ret F f args h P) (hq : ∀ v h, P v h → Q v h) : Ret F f args h Q := by
  obtain ⟨v, h, e, p⟩ := hp; exact ⟨v, h, e, hq v h p⟩
theorem Ret.eq {f : Value} {args : List Value} {h : H} {v : Value} {h' : H} (e : zbs F f args h = some (v, h')) : Ret F f args h fun v1 h1 => v1 = v ∧ h1 = h' := ⟨v, h', e, rfl, rfl⟩
theorem OkV.lp {a b : Option Out} {P : Value → H → Prop} (hp : OkV b P) (e : ∀ {r}, b = some r → a = some r) : OkV a P := by
  obtain ⟨v, h, e1, p⟩ := hp; exact ⟨v, h, e e1, p⟩
theorem OkV.eq {a b : Option Out} {P : Value → H → Prop} (hp : OkV b P) (e : a = b) : OkV a P := e ▸ hp
theorem OkV.br {c : Prop} [Decidable c] {A B : Option Out} {P : Value → H → Prop} (h1 : c → OkV A P) (h2 : ¬ c → OkV B P) : OkV (br (.bool (decide c)) A B) P := by
  by_cases hc : c
  · rw [decide_eq_true hc]; exact h1 hc
  · rw [decide_eq_false hc]; exact h2 hc
theorem OkV.brb {b : Bool} {A B : Option Out} {P : Value → H → Prop} (h1 : b = true → OkV A P) (h2 : b = false → OkV B P) : OkV (Go.Ideal.br (.bool b) A B) P := by
  cases b
  · exact h2 rfl
  · exact h1 rfl
theorem OkV.call {f : Value} {args : List Value} {h : H} {k : Value → H → Option Out} {P Q : Value → H → Prop} (hc : Ret F f args h P) (hk : ∀ v h', P v h' → OkV (k v h') Q) : OkV (k2 (zbs F f args h) k) Q := by
  obtain ⟨v, h', e, p⟩ := hc
  rw [e]; exact hk v h' p
theorem Ret.fn {g : FuncId} {cf : zr} (hF : F g = some cf) (n : Nat) (hn : n ≤ cf.ntmps) {args : List Value} {h : H} {P : Value → H → Prop} (hv : OkV (zn (rI F) n cf args h) P) : Ret F (fnV g) args h P := by
  obtain ⟨v, h', e, p⟩ := hv
  exact ⟨v, h', zbi hF n hn e, p⟩
theorem Ret.clo {g : FuncId} {cf : zr} (hF : F g = some cf) (n : Nat) (hn : n ≤ cf.ntmps) {a b : List Value} {args : List Value} {h : H} {P : Value → H → Prop} (hv : OkV (zn (rI F) n cf (a ++ args ++ b) h) P) : Ret F (.func (.func g) ⟨a⟩ ⟨b⟩) args h P := by
  obtain ⟨v, h', e, p⟩ := hv
  exact ⟨v, h', zjD hF hn e, p⟩
theorem Ret.round {l : Nat} {st : LoopState} {pend : Option CC} {sl : zf} {rc : RC} {h : H} (hg : h.get l = some (.loop st pend sl rc)) {args : List Value} {P : Value → H → Prop} (hv : OkV (zX (rI F) rc l args sl h) P) : Ret F (.func (.yield l) #[] #[]) args h P := by
  obtain ⟨v, h', e, p⟩ := hv
  exact ⟨v, h', callI_yield hg e, p⟩
theorem br_pos {c : Prop} [Decidable c] {A B : Option Out} (h : c) : br (.bool (decide c)) A B = A := by rw [decide_eq_true h]; rfl
theorem br_neg {c : Prop} [Decidable c] {A B : Option Out} (h : ¬ c) : br (.bool (decide c)) A B = B := by rw [decide_eq_false h]; rfl
theorem gdT_pos {c : Prop} [Decidable c] {h : H} {r : R} (hc : c) : gd (.bool (decide c)) true h r = r := by rw [decide_eq_true hc]; rfl
theorem gdT_neg {c : Prop} [Decidable c] {h : H} {r : R} (hc : ¬ c) : gd (.bool (decide c)) true h r = some (zD, h) := by rw [decide_eq_false hc]; rfl
theorem gdF_pos {c : Prop} [Decidable c] {h : H} {r : R} (hc : c) : gd (.bool (decide c)) false h r = some (zD, h) := by rw [decide_eq_true hc]; rfl
theorem gdF_neg {c : Prop} [Decidable c] {h : H} {r : R} (hc : ¬ c) : gd (.bool (decide c)) false h r = r := by rw [decide_eq_false hc]; rfl
theorem vPick_pos {c : Prop} [Decidable c] {a b : Value} {h : H} (hc : c) : zG (.bool (decide c)) a b h = some (a, h) := by rw [decide_eq_true hc]; rfl
theorem vPick_neg {c : Prop} [Decidable c] {a b : Value} {h : H} (hc : ¬ c) : zG (.bool (decide c)) a b h = some (b, h) := by rw [decide_eq_false hc]; rfl
theorem OkV.gdT {c : Prop} [Decidable c] {h : H} {r : R} {k : Value → H → Option Out} {P : Value → H → Prop} (h1 : c → OkV (k2 r k) P) (h2 : ¬ c → OkV (k2 (some (zD, h)) k) P) : OkV (k2 (gd (.bool (decide c)) true h r) k) P := by
  by_cases hc : c
  · rw [gdT_pos hc]; exact h1 hc
  · rw [gdT_neg hc]; exact h2 hc
theorem OkV.gdF {c : Prop} [Decidable c] {h : H} {r : R} {k : Value → H → Option Out} {P : Value → H → Prop} (h1 : c → OkV (k2 (some (zD, h)) k) P) (h2 : ¬ c → OkV (k2 r k) P) : OkV (k2 (gd (.bool (decide c)) false h r) k) P := by
  by_cases hc : c
  · rw [gdF_pos hc]; exact h1 hc
  · rw [gdF_neg hc]; exact h2 hc
theorem OkV.gdTb {b : Bool} {h : H} {r : R} {k : Value → H → Option Out} {P : Value → H → Prop} (h1 : b = true → OkV (k2 r k) P) (h2 : b = false → OkV (k2 (some (zD, h)) k) P) : OkV (k2 (gd (.bool b) true h r) k) P := by
  cases b
  · exact h2 rfl
  · exact h1 rfl
theorem OkV.gdFb {b : Bool} {h : H} {r : R} {k : Value → H → Option Out} {P : Value → H → Prop} (h1 : b = true → OkV (k2 (some (zD, h)) k) P) (h2 : b = false → OkV (k2 r k) P) : OkV (k2 (gd (.bool b) false h r) k) P := by
  cases b
  · exact h2 rfl
  · exact h1 rfl
theorem zgi {h : H} {o : IObj} {i : Nat} (hi : i = h.next) : (h.new o).get i = some o := by rw [get_new, if_pos hi]
theorem zw {h : H} {o : IObj} {i j : Nat} (hi : i = j) : (h.put j o).get i = some o := by rw [get_put, if_pos hi]
theorem zo {h : H} {o : IObj} {i j : Nat} (hi : i ≠ j) : (h.put j o).get i = h.get i := by rw [get_put, if_neg hi]
theorem new_put_eq {h : H} {a b : IObj} {i : Nat} (hi : i = h.next) : (h.new a).put i b = h.new b := by subst hi; exact new_put h a b
theorem put_put_eq {h : H} {a b : IObj} {i j : Nat} (hi : i = j) : (h.put j a).put i b = h.put j b := by subst hi; exact put_put h i a b
theorem new_put_lt {h : H} {a b : IObj} {i : Nat} (hi : i ≠ h.next) : (h.new a).put i b = (h.put i b).new a := new_put_ne hi a b
structure FrD (D : Nat → Prop) (h h' : H) : Prop where
  next : h.next ≤ h'.next
  get : ∀ i, i < h.next → ¬ D i → h'.get i = h.get i
theorem FrD.refl (D : Nat → Prop) (h : H) : FrD D h h := ⟨Nat.le_refl _, fun _ _ _ => rfl⟩
theorem FrD.trans {D : Nat → Prop} {a b c : H} (h : FrD D a b) (k : FrD D b c) : FrD D a c := ⟨Nat.le_trans h.next k.next, fun i hi hd => (k.get i (Nat.lt_of_lt_of_le hi h.next) hd).trans (h.get i hi hd)⟩
theorem FrD.mono {D E : Nat → Prop} {a b : H} (h : FrD D a b) (hd : ∀ i, i < a.next → D i → E i) : FrD E a b := ⟨h.next, fun i hi he => h.get i hi fun hx => he (hd i hi hx)⟩
theorem FrD.new {D : Nat → Prop} {a b : H} (h : FrD D a b) (o : IObj) : FrD D a (b.new o) := ⟨by rw [za]; have := h.next; omega, fun i hi hd => by rw [zbV (by have := h.next; omega)]; exact h.get i hi hd⟩
theorem FrD.put {D : Nat → Prop} {a b : H} (h : FrD D a b) {i : Nat} (hi : a.next ≤ i ∨ D i) (o : IObj) : FrD D a (b.put i o) := ⟨h.next, fun j hj hd => by
  rw [zo (by rintro rfl; rcases hi with hi | hi; omega; exact hd hi)]; exact h.get j hj hd⟩
theorem Fr.D {D : Nat → Prop} {a b : H} (h : Fr a b) : FrD D a b := ⟨h.next, fun i hi _ => h.get i hi⟩
theorem FrD.fr {D : Nat → Prop} {a b : H} (h : FrD D a b) (hd : ∀ i, i < a.next → ¬ D i) : Fr a b := ⟨h.next, fun i hi => h.get i hi (hd i hi)⟩
theorem Fr.transD {D : Nat → Prop} {a b c : H} (h : Fr a b) (k : FrD D b c) (hd : ∀ i, i < a.next → ¬ D i) : Fr a c := ⟨Nat.le_trans h.next k.next, fun i hi => (k.get i (Nat.lt_of_lt_of_le hi h.next) (hd i hi)).trans (h.get i hi)⟩
theorem Row.lt {h : H} {sz : Nat} {v : Value} {rows : List (List Value)} (hr : Row h sz v rows) {b o n c : Nat} (e : v = .slice (some ⟨b, o, none⟩) n c) : b < h.next := by
  cases hr with
  | nil => cases e
  | hole hlt => cases e; exact hlt
  | cells hlt => cases e; exact hlt
theorem Row.lenM {α : Type} {h : H} {sz : Nat} {v : Value} {es : List α} {f : α → List Value} (hr : Row h sz v (es.map f)) : ∃ base c, v = .slice base es.length c := by
  have := hr.len; rwa [List.length_map] at this
theorem Row.frD {D : Nat → Prop} {h h' : H} {sz : Nat} {v : Value} {rows : List (List Value)} (hr : Row h sz v rows) (hf : FrD D h h') (hd : ∀ b o n c, v = .slice (some ⟨b, o, none⟩) n c → ¬ D b) : Row h' sz v rows := by
  cases hr with
  | nil => exact .nil
  | hole hlt => exact .hole (Nat.lt_of_lt_of_le hlt hf.next)
  | cells hlt hg hrd hcap => exact .cells (Nat.lt_of_lt_of_le hlt hf.next) ((hf.get _ hlt (hd _ _ _ _ rfl)).trans hg) hrd hcap
theorem Row.drop {h : H} {sz : Nat} {v : Value} {rows : List (List Value)} (hr : Row h sz v rows) {k : Nat} (hk : k ≤ rows.length) : ∃ v', (∀ h', h'.next ≥ h.next → (∀ i, i < h.next → h'.get i = h.get i) → zbk sz h' (some (.int .i64 (k : Int))) none v = some (v', h')) ∧ Row h sz v' (rows.drop k) ∧ ∀ b o n c, v' = .slice (some ⟨b, o, none⟩) n c → ∃ o' n' c', v = .slice (some ⟨b, o', none⟩) n' c' := by
  cases hr with
  | nil =>
    have : k = 0 := by simpa using hk
    subst this
    exact ⟨_, fun h' _ _ => rfl, .nil, fun _ _ _ _ e => by cases e⟩
  | @hole b off hlt =>
    have : k = 0 := by simpa using hk
    subst this
    exact ⟨.slice (some ⟨b, off, none⟩) 0 0, fun h' _ _ => rfl, .hole hlt, fun _ _ _ _ e => by cases e; exact ⟨_, _, _, rfl⟩⟩
  | @cells b off cap e cs rows hlt hg hrd hcap =>
    have hrd' : ∀ i r, (rows.drop k)[i]? = some r → zU sz (zby (off + k * sz + i * sz) cs) = some r := by
      intro i r hi
      rw [List.getElem?_drop] at hi
      have := hrd _ _ hi
      rwa [Nat.add_mul, ← Nat.add_assoc] at this
    have hlen : (rows.drop k).length = rows.length - k := List.length_drop ..
    have hkk : inB ((k : Nat) : Int) rows.length = some k := by show (if Nat.ble k rows.length = true then _ else _) = _; rw [if_pos (by simpa using hk)]
    rcases hcap with ⟨rfl, rfl, h0, hl⟩ | ⟨hne, hle⟩
    · refine ⟨.slice (some ⟨b, off + k * e, none⟩) (rows.length - k) zk, fun h' _ hget => ?_, ?_, fun _ _ _ _ e => by cases e; exact ⟨_, _, _, rfl⟩⟩
      · unfold zbk; dsimp only
        rw [if_pos (by simp), Option.bind_some]
        dsimp only
        rw [hget b hlt, hg, Option.bind_some]
        unfold zcN; dsimp only
        rw [if_pos (by simp [h0])]
        simp only [zdr, Option.bind_some, hkk, Option.map_some]
      · rw [← hlen]
        refine .cells hlt hg hrd' (.inl ⟨rfl, rfl, h0, ?_⟩)
        rw [hlen, Nat.sub_mul]
        have : k * e ≤ rows.length * e := Nat.mul_le_mul_right _ hk
        omega
    · have hs : ∀ h' : H, zbk sz h' (some (.int .i64 (k : Int))) none (.slice (some ⟨b, off, none⟩) rows.length cap) = some (.slice (if Nat.beq cap k then some ⟨b, off, none⟩ else some ⟨b, off + k * sz, none⟩) (rows.length - k) (cap - k), h') := by
        intro h'
        unfold zbk; dsimp only
        rw [if_neg (by simp; omega)]
        simp only [zdr, Option.bind_some, hkk, Option.map_some]
      refine ⟨_, fun h' _ _ => hs h', ?_, fun _ _ _ _ e => by split at e <;> (cases e; exact ⟨_, _, _, rfl⟩)⟩
      rw [← hlen]
      by_cases e : cap = k
      · have hd : rows.drop k = [] := List.drop_eq_nil_of_le (by omega)
        rw [if_pos (by simpa using e)]
        refine .cells hlt hg (fun i r hi => ?_) (.inr ⟨?_, ?_⟩)
        · rw [hd] at hi; simp at hi
        · omega
        · rw [hlen]; omega
      · rw [if_neg (by simpa using e)]
        refine .cells hlt hg hrd' ?_
        exact .inr ⟨by omega, by rw [hlen]; omega⟩
structure SlV (v : Value) (n : Nat) : Prop where
  clean : zS v = true
  cell : zbb v = true
  cells : zj v = [v]
  take : zU 1 [v] = some [v]
  one : zhP [v] = some v
  eq : zh6 v v = true
  eqc : zcD v v = true
  len : ∀ h, bltV h .len [v] = some (.int .i64 n, h)
theorem SlV.of (b : Option Addr) (n c : Nat) (h : ∀ a, b = some a → a.spot = none) : SlV (.slice b n c) n := by
  refine ⟨rfl, rfl, rfl, rfl, rfl, ?_, ?_, fun _ => rfl⟩
  · cases b with
    | none => simp
    | some a => obtain ⟨x, y, z⟩ := a; have := h _ rfl; simp only at this; subst this; simp
  · cases b with
    | none => simp
    | some a => obtain ⟨x, y, z⟩ := a; have := h _ rfl; simp only at this; subst this; simp
theorem Row.slv {h : H} {sz : Nat} {v : Value} {rows : List (List Value)} (hr : Row h sz v rows) : SlV v rows.length := by
  cases hr with
  | nil => exact .of _ _ _ nofun
  | hole => exact .of _ _ _ fun a e => by cases e; rfl
  | cells => exact .of _ _ _ fun a e => by cases e; rfl
theorem Row.slvM {α : Type} {h : H} {sz : Nat} {v : Value} {es : List α} {f : α → List Value} (hr : Row h sz v (es.map f)) : SlV v es.length := by
  have := hr.slv; rwa [List.length_map] at this
theorem zfH {l : Nat} {h : H} {sl : zf} {rc : RC} (hg : h.get l = some (.loop .ready none sl rc)) (kn : H → Option Out) (ke : Nat → H → Option Out) (kr : H → Option Out) : rgP l h kn ke kr = kn (h.put l (.loop .exhausted none sl rc)) := by
  unfold rgP; rw [hg]; rfl
theorem rgP_ret {l : Nat} {h : H} {sl : zf} {rc : RC} (hg : h.get l = some (.loop .done (some .ret) sl rc)) (kn : H → Option Out) (ke : Nat → H → Option Out) (kr : H → Option Out) : rgP l h kn ke kr = kr (h.put l (.loop .exhausted (some .ret) sl rc)) := by
  unfold rgP; rw [hg]; rfl
theorem rgP_exit {l i : Nat} {h : H} {sl : zf} {rc : RC} (hg : h.get l = some (.loop .done (some (.exit i)) sl rc)) (kn : H → Option Out) (ke : Nat → H → Option Out) (kr : H → Option Out) : rgP l h kn ke kr = ke i (h.put l (.loop .exhausted (some (.exit i)) sl rc)) := by
  unfold rgP; rw [hg]; rfl
theorem zhr {l : Nat} {h : H} {p : Option CC} {sl : zf} {rc : RC} (hg : h.get l = some (.loop .ready p sl rc)) (k : H → Option Out) : zfn l h k = k (h.put l (.loop .busy p sl rc)) := by
  unfold zfn; rw [hg]; rfl
theorem zeS {l : Nat} {h : H} {st : LoopState} {p : Option CC} {sl : zf} {rc : RC} (hg : h.get l = some (.loop st p sl rc)) : fin l none h = some (.val (.bool true) (h.put l (.loop .ready none sl rc))) := by
  unfold fin; rw [hg]; rfl
theorem fin_some {l : Nat} {h : H} {st : LoopState} {p : Option CC} {sl : zf} {rc : RC} {q : CC} (hg : h.get l = some (.loop st p sl rc)) : fin l (some q) h = some (.val (.bool false) (h.put l (.loop .done (some q) sl rc))) := by
  unfold fin; rw [hg]; rfl
theorem isFn_func (g : FuncId) (a b : Array Value) : isFn (.func (.func g) a b) = some (.func (.func g) a b) := id rfl
theorem clean_func (f : Fn) (a b : Array Value) : zS (.func f a b) = true := id rfl
theorem cell_func (f : Fn) (a b : Array Value) : zbb (.func f a b) = true := id rfl
theorem cellsL_func (f : Fn) (a b : Array Value) : zj (.func f a b) = [.func f a b] := id rfl
theorem cellsL_ptr (a : Option Addr) : zj (.pointer a) = [.pointer a] := id rfl
theorem some_map_pair (v : Value) (h : H) : (some v).map (·, h) = some (v, h) := id rfl
theorem vExtract20 (a b : Value) (h : H) : zm 0 (.tuple #[a, b]) h = some (a, h) := id rfl
theorem vExtract21 (a b : Value) (h : H) : zm 1 (.tuple #[a, b]) h = some (b, h) := id rfl
theorem vExtract20' (a b : Value) (h : H) : zm 0 (.tuple ⟨[a, b]⟩) h = some (a, h) := id rfl
theorem vExtract21' (a b : Value) (h : H) : zm 1 (.tuple ⟨[a, b]⟩) h = some (b, h) := id rfl
theorem cons_get0 (a : Value) (l : List Value) : (a :: l)[0]? = some a := id rfl
theorem cons_get1 (a b : Value) (l : List Value) : (a :: b :: l)[1]? = some b := id rfl
theorem cons_get2 (a b c : Value) (l : List Value) : (a :: b :: c :: l)[2]? = some c := id rfl
theorem ite_nat_ne {α : Sort _} {a b : Nat} {x y : α} (h : a ≠ b) : (if a = b then x else y) = y := if_neg h
theorem takeC_int (n : Nat) (k : IntKind) (a : Int) (l : List Value) : zU (n + 1) (.int k a :: l) = (zU n l).map (.int k a :: ·) := zd4 rfl
theorem takeC_bool (n : Nat) (b : Bool) (l : List Value) : zU (n + 1) (.bool b :: l) = (zU n l).map (.bool b :: ·) := zd4 rfl
theorem takeC_sl (n : Nat) (a : Option Addr) (m c : Nat) (l : List Value) : zU (n + 1) (.slice a m c :: l) = (zU n l).map (.slice a m c :: ·) := zd4 rfl
theorem takeC_ptr (n : Nat) (a : Option Addr) (l : List Value) : zU (n + 1) (.pointer a :: l) = (zU n l).map (.pointer a :: ·) := zd4 rfl
theorem takeC_func (n : Nat) (f : Fn) (a b : Array Value) (l : List Value) : zU (n + 1) (.func f a b :: l) = (zU n l).map (.func f a b :: ·) := zd4 rfl
theorem takeC_map (n : Nat) (m : Option Nat) (l : List Value) : zU (n + 1) (.map m :: l) = (zU n l).map (.map m :: ·) := zd4 rfl
theorem clean_map (m : Option Nat) : zS (.map m) = true := id rfl
theorem cell_map (m : Option Nat) : zbb (.map m) = true := id rfl
theorem cellsL_map (m : Option Nat) : zj (.map m) = [.map m] := id rfl
attribute [simp] cons_get0 cons_get1 cons_get2 vExtract20 vExtract21 vExtract20' vExtract21' ite_nat_ne takeC_int takeC_bool takeC_sl takeC_ptr takeC_func takeC_map clean_map cell_map cellsL_map br_pos br_neg gdT_pos gdT_neg gdF_pos gdF_neg vPick_pos vPick_neg zgi zbV zw zo new_put_eq put_put_eq isFn_func clean_func cell_func cellsL_func cellsL_ptr
end Go.Ideal
namespace Go.Ideal
variable {F : FuncId → Option zr}
inductive Grow (h : H) (sz : Nat) : Value → List (List Value) → Option Nat → Prop
  | nil : Grow h sz (.slice none 0 0) [] none
  | cells {b : Nat} {rows : List (List Value)} (hlt : b < h.next) (hg : h.get b = some (.cells rows.flatten sz)) (hr : ∀ r ∈ rows, r.length = sz ∧ r.all zS = true) : Grow h sz (.slice (some ⟨b, 0, none⟩) rows.length zk) rows (some b)
  | full {b e : Nat} {rows : List (List Value)} (hlt : b < h.next) (hg : h.get b = some (.cells rows.flatten e)) (hr : ∀ r ∈ rows, r.length = sz ∧ r.all zS = true) (hc : rows.length < zk) : Grow h sz (.slice (some ⟨b, 0, none⟩) rows.length rows.length) rows (some b)
theorem takeN_len : ∀ (l r : List Value), zfA l.length (l ++ r) = some l
  | [], r => rfl
  | a :: l, r => by rw [List.length_cons, List.cons_append, takeN_s, takeN_len l]; rfl
theorem zdi {l r : List Value} (h : l.all zS = true) {n : Nat} (hn : n = l.length) : zU n (l ++ r) = some l := by subst hn; exact takeC_of (takeN_len l r) h
theorem zhA {l : List Value} (h : l.all zS = true) {n : Nat} (hn : n = l.length) : zU n l = some l := by have := zdi (r := []) h hn; rwa [List.append_nil] at this
theorem zem : ∀ (l r : List Value), zby l.length (l ++ r) = r
  | [], _ => rfl
  | a :: l, r => by rw [List.length_cons, List.cons_append, dropN_s]; exact zem l r
theorem zeR {sz : Nat} : ∀ {rows : List (List Value)}, (∀ r ∈ rows, r.length = sz) → rows.flatten.length = rows.length * sz
  | [], _ => by simp
  | r :: rows, h => by
    rw [List.flatten_cons, List.length_append, zeR (fun x hx => h x (by simp [hx])), h r (by simp), List.length_cons]
    rw [Nat.succ_mul]; omega
theorem zgk {rows : List (List Value)} (h : ∀ r ∈ rows, r.all zS = true) : rows.flatten.all zS = true := by
  rw [List.all_flatten]; exact List.all_eq_true.2 h
theorem flat_row {sz : Nat} : ∀ {rows : List (List Value)}, (∀ r ∈ rows, r.length = sz ∧ r.all zS = true) → ∀ {i : Nat} {r : List Value}, rows[i]? = some r → zU sz (zby (i * sz) rows.flatten) = some r
  | [], _, i, r, hi => by simp at hi
  | x :: rows, h, i, r, hi => by
    have hx := h x (by simp)
    rw [List.flatten_cons]
    cases i with
    | zero =>
      rw [Nat.zero_mul, zgm]
      simp at hi; subst hi
      exact zdi hx.2 hx.1.symm
    | succ i =>
      have e : ∀ (l r : List Value) (n : Nat), zby (l.length + n) (l ++ r) = zby n r := by
        intro l r n
        induction l with
        | nil => simp
        | cons a l ih => rw [List.length_cons, List.cons_append, Nat.add_right_comm, dropN_s]; exact ih
      rw [Nat.succ_mul, Nat.add_comm, ← hx.1, e x rows.flatten]
      rw [hx.1]
      exact flat_row (fun y hy => h y (by simp [hy])) (by simpa using hi)
theorem Grow.row {h : H} {sz : Nat} {v : Value} {rows : List (List Value)} {ob : Option Nat} (hg : Grow h sz v rows ob) (hs : 0 < sz) : Row h sz v rows := by
  cases hg with
  | nil => exact .nil
  | cells hlt hg hr =>
    refine .cells hlt hg (fun i r hi => ?_) (.inl ⟨rfl, rfl, hs, ?_⟩)
    · rw [Nat.zero_add]; exact flat_row hr hi
    · rw [Nat.zero_add, zeR (fun r hx => (hr r hx).1)]; exact Nat.le_refl _
  | full hlt hg hr hc =>
    refine .cells hlt hg (fun i r hi => ?_) (.inr ⟨hc, Nat.le_refl _⟩)
    rw [Nat.zero_add]; exact flat_row hr hi
theorem Grow.len {h : H} {sz : Nat} {v : Value} {rows : List (List Value)} {ob : Option Nat} (hg : Grow h sz v rows ob) : ∃ base c, v = .slice base rows.length c := by
  cases hg <;> exact ⟨_, _, rfl⟩
theorem Grow.slv {h : H} {sz : Nat} {v : Value} {rows : List (List Value)} {ob : Option Nat} (hg : Grow h sz v rows ob) : SlV v rows.length := by
  cases hg with
  | nil => exact .of _ _ _ nofun
  | cells => exact .of _ _ _ fun a e => by cases e; rfl
  | full => exact .of _ _ _ fun a e => by cases e; rfl
theorem Grow.slvM {α : Type} {h : H} {sz : Nat} {v : Value} {es : List α} {f : α → List Value} {ob : Option Nat} (hg : Grow h sz v (es.map f) ob) : SlV v es.length := by
  have := hg.slv; rwa [List.length_map] at this
theorem Grow.block {h : H} {sz : Nat} {v : Value} {rows : List (List Value)} {ob : Option Nat} (hg : Grow h sz v rows ob) {b o n c : Nat} (e : v = .slice (some ⟨b, o, none⟩) n c) : ob = some b := by
  cases hg with
  | nil => cases e
  | cells => cases e; rfl
  | full => cases e; rfl
theorem Grow.frD {D : Nat → Prop} {h h' : H} {sz : Nat} {v : Value} {rows : List (List Value)} {ob : Option Nat} (hg : Grow h sz v rows ob) (hf : FrD D h h') (hd : ∀ b, ob = some b → ¬ D b) : Grow h' sz v rows ob := by
  cases hg with
  | nil => exact .nil
  | cells hlt hg hr => exact .cells (Nat.lt_of_lt_of_le hlt hf.next) ((hf.get _ hlt (hd _ rfl)).trans hg) hr
  | full hlt hg hr hc => exact .full (Nat.lt_of_lt_of_le hlt hf.next) ((hf.get _ hlt (hd _ rfl)).trans hg) hr hc
theorem Grow.fr {h h' : H} {sz : Nat} {v : Value} {rows : List (List Value)} {ob : Option Nat} (hg : Grow h sz v rows ob) (hf : Fr h h') : Grow h' sz v rows ob := hg.frD (D := fun _ => False) hf.D (by simp)
theorem Grow.lt {h : H} {sz : Nat} {v : Value} {rows : List (List Value)} {b : Nat} (hg : Grow h sz v rows (some b)) : b < h.next := by
  cases hg with
  | cells hlt hg hr => exact hlt
  | full hlt hg hr => exact hlt
theorem zgV {h : H} {sz bytes : Nat} {v w : Value} {rows news : List (List Value)} {ob : Option Nat} (hs : 0 < sz) (hsb : sz ≠ roE) (hg : Grow h sz v rows ob) (hne : news ≠ []) (ha : zcm h sz w = some (news.length, news.flatten)) (hcell : news.flatten.all zbb = true)
    (hr : ∀ r ∈ news, r.length = sz ∧ r.all zS = true) (hb : (rows.length + news.length) * bytes ≤ 1073741824) :
    ∃ h', bltV h (.append sz bytes) [v, w] = some (.slice (some ⟨h.next, 0, none⟩) (rows.length + news.length) zk, h') ∧ Grow h' sz (.slice (some ⟨h.next, 0, none⟩) (rows.length + news.length) zk) (rows ++ news) (some h.next) ∧ h'.next = h.next + 1 ∧ FrD (fun j => ob = some j) h h' ∧ h'.get h.next = some (.cells (rows ++ news).flatten sz) := by
  have hl : 0 < news.length := List.length_pos_iff.2 hne
  have hn0 : ¬ Nat.beq news.length 0 = true := by simp; omega
  have hbb : (Nat.ble ((rows.length + news.length) * bytes) 1073741824 && news.flatten.all zbb) = true := by simp only [Bool.and_eq_true]; exact ⟨by simpa using hb, hcell⟩
  have hrows : ∀ r ∈ rows ++ news, r.length = sz ∧ r.all zS = true := by
    intro r hx
    rcases List.mem_append.1 hx with hx | hx
    · cases hg with
      | nil => cases hx
      | cells _ _ hrr => exact hrr r hx
      | full _ _ hrr => exact hrr r hx
    · exact hr r hx
  have key : ∀ h1 : H, h1.next = h.next → FrD (fun j => ob = some j) h h1 → bltV h (.append sz bytes) [v, w] = some (.slice (some ⟨h.next, 0, none⟩) (rows.length + news.length) zk, h1.new (.cells (rows ++ news).flatten sz)) →
      ∃ h', bltV h (.append sz bytes) [v, w] = some (.slice (some ⟨h.next, 0, none⟩) (rows.length + news.length) zk, h') ∧ Grow h' sz (.slice (some ⟨h.next, 0, none⟩) (rows.length + news.length) zk) (rows ++ news) (some h.next) ∧ h'.next = h.next + 1 ∧ FrD (fun j => ob = some j) h h' ∧ h'.get h.next = some (.cells (rows ++ news).flatten sz) := by
    intro h1 e1 e2 e3
    refine ⟨_, e3, ?_, by simp [e1], e2.new _, by rw [← e1]; simp⟩
    rw [← List.length_append, ← e1]
    exact .cells (by simp) (by simp) hrows
  have hb0 : bltV h (.append sz bytes) [v, w] = zcn sz bytes news.length news.flatten h v := by
    show (zcm h sz w).bind (fun nl => zcn sz bytes nl.1 nl.2 h v) = _
    rw [ha, Option.bind_some]
  cases hg with
  | nil =>
    refine key h rfl (.refl _ _) ?_
    rw [hb0]
    unfold zcn; dsimp only
    have hbb' : (Nat.ble ((0 + news.length) * bytes) 1073741824 && news.flatten.all zbb) = true := hbb
    rw [if_neg hn0, if_pos hbb', if_pos (by rfl)]
    simp [zdH]
  | @cells b rows hlt hgb hrr =>
    refine key (h.put b .dead) rfl ((FrD.refl _ _).put (D := fun j => some b = some j) (.inr rfl) _) ?_
    rw [hb0]
    have hlen : rows.flatten.length = rows.length * sz := zeR fun r hx => (hrr r hx).1
    have hdiv : (rows.flatten.length - 0) / sz = rows.length := by rw [Nat.sub_zero, hlen, Nat.mul_div_cancel _ hs]
    have hble : ¬ (Nat.ble (rows.length + news.length) rows.length = true) := by rw [Nat.ble_eq]; omega
    have hro : (Nat.beq sz sz && !Nat.beq sz roE) = true := by
      have : Nat.beq sz roE = false := by rw [Bool.eq_false_iff]; intro h; exact hsb (Nat.eq_of_beq_eq_true h)
      rw [this]; simp
    have hoc : Nat.beq zk zk = true := Nat.beq_refl _
    unfold zcn; dsimp only
    rw [if_neg hn0, if_pos hbb, hgb, Option.bind_some]
    unfold zeV; dsimp only
    rw [if_pos hoc, if_pos hro, hdiv, if_neg hble]
    unfold zjq
    rw [zgm, zhA (zgk fun r hx => (hrr r hx).2) hlen.symm]
    simp [zdH, H.put]
  | @full b e rows hlt hgb hrr hc =>
    refine key h rfl (.refl _ _) ?_
    rw [hb0]
    have hlen : rows.flatten.length = rows.length * sz := zeR fun r hx => (hrr r hx).1
    have hble : ¬ (Nat.ble (rows.length + news.length) rows.length = true) := by rw [Nat.ble_eq]; omega
    have hoc : ¬ Nat.beq rows.length zk = true := fun h => by have := Nat.eq_of_beq_eq_true h; omega
    unfold zcn; dsimp only
    rw [if_neg hn0, if_pos hbb, hgb, Option.bind_some]
    unfold zeV; dsimp only
    rw [if_neg hoc, if_neg hble]
    unfold zjq
    rw [zgm, zhA (zgk fun r hx => (hrr r hx).2) hlen.symm]
    simp [zdH]
theorem ziz {h : H} {sz bytes : Nat} {v w : Value} {rows news : List (List Value)} {ob : Option Nat} (hs : 0 < sz) (hsb : sz ≠ roE) (hg : Grow h sz v rows ob) (hne : news ≠ []) (ha : zcm h sz w = some (news.length, news.flatten)) (hcell : news.flatten.all zbb = true)
    (hr : ∀ r ∈ news, r.length = sz ∧ r.all zS = true) (hb : (rows.length + news.length) * bytes ≤ 1073741824) :
    ∃ h' v', bltV h (.append sz bytes) [v, w] = some (v', h') ∧ Grow h' sz v' (rows ++ news) (some h.next) ∧ h'.next = h.next + 1 ∧ FrD (fun j => ob = some j) h h' := by
  obtain ⟨h', h1, h2, h3, h4, _⟩ := zgV hs hsb hg hne ha hcell hr hb
  exact ⟨h', _, h1, h2, h3, h4⟩
theorem zgU {h : H} {sz b e : Nat} {r : List Value} (hg : h.get b = some (.cells r e)) (hl : r.length = sz) (hc : r.all zS = true) : zcm h sz (.slice (some ⟨b, 0, none⟩) 1 1) = some ([r].length, [r].flatten) := by
  show (h.readN b 0 (1 * sz)).map _ = _
  rw [readN_of hg, zgm, zhA hc (by omega)]
  simp
theorem zcL {h : H} {sz bytes b e : Nat} {v : Value} {r : List Value} {rows : List (List Value)} {ob : Option Nat} (hs : 0 < sz) (hsb : sz ≠ roE) (hg : Grow h sz v rows ob) (hgb : h.get b = some (.cells r e)) (hl : r.length = sz) (hc : r.all zS = true) (hi : r.all zbb = true) (hb : (rows.length + 1) * bytes ≤ 1073741824) :
    ∃ h' v', bltV h (.append sz bytes) [v, .slice (some ⟨b, 0, none⟩) 1 1] = some (v', h') ∧ Grow h' sz v' (rows ++ [r]) (some h.next) ∧ h'.next = h.next + 1 ∧ FrD (fun j => ob = some j) h h' :=
  ziz hs hsb hg (by simp) (zgU hgb hl hc) (by simpa using hi) (by simp; exact ⟨hl, by simpa using hc⟩) hb
end Go.Ideal
namespace Go.Ideal
abbrev key2 (a b : Int) : Value := .agg ⟨[.int .i64 a, .int .i64 b]⟩
abbrev kk2 : KK := .leaves [0, 1]
theorem zcP (a b c d : Int) : zbh kk2 (key2 a b) (key2 c d) = some (decide (a = c) && decide (b = d)) := by
  have : zbh kk2 (key2 a b) (key2 c d) = some (eqI a c && (eqI b d && true)) := rfl
  rw [this, zcs, zcs, Bool.and_true]; congr 1
structure MapIs (es : List (Value × Value × Nat)) (r : Int → Int → Option Value) : Prop where
  look : ∀ a b, zeZ kk2 (key2 a b) es = some (r a b)
  keys : ∀ e ∈ es, ∃ a b, e.1 = key2 a b
theorem MapIs.nil : MapIs [] fun _ _ => none := ⟨fun _ _ => rfl, fun e h => by cases h⟩
def upd2 (r : Int → Int → Option Value) (a b : Int) (v : Value) : Int → Int → Option Value := fun c d => if c = a ∧ d = b then some v else r c d
theorem zdq (k key v : Value) (b : Nat) (es : List (Value × Value × Nat)) : zeZ kk2 k ((key, v, b) :: es) = (zbh kk2 k key).bind fun s => match s with | true => some (some v) | false => zeZ kk2 k es := rfl
theorem setE_cons (k v key w : Value) (clock b : Nat) (es : List (Value × Value × Nat)) : setE kk2 k v clock ((key, w, b) :: es) = (zbh kk2 k key).bind fun s => match s with
    | true => if zY (zj k) (zj key) then some ((k, v, b) :: es, clock) else none
    | false => (setE kk2 k v clock es).map fun x => ((key, w, b) :: x.1, x.2) := rfl
theorem sameInts_key2 (a b : Int) : zY (zj (key2 a b)) (zj (key2 a b)) = true := by
  show (match decide (IntKind.i64 = IntKind.i64) && eqI a a with | true => (match decide (IntKind.i64 = IntKind.i64) && eqI b b with | true => true | false => false) | false => false) = true
  simp [zcs]
theorem setE_find (a b : Int) (v : Value) : ∀ (es : List (Value × Value × Nat)) (clock : Nat), (∀ e ∈ es, ∃ a b, e.1 = key2 a b) → ∃ es' c', setE kk2 (key2 a b) v clock es = some (es', c') ∧ (∀ e ∈ es', ∃ a b, e.1 = key2 a b) ∧
    ∀ c d, zeZ kk2 (key2 c d) es' = if c = a ∧ d = b then some (some v) else zeZ kk2 (key2 c d) es
  | [], clock, _ => ⟨_, _, rfl, fun e h => by rw [List.mem_singleton] at h; subst h; exact ⟨_, _, rfl⟩, fun c d => by
      rw [zdq, zcP]
      by_cases h1 : c = a
      · by_cases h2 : d = b
        · simp [h1, h2]
        · simp [h1, h2, zeZ]
      · simp [h1, zeZ]⟩
  | (key, w, n) :: es, clock, hk => by
    obtain ⟨p, q, e⟩ := hk (key, w, n) (by simp)
    have e : key = key2 p q := e
    subst e
    rw [setE_cons, zcP]
    by_cases hab : a = p ∧ b = q
    · obtain ⟨rfl, rfl⟩ := hab
      refine ⟨(key2 a b, v, n) :: es, clock, by rw [decide_eq_true rfl, decide_eq_true rfl]; show (if zY (zj (key2 a b)) (zj (key2 a b)) = true then _ else _) = _; rw [if_pos (sameInts_key2 a b)], fun e he => ?_, fun c d => ?_⟩
      · rcases List.mem_cons.1 he with rfl | he
        · exact ⟨_, _, rfl⟩
        · exact hk e (by simp [he])
      · rw [zdq, zdq, zcP]
        by_cases h : c = a ∧ d = b
        · simp [h]
        · rw [if_neg h]
          have : (decide (c = a) && decide (d = b)) = false := by
            rw [Bool.eq_false_iff]; intro h'; simp at h'; exact h h'
          rw [this]; rfl
    · have hf : (decide (a = p) && decide (b = q)) = false := by
        rw [Bool.eq_false_iff]; intro h'; simp at h'; exact hab h'
      obtain ⟨es', c', h1, h2, h3⟩ := setE_find a b v es clock fun e he => hk e (by simp [he])
      refine ⟨(key2 p q, w, n) :: es', c', by rw [hf]; simp [h1], fun e he => ?_, fun c d => ?_⟩
      · rcases List.mem_cons.1 he with rfl | he
        · exact ⟨_, _, rfl⟩
        · exact h2 e he
      · rw [zdq, zdq, zcP, h3]
        by_cases h : c = p ∧ d = q
        · obtain ⟨rfl, rfl⟩ := h
          have : ¬ (c = a ∧ d = b) := fun h => hab ⟨h.1.symm, h.2.symm⟩
          simp [this]
        · have : (decide (c = p) && decide (d = q)) = false := by
            rw [Bool.eq_false_iff]; intro h'; simp at h'; exact h h'
          rw [this]; simp
theorem MapIs.set {es : List (Value × Value × Nat)} {r : Int → Int → Option Value} (m : MapIs es r) (a b : Int) (v : Value) (clock : Nat) : ∃ es' c', setE kk2 (key2 a b) v clock es = some (es', c') ∧ MapIs es' (upd2 r a b v) := by
  obtain ⟨es', c', h1, h2, h3⟩ := setE_find a b v es clock m.keys
  refine ⟨es', c', h1, ⟨fun c d => ?_, h2⟩⟩
  rw [h3, m.look]
  unfold upd2
  split <;> rfl
def MapM (h : H) (m : Nat) (r : Int → Int → Option Value) : Prop := ∃ es c, h.get m = some (.map es c) ∧ MapIs es r
theorem MapM.fr {D : Nat → Prop} {h h' : H} {m : Nat} {r : Int → Int → Option Value} (hm : MapM h m r) (hf : FrD D h h') (hl : m < h.next) (hd : ¬ D m) : MapM h' m r := by
  obtain ⟨es, c, h1, h2⟩ := hm
  exact ⟨es, c, (hf.get _ hl hd).trans h1, h2⟩
theorem look_ok {h : H} {m : Nat} {r : Int → Int → Option Value} (hm : MapM h m r) (z : Value) (a b : Int) : zb0 kk2 z true (.map (some m)) (key2 a b) h = some (.tuple #[(r a b).getD z, .bool (r a b).isSome], h) := by
  obtain ⟨es, c, h1, h2⟩ := hm
  show ((zbh kk2 (key2 a b) (key2 a b)).bind fun _ => (zbK h (.map (some m))).bind fun es => (zeZ kk2 (key2 a b) es).map fun r => (zed z true r, h)) = _
  rw [zcP, Option.bind_some]
  have : zbK h (.map (some m)) = some es := by unfold zbK; simp [h1]
  rw [this, Option.bind_some, h2.look, Option.map_some]
  cases r a b <;> rfl
theorem look1_ok {h : H} {m : Nat} {r : Int → Int → Option Value} (hm : MapM h m r) (z : Value) (a b : Int) : zb0 kk2 z false (.map (some m)) (key2 a b) h = some ((r a b).getD z, h) := by
  obtain ⟨es, c, h1, h2⟩ := hm
  show ((zbh kk2 (key2 a b) (key2 a b)).bind fun _ => (zbK h (.map (some m))).bind fun es => (zeZ kk2 (key2 a b) es).map fun r => (zed z false r, h)) = _
  rw [zcP, Option.bind_some]
  have : zbK h (.map (some m)) = some es := by unfold zbK; simp [h1]
  rw [this, Option.bind_some, h2.look, Option.map_some]
  cases r a b <;> rfl
theorem upd_ok {h : H} {m : Nat} {r : Int → Int → Option Value} (hm : MapM h m r) (a b : Int) (v : Value) : ∃ o, ze2 kk2 h (key2 a b) v (.map (some m)) = some (zD, h.put m o) ∧ MapM (h.put m o) m (upd2 r a b v) := by
  obtain ⟨es, c, h1, h2⟩ := hm
  obtain ⟨es', c', h3, h4⟩ := h2.set a b v c
  refine ⟨.map es' c', ?_, ⟨es', c', zw rfl, h4⟩⟩
  show (h.get m).bind (mapSet kk2 h (key2 a b) v m) = _
  rw [h1, Option.bind_some]
  show ((zbh kk2 (key2 a b) (key2 a b)).bind fun _ => (setE kk2 (key2 a b) v c es).map fun y => (zD, h.put m (.map y.1 y.2))) = _
  rw [zcP, Option.bind_some, h3]; rfl
theorem zfw (a b c d : Int) (h : H) : vBin .eql (.leaves [0, 1]) (key2 a b) (key2 c d) h = some (.bool (decide (a = c ∧ b = d)), h) := by
  have e : eqV (.leaves [0, 1]) (key2 a b) (key2 c d) = some (eqI a c && (eqI b d && true)) := rfl
  show ((eqV (.leaves [0, 1]) (key2 a b) (key2 c d)).map Value.bool).map _ = _
  rw [e, zcs, zcs, Bool.and_true]
  show some (Value.bool _, h) = some (Value.bool _, h)
  congr 3
  rw [Bool.eq_iff_iff]; simp
end Go.Ideal
namespace Go.Ideal
open Go.ChangeShapes Go.WideShapes Go.RowKit
variable {P : Program} {W : World}
theorem zii {b o : Nat} {v : Value} (h : W.cell? ⟨b, o, none⟩ = some v) : ∃ c t fr, W.heap[b]? = some (.cells c t fr) ∧ c[o]? = some v := by
  unfold World.cell? at h
  dsimp only at h
  split at h
  · rename_i c t fr hb
    exact ⟨c, t, fr, hb, by simpa using h⟩
  · cases h
theorem spot_of_cell {a : Addr} {v : Value} (h : W.cell? a = some v) : a.spot = none := by
  unfold World.cell? at h
  split at h
  · split at h
    · cases h
    · rename_i hs; simpa using hs
  · cases h
theorem zeW {b o n : Nat} : (⟨b, o, none⟩ : Addr).add n = ⟨b, o + n, none⟩ := by
  unfold Addr.add
  split
  · rename_i e; subst e; rfl
  · rfl
theorem takeC_get {cs r : List Value} {n o : Nat} (hr : r.length = n) (hc : r.all zS = true) (h : ∀ k, k < n → cs[o + k]? = r[k]?) : zU n (zby o cs) = some r := by
  refine takeC_of ?_ hc
  rw [zfU, zfz]
  have hl : n ≤ (cs.drop o).length := by
    rcases Nat.lt_or_ge (cs.drop o).length n with h' | h'
    · exfalso
      have h0 : (cs.drop o).length < r.length := by omega
      have := h (cs.drop o).length h'
      rw [List.getElem?_eq_none (by rw [List.length_drop]; omega), List.getElem?_eq_getElem h0] at this
      cases this
    · exact h'
  rw [if_pos hl]
  congr 1
  apply List.ext_getElem?
  intro k
  by_cases hk : k < n
  · rw [List.getElem?_take, if_pos hk, List.getElem?_drop]; exact h k hk
  · rw [List.getElem?_take, if_neg hk, List.getElem?_eq_none (by omega)]
theorem list_of {α : Type} {Q : Nat → α → Prop} : ∀ n, (∀ i, i < n → ∃ x, Q i x) → ∃ l : List α, l.length = n ∧ ∀ i x, l[i]? = some x → Q i x
  | 0, _ => ⟨[], rfl, fun i x h => by simp at h⟩
  | n + 1, h => by
    obtain ⟨l, hl, hq⟩ := list_of n fun i hi => h i (by omega)
    obtain ⟨x, hx⟩ := h n (by omega)
    refine ⟨l ++ [x], by simp [hl], fun i y hy => ?_⟩
    by_cases e : i < n
    · rw [List.getElem?_append_left (by omega)] at hy; exact hq i y hy
    · rw [List.getElem?_append_right (by omega)] at hy
      have : i = n := by
        rcases Nat.lt_or_ge (i - l.length) 1 with h' | h'
        · omega
        · rw [List.getElem?_eq_none (by simpa using h')] at hy; cases hy
      subst this
      rw [hl, Nat.sub_self] at hy; simp at hy; subst hy; exact hx
section
variable {H : Type} {enc : TypeId × Value → H} {base : Nat} {spare : Nat → Bool} {held : Bool}
theorem zcY {t : TypeId} {k : IntKind} {fuel : Nat} {c : Value} {x : DataW H × List MemPlace} (ht : P.underlying t = some (.int k)) (h : DataW.trod enc P W base spare held fuel t [c] = some x) : ∃ n, c = .int k n ∧ (Lit.int k n).wf = true := by
  obtain ⟨n, e, _, hw⟩ := DataW.trod_int ht h
  cases e; exact ⟨n, rfl, hw⟩
theorem ints3_of_trod {t i0 i1 i2 : TypeId} {f0 f1 f2 : Field} {fuel : Nat} {cs : List Value} {x : DataW H × List MemPlace} (ht : P.underlying t = some (.struct #[f0, f1, f2])) (h0 : f0.type = i0 ∧ f0.offset = 0) (h1 : f1.type = i1 ∧ f1.offset = 1) (h2 : f2.type = i2 ∧ f2.offset = 2)
    (u0 : P.underlying i0 = some (.int .i64)) (u1 : P.underlying i1 = some (.int .i64)) (u2 : P.underlying i2 = some (.int .i64)) (c0 : P.cellsOf i0 = 1) (c1 : P.cellsOf i1 = 1) (c2 : P.cellsOf i2 = 1) (hc : P.cellsOf t = 3) (h : DataW.trod enc P W base spare held fuel t cs = some x) :
    ∃ a b c : Int, cs = [.int .i64 a, .int .i64 b, .int .i64 c] := by
  obtain ⟨xs, n, _, _, hl, hlen, hf⟩ := DataW.trod_struct ht h
  rw [hc] at hl
  match cs, hl with
  | [d0, d1, d2], _ =>
    have e0 := hf 0 f0 rfl
    have e1 := hf 1 f1 rfl
    have e2 := hf 2 f2 rfl
    rw [h0.1, h0.2, c0] at e0
    rw [h1.1, h1.2, c1] at e1
    rw [h2.1, h2.2, c2] at e2
    match xs, hlen with
    | [y0, y1, y2], _ =>
      obtain ⟨a, rfl, _⟩ := zcY u0 (show DataW.trod enc P W base spare held n i0 [d0] = some y0 from e0)
      obtain ⟨b, rfl, _⟩ := zcY u1 (show DataW.trod enc P W base spare held n i1 [d1] = some y1 from e1)
      obtain ⟨c, rfl, _⟩ := zcY u2 (show DataW.trod enc P W base spare held n i2 [d2] = some y2 from e2)
      exact ⟨a, b, c, rfl⟩
theorem row_of_trod {α : Type} {f : α → List Value} {sz : Nat} {t e : TypeId} {fuel : Nat} {v : Value} {x : DataW H × List MemPlace} (ht : P.underlying t = some (.slice e)) (hc : P.cellsOf e = sz) (hs : 0 < sz) (hlen : ∀ a, (f a).length = sz) (hclean : ∀ a, (f a).all zS = true) (hok : ∀ a, ∀ v ∈ f a, okV W v = true)
    (hel : ∀ fuel cs y, DataW.trod enc P W base spare held fuel e cs = some y → ∃ a, cs = f a)
    (hv : ∀ a len cap, v = .slice (some a) len cap → a.spot = none ∧ zbr W a.block = true)
    (h : DataW.trod enc P W base spare held fuel t [v] = some x) : okV W v = true ∧ ∃ es : List α, Row (impH W) sz v (es.map f) := by
  rcases DataW.trod_slice ht h with ⟨e0, _⟩ | ⟨a, len, cap, elems, rest, n, _, e0, _, hb, hl, hm, hlen', hel', hsp, hns⟩
  · cases e0
    exact ⟨rfl, [], .nil⟩
  · cases e0
    obtain ⟨hsp0, hic⟩ := hv a len cap rfl
    obtain ⟨b, o, s⟩ := a
    simp only at hsp0; subst hsp0
    have hic' := hic
    unfold zbr at hic
    dsimp only at hic hic'
    split at hic
    · rename_i c t' fr hbk
      have hcap : cap < zk := by unfold zk; unfold maxLen at hm; omega
      refine ⟨by simp [okV, hl, hcap, hic'], ?_⟩
      have hel2 : ∀ i, i < len → ∃ a : α, ∀ k, k < sz → W.cell? ⟨b, o + (i * sz + k), none⟩ = (f a)[k]? := by
        intro i hi
        have h1 := hel' i hi
        rw [List.getElem?_eq_getElem (by omega), hc] at h1
        obtain ⟨cs, hcs, hy⟩ := Option.bind_eq_some_iff.1 h1
        obtain ⟨a, rfl⟩ := hel _ _ _ hy
        obtain ⟨_, _, h3⟩ := World.cells?_some hcs
        refine ⟨a, fun k hk => ?_⟩
        have := h3 k hk
        rw [zeW, zeW] at this
        rw [← this, Nat.add_assoc]
      obtain ⟨es, hes, hq⟩ := list_of len hel2
      subst hes
      refine ⟨es, ?_⟩
      have hlm : es.length = (es.map f).length := (List.length_map _).symm
      rw [hlm]
      refine .cells ?_ (zeQ hbk) (fun i r hi => ?_) (.inr ⟨hcap, by rw [List.length_map]; exact hl⟩)
      · rw [zfQ]; exact Nat.lt_succ_of_lt (Array.getElem?_eq_some_iff.1 hbk).1
      · rw [List.getElem?_map] at hi
        obtain ⟨a, ha, rfl⟩ := Option.map_eq_some_iff.1 hi
        refine takeC_get (hlen a) (hclean a) fun k hk => ?_
        have hck := hq i a ha k hk
        have hkl : k < (f a).length := by rw [hlen]; exact hk
        have hka : (f a)[k]? = some (f a)[k] := List.getElem?_eq_getElem hkl
        rw [hka] at hck ⊢
        obtain ⟨c', t'', fr', hb', hco⟩ := zii hck
        rw [hbk] at hb'; cases hb'
        rw [List.getElem?_map, Nat.add_assoc, Array.getElem?_toList, hco]
        show some (impV W _) = _
        unfold impV
        rw [if_pos (hok a _ (List.getElem_mem _))]
    · cases hic
end
section
variable {H : Type} {enc : TypeId × Value → H} {base : Nat} {held : Bool}
theorem impV_int {k : IntKind} {n : Int} : impV W (.int k n) = .int k n := rfl
theorem impV_bool {b : Bool} : impV W (.bool b) = .bool b := rfl
theorem impV_str {s : ByteArray} : impV W (.string s) = .string s := rfl
theorem impV_ok {v : Value} (h : okV W v = true) : impV W v = v := by unfold impV; rw [if_pos h]
theorem nested_row {Q : List Value → Prop} {sz : Nat} {t e : TypeId} {fuel : Nat} {v : Value} {x : DataW H × List MemPlace} (ht : P.underlying t = some (.slice e)) (hc : P.cellsOf e = sz) (hs : 0 < sz) (hQ : ∀ r, Q r → r.length = sz ∧ r.all zS = true)
    (hel : ∀ n cs y, fuel = n + 1 → DataW.trod enc P W base (fun _ => true) held n e cs = some y → Q (cs.map (impV W)))
    (h : DataW.trod enc P W base (fun _ => true) held fuel t [v] = some x) : ∃ rows, Row (impH W) sz (impV W v) rows ∧ (∀ r ∈ rows, Q r) ∧ (∃ b n c, impV W v = .slice b n c ∧ zS (impV W v) = true) := by
  rcases DataW.trod_slice ht h with ⟨e0, _⟩ | ⟨a, len, cap, elems, rest, n, hfu, e0, _, hb, hl, hm, hlen', hel', hsp, hns⟩
  · cases e0
    exact ⟨[], .nil, by simp, _, _, _, rfl, rfl⟩
  · cases e0
    have hcap : cap < zk := by unfold zk; unfold maxLen at hm; omega
    by_cases hz : cap = 0
    · subst hz
      obtain rfl : len = 0 := by omega
      by_cases hok : okV W (.slice (some a) 0 0) = true
      · rw [impV_ok hok]
        unfold okV at hok
        simp only [Bool.and_eq_true, Option.isNone_iff_eq_none, decide_eq_true_eq] at hok
        obtain ⟨h1, h2, h3, h4⟩ := hok
        have hlt := zgf h4
        obtain ⟨b, o, s⟩ := a
        simp only at h1; subst h1
        exact ⟨[], .hole (by rw [zfQ]; exact Nat.lt_succ_of_lt hlt), by simp, _, _, _, rfl, rfl⟩
      · have : impV W (.slice (some a) 0 0) = dang W := by unfold impV; rw [if_neg hok]; rfl
        rw [this]
        exact ⟨[], .hole (by rw [zfQ]; exact Nat.lt_succ_self _), by simp, _, _, _, rfl, rfl⟩
    · have hcell : ∀ i, i < cap → ∃ cs y, W.cells? base (a.add (i * P.cellsOf e)) (P.cellsOf e) = some cs ∧ DataW.trod enc P W base (fun _ => true) held n e cs = some y := by
        intro i hi
        by_cases hil : i < len
        · have h1 := hel' i hil
          rw [List.getElem?_eq_getElem (by omega)] at h1
          obtain ⟨cs, hcs, hy⟩ := Option.bind_eq_some_iff.1 h1
          exact ⟨cs, _, hcs, hy⟩
        · obtain ⟨hrl, hr⟩ := hsp rfl
          have h1 := hr (i - len) (by omega)
          rw [List.getElem?_eq_getElem (by omega)] at h1
          obtain ⟨cs, hcs, hy⟩ := Option.bind_eq_some_iff.1 h1
          rw [show len + (i - len) = i by omega] at hcs
          exact ⟨cs, _, hcs, hy⟩
      have hspot : ∃ b o c t fr, a = ⟨b, o, none⟩ ∧ W.heap[b]? = some (.cells c t fr) := by
        obtain ⟨cs, y, hcs, hy⟩ := hcell 0 (by omega)
        obtain ⟨_, q2, q3⟩ := World.cells?_some hcs
        have hlc : 0 < cs.length := by
          have := (hQ _ (hel n cs y hfu hy)).1
          rw [List.length_map] at this; omega
        have hg : cs[0]? = some cs[0] := List.getElem?_eq_getElem hlc
        have h3 := q3 0 (by rw [hc]; exact hs)
        rw [hg] at h3
        have hsp0 := spot_of_cell h3
        obtain ⟨b, o, s⟩ := a
        have : s = none := by
          unfold Addr.add at hsp0
          cases s with
          | none => rfl
          | some _ => split at hsp0 <;> (try split at hsp0) <;> simp_all
        subst this
        rw [zeW, zeW] at h3
        obtain ⟨c, t', fr, hbk, _⟩ := zii h3
        exact ⟨b, o, c, t', fr, rfl, hbk⟩
      obtain ⟨b, o, c, t', fr, rfl, hbk⟩ := hspot
      have hic : zbr W b = true := by unfold zbr; rw [hbk]
      have hok : okV W (.slice (some ⟨b, o, none⟩) len cap) = true := by simp [okV, hl, hcap, hic]
      rw [impV_ok hok]
      have hel2 : ∀ i, i < len → ∃ r : List Value, zU sz (zby (o + i * sz) (c.toList.map (impV W))) = some r ∧ Q r := by
        intro i hi
        obtain ⟨cs, y, hcs, hy⟩ := hcell i (by omega)
        have hq := hel n cs y hfu hy
        obtain ⟨h1, h2⟩ := hQ _ hq
        refine ⟨_, takeC_get h1 h2 fun k hk => ?_, hq⟩
        obtain ⟨_, _, h3⟩ := World.cells?_some hcs
        have h3 := h3 k (by rw [hc]; exact hk)
        rw [List.length_map] at h1
        have hck : cs[k]? = some cs[k] := List.getElem?_eq_getElem (by omega)
        rw [zeW, zeW, hc, hck] at h3
        obtain ⟨c', t'', fr', hb', hco⟩ := zii h3
        rw [hbk] at hb'; cases hb'
        rw [List.getElem?_map, List.getElem?_map, Array.getElem?_toList, hco, hck]
      obtain ⟨rows, hrl, hrq⟩ := list_of len hel2
      subst hrl
      refine ⟨rows, .cells ?_ (zeQ hbk) (fun i r hi => (hrq i r hi).1) (.inr ⟨hcap, hl⟩), fun r hr => ?_, _, _, _, rfl, rfl⟩
      · rw [zfQ]; exact Nat.lt_succ_of_lt (Array.getElem?_eq_some_iff.1 hbk).1
      · obtain ⟨i, hi⟩ := List.mem_iff_getElem?.1 hr
        exact (hrq i r hi).2
end
theorem slice_ok {r : Reach} {base : Nat} {t e : TypeId} {v : Value} (ht : P.underlying t = some (.slice e)) (h : Cell.okWide P W r base t v) : ∀ a len cap, v = .slice (some a) len cap → a.spot = none ∧ zbr W a.block = true := by
  rintro a len cap rfl
  unfold Cell.okWide at h
  rw [ht] at h
  dsimp only at h
  unfold Cell.ok at h
  rw [ht] at h
  obtain ⟨_, _, _, hs, row, cells, hsh, _⟩ := h
  refine ⟨hs, ?_⟩
  unfold World.shape? at hsh
  unfold zbr
  split at hsh
  · rename_i hb; rw [hb]
  · cases hsh
end Go.Ideal
namespace Go.Ideal
variable {P : Program}
theorem VR.restrict {ρ σ : Rho} (hl : zf4 ρ σ) {v v' : Value} (h : VR σ v v') : ∀ {v0 : Value}, VR ρ v v0 → VR ρ v v' := by
  induction h with
  | bool b => intro v0 _; exact .bool b
  | int k n => intro v0 _; exact .int k n
  | str s => intro v0 _; exact .str s
  | ptrNil => intro v0 _; exact .ptrNil
  | ptr h => intro v0 h0; cases h0 with | ptr h' => have := hl _ _ h'; rw [h] at this; cases this; exact .ptr h'
  | sliceNil => intro v0 _; exact .sliceNil
  | slice h hc hl' => intro v0 h0; cases h0 with
    | slice h' _ _ => have := hl _ _ h'; rw [h] at this; cases this; exact .slice h' hc hl'
    | sliceO h' _ _ _ _ => exact (Nat.lt_irrefl _ hc).elim
    | sliceE h' _ _ => exact (Nat.lt_irrefl _ hc).elim
    | sliceD h' _ => have := hl _ _ h'; rw [h] at this; cases this; exact .slice h' hc hl'
  | sliceO h he hl' hs hb => intro v0 h0; cases h0 with
    | slice h' hc _ => exact (Nat.lt_irrefl _ hc).elim
    | sliceO h' _ _ _ _ => have := hl _ _ h'; rw [h] at this; cases this; exact .sliceO h' he hl' hs hb
    | sliceE h' _ _ => have := hl _ _ h'; rw [h] at this; cases this; exact .sliceO h' he hl' hs hb
  | sliceE h he hb => intro v0 h0; cases h0 with
    | slice h' hc _ => exact (Nat.lt_irrefl _ hc).elim
    | sliceO h' _ _ _ _ => have := hl _ _ h'; rw [h] at this; cases this; exact .sliceE h' he hb
    | sliceE h' _ _ => have := hl _ _ h'; rw [h] at this; cases this; exact .sliceE h' he hb
  | sliceD h hm => intro v0 h0; cases h0 with
    | slice h' _ _ => have := hl _ _ h'; rw [h] at this; cases this; exact .sliceD h' hm
    | sliceD h' _ => have := hl _ _ h'; rw [h] at this; cases this; exact .sliceD h' hm
  | mapNil => intro v0 _; exact .mapNil
  | map h => intro v0 h0; cases h0 with | map h' => have := hl _ _ h'; rw [h] at this; cases this; exact .map h'
  | func f ha hb ra rb ih1 ih2 =>
    intro v0 h0
    cases h0 with
    | func _ ha' hb' ra' rb' =>
      refine .func f ha hb (fun j x y hx hy => ?_) (fun j x y hx hy => ?_)
      · have hj : j < _ := (Array.getElem?_eq_some_iff.1 hx).1
        exact ih1 j x y hx hy (ra' j x _ hx (Array.getElem?_eq_getElem (by rw [← ha']; exact hj)))
      · have hj : j < _ := (Array.getElem?_eq_some_iff.1 hx).1
        exact ih2 j x y hx hy (rb' j x _ hx (Array.getElem?_eq_getElem (by rw [← hb']; exact hj)))
  | yield h => intro v0 h0; cases h0 with | yield h' => have := hl _ _ h'; rw [h] at this; cases this; exact .yield h'
  | nilFunc => intro v0 _; exact .nilFunc
  | agg ha ra ih =>
    intro v0 h0
    cases h0 with
    | agg ha' ra' =>
      refine .agg ha (fun j x y hx hy => ?_)
      have hj : j < _ := (Array.getElem?_eq_some_iff.1 hx).1
      exact ih j x y hx hy (ra' j x _ hx (Array.getElem?_eq_getElem (by rw [← ha']; exact hj)))
  | tuple ha ra ih =>
    intro v0 h0
    cases h0 with
    | tuple ha' ra' =>
      refine .tuple ha (fun j x y hx hy => ?_)
      have hj : j < _ := (Array.getElem?_eq_some_iff.1 hx).1
      exact ih j x y hx hy (ra' j x _ hx (Array.getElem?_eq_getElem (by rw [← ha']; exact hj)))
theorem OR.restrict {ρ σ : Rho} (hl : zf4 ρ σ) {w w' : World} {R : RB} {o : IObj} (h0 : OR P ρ w R o) (h : OR P σ w' R o) : OR P ρ w' R o := by
  cases o with
  | cells cs esz =>
    obtain ⟨h1, h2, c, t, fr, h3, h7, h4, h5, h6⟩ := h
    obtain ⟨-, -, c0, t0, fr0, -, -, -, -, k6⟩ := h0
    refine ⟨h1, h2, c, t, fr, h3, h7, h4, h5, fun j v hj => ?_⟩
    obtain ⟨v', a, b⟩ := h6 j v hj
    obtain ⟨v0, a0, b0⟩ := k6 j v hj
    refine ⟨v', a, ?_⟩
    rcases b0 with b0 | b0
    · exact .inl b0
    · rcases b with b | b
      · exact .inl b
      · exact .inr (b.restrict hl b0)
  | map es c =>
    obtain ⟨es', h1, h2, h3⟩ := h
    obtain ⟨es0, k1, k2, k3⟩ := h0
    refine ⟨es', h1, h2, fun j e hj => ?_⟩
    obtain ⟨e', a, b1, b2, b3⟩ := h3 j e hj
    obtain ⟨e0, -, d1, d2, -⟩ := k3 j e hj
    exact ⟨e', a, b1.restrict hl d1, b2.restrict hl d2, b3⟩
  | loop st pend sl rc =>
    obtain ⟨r, h1, h2, h3, h4, h5⟩ := h
    obtain ⟨r0, -, -, -, k4, -⟩ := h0
    refine ⟨r, h1, h2, h3, fun t v hv => ?_, h5⟩
    obtain ⟨v', a, b⟩ := h4 t v hv
    obtain ⟨v0, -, d⟩ := k4 t v hv
    exact ⟨v', a, b.restrict hl d⟩
  | dead => trivial
theorem HR.restrict {ρ σ : Rho} {h h2 : H} {w w2 : World} (hr : HR P ρ h w) (hr2 : HR P σ h2 w2) (he : Ext ρ w σ w2) (hf : ∀ i, i < h.next → h2.get i = h.get i) : HR P ρ h w2 ∧ Ext ρ w ρ w2 :=
  ⟨⟨fun i R o hi ho => (hr.obj i R o hi ho).restrict he.le (hr2.obj i R o (he.le i R hi) ((hf i (hr.lt ho)).trans ho)), hr.nxt, hr.sep, fun i R hi => Nat.lt_of_lt_of_le (hr.blk i R hi) he.size⟩,
   ⟨fun _ _ h => h, he.size, fun i R h => .inl ⟨i, R, h, rfl⟩, he.frame, he.loops, he.os, he.out, he.froz, he.td⟩⟩
def LeF (F G : FuncId → Option zr) : Prop := ∀ g cf, F g = some cf → G g = some cf
theorem E_leF {F G : FuncId → Option zr} (hFG : LeF F G) : ∀ (n : Nat), Le (E F n) (E G n)
  | 0 => fun t o h => by cases h
  | n + 1 => by
    have ih := E_leF hFG n
    intro t o h
    cases t with
    | code c s g => exact zig ih (show zb5 c (E F n) s g = some o from h)
    | call f a g =>
      have h1 : zbc F (E G n) a g f = some o := zij ih (show zbc F (E F n) a g f = some o from h)
      show zbc G (E G n) a g f = some o
      unfold zbc at h1 ⊢
      split at h1
      · obtain ⟨cf, hcf, h1⟩ := aof h1
        rw [hFG _ _ hcf, Option.bind_some]; exact h1
      · exact h1
      · exact h1
theorem zbg {F G : FuncId → Option zr} (hFG : LeF F G) {f : Value} {args : List Value} {h : H} {v : Value} {h' : H} (hv : zbs F f args h = some (v, h')) : zbs G f args h = some (v, h') := by
  obtain ⟨n, hn⟩ := zcu.1 hv
  exact zcu.2 ⟨n, E_leF hFG n _ _ hn⟩
def appC : Nat → Code → Code → Code
  | k + 1, .seq a b, z => .seq a (appC k b z)
  | _, c, z => .seq c z
theorem piece_run {F : FuncId → Option zr} {c : CC} {k : K} {s : zf} {h : H} {r : Out} (hv : sh (rI F) c k s h = some r) : ∃ n o, E F n (.code c s h) = some o ∧ apK k o = some r := by
  obtain ⟨n, o, h1, -, h3⟩ := zcO soundI keepsI c hv (zb3 c) trivial
  exact ⟨n, o, h1, h3⟩
section
variable {F : FuncId → Option zr} (hmix : P.follows .mixedOrders = true) (hF : ∀ g cf, F g = some cf → FnOk P g cf)
include hmix hF
theorem code_wp {n : Nat} {c : CC} {s : zf} {h : H} {o : Out} (he : E F n (.code c s h) = some o) {code : Code} {N : Nat} (hc : zx P N code = some (zT c)) {ρ : Rho} {a : Act} {w : World} {Ds : List Nat} (hN : a.tmps.size = N) (hs : SR ρ s a.tmps) (hr : HR P ρ h w) (hd : a.defers = Ds.map zbS) (hD : zc7 ρ w Ds) :
    code.wpIn Fence.wide 0 P (zdR P ρ w N Ds o) a w :=
  (E_sound hmix hF n _ _ he code N hc none ρ a w Ds (by intro l hl; cases hl) hN hs hr hd hD).wpIn
theorem wp_app {Q : Exit → Act → World → Prop} {z : Code} : ∀ (k n : Nat) (c : CC) (code : Code) (N : Nat), zx P N code = some (zT c) → ∀ (s : zf) (h : H) (o : Out), E F n (.code c s h) = some o → ∀ (ρ : Rho) (a : Act) (w : World) (Ds : List Nat), a.tmps.size = N → SR ρ s a.tmps → HR P ρ h w → a.defers = Ds.map zbS → zc7 ρ w Ds →
    (∀ e a1 w1, zdR P ρ w N Ds o e a1 w1 → (Exit.then (z.wpIn Fence.wide 0 P Q) Q) e a1 w1) → (appC k code z).wpIn Fence.wide 0 P Q a w := by
  intro k
  induction k with
  | zero =>
    intro n c code N hc s h o he ρ a w Ds hN hs hr hd hD hz
    have hb : appC 0 code z = .seq code z := by cases code <;> rfl
    rw [hb]
    exact wpIn_seq (wpIn_mono (code_wp hmix hF he hc hN hs hr hd hD) hz)
  | succ k ih =>
    intro n c code N hc s h o he ρ a w Ds hN hs hr hd hD hz
    by_cases hseq : ∃ x y, code = .seq x y
    · obtain ⟨x, y, rfl⟩ := hseq
      obtain ⟨cx, hx, hc⟩ := aof hc
      obtain ⟨cy, hy, hc⟩ := amf hc
      obtain ⟨ca, L, cb, rfl, rfl, rfl⟩ := strip_seq hc
      cases n with
      | zero => cases he
      | succ n =>
        rw [zjK] at he
        obtain ⟨o1, h1, h2⟩ := aof (show (E F n (.code ca s h)).bind (thenK (E F n) L cb) = some o from he)
        show (Code.seq x (appC k y z)).wpIn Fence.wide 0 P Q a w
        refine wpIn_seq (wpIn_mono (code_wp hmix hF h1 hx hN hs hr hd hD) ?_)
        rintro e a1 w1 ⟨σ, Ds1, s1, hh1, hee, hN1, hd1, ⟨hD1, hds1⟩, hs1, hr1, hcase⟩
        rcases hcase with ⟨rfl, rfl⟩ | ⟨i, rfl, rfl⟩ | ⟨rfl, rfl⟩
        · exact ih n cb y N hy _ _ _ h2 σ a1 w1 Ds1 hN1 (hs1.keep L) hr1 hd1 hD1 (fun e a2 w2 hp => hz e a2 w2 (hp.ext hee hds1))
        · cases h2
          exact hz (.exit i) a1 w1 ⟨σ, Ds1, s1, hh1, hee, hN1, hd1, ⟨hD1, hds1⟩, hs1, hr1, .inr (.inl ⟨i, rfl, rfl⟩)⟩
        · cases h2
          exact hz .ret a1 w1 ⟨σ, Ds1, s1, hh1, hee, hN1, hd1, ⟨hD1, hds1⟩, hs1, hr1, .inr (.inr ⟨rfl, rfl⟩)⟩
    · have hb : appC (k + 1) code z = .seq code z := by cases code <;> first | rfl | exact absurd ⟨_, _, rfl⟩ hseq
      rw [hb]
      exact wpIn_seq (wpIn_mono (code_wp hmix hF he hc hN hs hr hd hD) hz)
end
theorem SR.skip {ρ : Rho} {s : zf} {tmps : Array Value} (h : SR ρ s tmps) {t : Nat} (hn : s.get (bits t) = none) (v : Value) : SR ρ s (tmps.setIfInBounds t v) := by
  intro u x hx
  obtain ⟨x', h1, h2⟩ := h u x hx
  have hne : t ≠ u := by rintro rfl; rw [hn] at hx; cases hx
  exact ⟨x', by rw [Array.getElem?_setIfInBounds, if_neg hne]; exact h1, h2⟩
theorem ops_wpInK {ih : IH} {M : Nat} (hih : ∀ t o, ih t = some o → zhj P M t o) {N : Nat} {ops : Array Oper} (r : Option Nat) {w0 : World} {ρ0 : Rho} {Ds : List Nat} {sF : zf} {hF : H} {aI : Act} {Q : Exit → Act → World → Prop}
    (hQ : ∀ a' w', zdR P ρ0 w0 N Ds (.nrm sF hF) .normal a' w' → (∀ t, (∀ o ∈ ops.toList, o.dst ≠ some t) → a'.tmps[t]? = aI.tmps[t]?) → Q .normal a' w') :
    ∀ (m k : Nat) (l : List CI) (ρ : Rho) (s : zf) (h : H) (a : Act) (w : World), k + m = ops.size → allO (zR P N ops) (ops.toList.drop k) = some l → zdT ih l s h = some (sF, hF) →
      HR P ρ h w → SR ρ s a.tmps → a.tmps.size = N → a.defers = Ds.map zbS → zc7 ρ w Ds → Ext ρ0 w0 ρ w → (∀ t, (∀ o ∈ ops.toList, o.dst ≠ some t) → a.tmps[t]? = aI.tmps[t]?) → wpOpsIn (Wf r) 0 P ops Q (List.range' k m) a w
  | 0, k, l, ρ, s, h, a, w, hk, hl, hrun, hr, hs, hN, hd, hD, hE, hkeep => by
    have : ops.toList.drop k = [] := by apply List.drop_eq_nil_of_le; simp; omega
    rw [this] at hl; cases hl
    rw [zf8] at hrun; cases hrun
    exact hQ a w ⟨ρ, Ds, _, _, hE, hN, hd, ⟨hD, fun D h => .inl h⟩, hs, hr, .inl ⟨rfl, rfl⟩⟩ hkeep
  | m + 1, k, l, ρ, s, h, a, w, hk, hl, hrun, hr, hs, hN, hd, hD, hE, hkeep => by
    have hlt : k < ops.size := by omega
    have hdr : ops.toList.drop k = ops[k] :: ops.toList.drop (k + 1) := by
      rw [← List.getElem_cons_drop (by simpa using hlt)]; simp
    rw [hdr] at hl
    obtain ⟨c, hc, hl⟩ := aof hl
    obtain ⟨l', hl', e⟩ := amf hl
    subst e
    rw [zcQ] at hrun
    obtain ⟨⟨v, h1⟩, hstep, hrest⟩ := aof hrun
    obtain ⟨b, hb, hstep⟩ := aof hstep
    obtain ⟨hop, hdst, hdlt⟩ := z8 hc
    have hwant := zcp hc hs hb
    have hmem : ops[k] ∈ ops.toList := by simp
    have hput : ∀ v', ∀ t, (∀ o ∈ ops.toList, o.dst ≠ some t) → (a.put ops[k].dst v').tmps[t]? = aI.tmps[t]? := by
      intro v' t ht
      rw [← hkeep t ht]
      have hne := ht _ hmem
      cases hd : ops[k].dst with
      | none => rfl
      | some d =>
        show (a.tmps.setIfInBounds d v')[t]? = _
        rw [Array.getElem?_setIfInBounds, if_neg (by rintro rfl; exact hne hd)]
    rw [List.range'_succ]
    simp only [wpOpsIn, Array.getElem?_eq_getElem hlt, hwant]
    cases b with
    | true =>
      simp only [if_true]
      refine op_wpIn hih hc r hr hs hstep (fun v' w' σ q1 q2 q3 => ?_)
      obtain ⟨p1, p2, p3⟩ := put_rel hdst hdlt (hs.mono q3.le) hN q1
      exact ops_wpInK hih r hQ m (k + 1) l' σ _ _ _ _ (by omega) hl' hrest q2 p1 p2 (p3.trans hd) (hD.ext q3) (hE.trans q3) (hput v')
    | false =>
      simp only [Bool.false_eq_true, if_false]
      cases hstep
      obtain ⟨p1, p2, p3⟩ := put_rel (v' := undef) hdst hdlt hs hN (VR.tuple_of (VRL.nil ρ))
      exact ⟨fun f _ => Wf_fn r f, ops_wpInK hih r hQ m (k + 1) l' ρ _ _ _ _ (by omega) hl' hrest hr p1 p2 (p3.trans hd) hD hE (hput undef)⟩
theorem Ext.keeps {ρ σ : Rho} {w w' : World} (he : Ext ρ w σ w') {it : Nat} {x : Obj} (hx : w.heap[it]? = some x) (hn : ∀ i S, ρ i = some S → S.blk ≠ it) : w'.heap[it]? = some x ∧ ∀ i S, σ i = some S → S.blk ≠ it := by
  have hlt := (Array.getElem?_eq_some_iff.1 hx).1
  refine ⟨(he.frame it hlt hn).trans hx, fun i S hi e => ?_⟩
  rcases he.fresh i S hi with ⟨j, T, hj, hs⟩ | hb
  · exact hn j T hj (hs.trans e)
  · omega
end Go.Ideal
namespace Go.Ideal
open Go Go.Sort
variable {P : Program}
theorem HR.grown {ρ : Rho} {h : H} {w : World} (hr : HR P ρ h w) (n : Nat) (os : Array Obj) : HR P ρ h (grow (Sort.ahead w n) os) ∧ Ext ρ w ρ (grow (Sort.ahead w n) os) := by
  have hp : ∀ B, B < w.heap.size → (grow (Sort.ahead w n) os).heap[B]? = w.heap[B]? := fun B hB => heap_grow_old (Sort.ahead w n) os hB
  have hs : w.heap.size ≤ (grow (Sort.ahead w n) os).heap.size := by rw [size_grow]; exact Nat.le_add_right _ _
  refine ⟨⟨fun i R o hi ho => (hr.obj i R o hi ho).mono (fun _ _ h => h) (hp _ (hr.blk i R hi)), hr.nxt, hr.sep, fun i R hi => Nat.lt_of_lt_of_le (hr.blk i R hi) hs⟩,
    ⟨fun _ _ h => h, hs, fun i R h => .inl ⟨i, R, h, rfl⟩, fun B hB _ => hp B hB, fun B r hr' => ⟨r, by rw [hp B (Array.getElem?_eq_some_iff.1 hr').1]; exact hr', rfl⟩, rfl, rfl, fun a ha => frozen?_grow (Sort.ahead w n) os a ha, ⟨rfl, Nat.le_add_right _ _⟩⟩⟩
theorem grown_of {w w' : World} (h1 : w.heap.size ≤ w'.heap.size) (h2 : ∀ B, B < w.heap.size → w'.heap[B]? = w.heap[B]?) (h3 : w'.os = w.os) (h4 : w'.output = w.output) (h5 : w'.tape = w.tape) (h6 : w.drawn ≤ w'.drawn) : ∃ q os', w' = grow (Sort.ahead w q) os' := by
  refine ⟨w'.drawn - w.drawn, w'.heap.extract w.heap.size w'.heap.size, ?_⟩
  obtain ⟨hp, tp, dr, o, out⟩ := w'
  obtain ⟨hp0, tp0, dr0, o0, out0⟩ := w
  simp only at h1 h2 h3 h4 h5 h6
  subst h3 h4 h5
  have e1 : dr0 + (dr - dr0) = dr := by omega
  have e2 : hp0 ++ hp.extract hp0.size hp.size = hp := by
    apply Array.ext_getElem?
    intro k
    rw [Array.getElem?_append]
    split
    · rename_i hk; exact (h2 k hk).symm
    · rename_i hk
      rw [Array.getElem?_extract]
      split
      · rw [show hp0.size + (k - hp0.size) = k by omega]
      · rw [Array.getElem?_eq_none (by omega)]
  show World.mk hp tp dr o out = World.mk (hp0 ++ hp.extract hp0.size hp.size) tp (dr0 + (dr - dr0)) o out
  rw [e1, e2]
theorem lays_of_E {F : FuncId → Option zr} (hmix : P.follows .mixedOrders = true) (hF : ∀ g cf, F g = some cf → FnOk P g cf) {g : FuncId} {args : List Value} (ha : VRL (fun _ => none) args args) {r : Int} {h' : H} (he : zbs F (fnV g) args H.empty = some (.int .i64 r, h')) (w : World) :
    Calls P g ⟨args⟩ w fun e w' => e = .returned (.int .i64 r) ∧ ∃ q os', w' = grow (Sort.ahead w q) os' := by
  obtain ⟨n, hn⟩ := zcu.1 he
  have hr : HR P (fun _ => none) H.empty w := ⟨fun _ _ _ h => (by cases h), fun i _ => ⟨rfl, PT.get_nil _⟩, fun _ _ _ _ h => (by cases h), fun _ _ h => (by cases h)⟩
  refine (zgr hmix hF hn (args' := ⟨args⟩) ha hr).mono ?_
  rintro e w' ⟨v', σ, rfl, hv, -, hx⟩
  exact ⟨by rw [hv.inv_int], grown_of hx.size (fun B hB => hx.frame B hB fun _ _ h => (by cases h)) hx.os hx.out hx.td.1 hx.td.2⟩
noncomputable def srtAt (srt : List Value → List Value) (h : H) : Value → H
  | .slice (some a) (_ + 1) _ => match h.get a.block with
    | some (.cells cs e) => h.put a.block (.cells (srt cs) e)
    | _ => h
  | _ => h
def Own (h : H) (sz : Nat) (v : Value) (rows : List (List Value)) : Prop :=
  (v = .slice none 0 0 ∧ rows = []) ∨ ∃ b, v = .slice (some ⟨b, 0, none⟩) rows.length zk ∧ b < h.next ∧ h.get b = some (.cells rows.flatten sz)
open Classical in
noncomputable def sortP {α : Type} (srt : List Value → List Value) (enc : α → List Value) (sz : Nat) (g : FuncId) (args : List Value) (h : H) : Option (Value × H) :=
  if ∃ (v : Value) (l : List α), args = [v, fnV g] ∧ Own h sz v (l.map enc) ∧ l.length < 4611686018427387904 then some (.tuple #[], srtAt srt h (args.headD zD)) else none
theorem zbo {α : Type} {sz : Nat} {enc : α → List Value} (he : ∀ x, (enc x).length = sz) : ∀ (l : List α), (l.map enc).flatten.length = l.length * sz
  | [] => by simp
  | a :: l => by rw [List.map_cons, List.flatten_cons, List.length_append, zbo he l, he, List.length_cons, Nat.succ_mul]; omega
structure Sorts (P : Program) {α : Type} (f g : FuncId) (enc : α → List Value) (le : α → α → Bool) : Prop where
  ent : ∀ args w, (callFunc f args).run P w = .ok (.enter f args) w
  nil : ∀ (p : Option Addr) (cap : Nat) (fv : Value) (w : World), Calls P f #[.slice p 0 cap, fv] w fun e w' => e = .returned (.tuple #[]) ∧ w' = w
  row : ∀ (blk off cap : Nat) (l : List α) (w : World) (c : Array Value) (t : TypeId), l ≠ [] → l.length < 4611686018427387904 → w.heap[blk]? = some (.cells c t (0, 0)) → (∀ (j : Nat) v, (l.map enc).flatten[j]? = some v → c[off + j]? = some v) →
    Calls P f #[.slice (some ⟨blk, off, none⟩) l.length cap, fnV g] w fun e w' => e = .returned (.tuple #[]) ∧ ∃ (c' : Array Value) (n : Nat) (os : Array Obj), c'.size = c.size ∧
      (∀ (j : Nat) v, ((l.mergeSort le).map enc).flatten[j]? = some v → c'[off + j]? = some v) ∧ w' = grow (Sort.ahead { w with heap := w.heap.setIfInBounds blk (.cells c' t (0, 0)) } n) os
theorem sort_prim {α : Type} {f g : FuncId} {sz : Nat} (hsz : sz ≠ roE) {enc : α → List Value} (hlen : ∀ x, (enc x).length = sz) (hpl : ∀ x, ∀ v ∈ enc x, ∃ n, v = .int .i64 n) {le : α → α → Bool} {srt : List Value → List Value}
    (hsrt : ∀ l : List α, srt (l.map enc).flatten = ((l.mergeSort le).map enc).flatten) (hs : Sorts P f g enc le) : PrimOk P f (sortP srt enc sz g) := by
  refine ⟨hs.ent, ?_⟩
  intro args h v1 h1 hp ρ args' w ra hr
  unfold sortP at hp
  split at hp
  · rename_i hx
    obtain ⟨v, l, rfl, hown, hl⟩ := hx
    cases hp
    obtain ⟨v', t1, e1, k1, k2⟩ := ra.cons_left
    obtain ⟨f', t2, e2, k3, k4⟩ := k2.cons_left
    have e3 : t2 = [] := by have := k4.1; simpa using this.symm
    subst e3
    have ef : f' = fnV g := by
      cases k3 with
      | func _ ha hb _ _ => rw [Array.eq_empty_of_size_eq_zero ha.symm, Array.eq_empty_of_size_eq_zero hb.symm]
    subst ef
    have ea : args' = #[v', fnV g] := by rw [← Array.toList_inj, e1, e2]
    subst ea
    have triv : ∀ (p : Option Addr) (cap : Nat), v' = .slice p 0 cap → srtAt srt h v = h → Calls P f #[v', fnV g] w (VPost P ρ w (.val (.tuple #[]) (srtAt srt h ([v, fnV g].headD zD)))) := by
      intro p cap ev eh
      subst ev
      refine (hs.nil p cap (fnV g) w).mono ?_
      rintro e w' ⟨rfl, rfl⟩
      refine ⟨_, _, _, ρ, rfl, rfl, VR.tuple_of (VRL.nil ρ), ?_, Ext.refl _ _⟩
      show HR P ρ (srtAt srt h v) w'
      rw [eh]; exact hr
    rcases hown with ⟨rfl, hnil⟩ | ⟨b, rfl, hb, hg⟩
    · cases k1
      exact triv _ _ rfl rfl
    · by_cases hne : l = []
      · subst hne
        simp only [List.map_nil, List.length_nil] at k1 triv
        cases k1 with
        | slice h0 hc _ => exact (Nat.lt_irrefl _ hc).elim
        | sliceO h0 he hl' hs' hb' => exact triv _ _ rfl rfl
        | sliceE h0 he hb' => exact triv _ _ rfl rfl
      · obtain ⟨k0, hlp⟩ : ∃ k0, l.length = k0 + 1 := ⟨l.length - 1, by have := List.length_pos_iff.2 hne; omega⟩
        rw [List.length_map, hlp] at k1
        cases k1 with
        | slice h0 hc _ => exact (Nat.lt_irrefl _ hc).elim
        | @sliceO _ _ _ cap R h0 he hl' hs' hb' =>
          obtain ⟨q1, q2, c, t, fr, hw, hfx, hcs, hfit, hget⟩ := hr.obj b R _ h0 hg
          obtain ⟨hfx2, rfl⟩ := hfx.resolve_right (fun h => hsz h.2)
          have hint : ∀ (l : List α) (j : Nat) v, (l.map enc).flatten[j]? = some v → ∃ n, v = .int .i64 n := by
            intro l j v hj
            have := List.mem_of_getElem? hj
            obtain ⟨r, hr1, hr2⟩ := List.mem_flatten.1 this
            obtain ⟨x, _, rfl⟩ := List.mem_map.1 hr1
            exact hpl x v hr2
          have hcell : ∀ (j : Nat) v, (l.map enc).flatten[j]? = some v → c[R.base + 0 + j]? = some v := by
            intro j v hj
            obtain ⟨v', a1, a2⟩ := hget j v hj
            obtain ⟨n, rfl⟩ := hint l j v hj
            rcases a2 with a2 | a2
            · cases a2
            · cases a2; rw [Nat.add_zero]; exact a1
          rw [List.length_map, ← hlp]
          refine (hs.row R.blk (R.base + 0) cap l w c t hne hl hw hcell).mono ?_
          rintro e w' ⟨rfl, c', n, os, hc1, hc2, rfl⟩
          have hsl : ((l.mergeSort le).map enc).flatten.length = (l.map enc).flatten.length := by
            rw [zbo hlen, zbo hlen, List.length_mergeSort]
          have hput : srtAt srt h (.slice (some ⟨b, 0, none⟩) l.length zk) = h.put b (.cells ((l.mergeSort le).map enc).flatten sz) := by
            rw [hlp]
            show (match h.get b with | some (.cells cs e) => h.put b (.cells (srt cs) e) | _ => h) = _
            rw [hg]
            show h.put b (.cells (srt (l.map enc).flatten) sz) = _
            rw [hsrt]
          have hor : OR P ρ { w with heap := w.heap.setIfInBounds R.blk (.cells c' t (0, 0)) } R (.cells ((l.mergeSort le).map enc).flatten sz) := by
            refine ⟨q1, by rw [hsl]; exact q2, c', t, (0, 0), ?_, .inl ⟨hfx2, rfl⟩, by rw [hc1]; exact hcs, by rw [hc1, hsl]; exact hfit, fun j v hj => ?_⟩
            · show (w.heap.setIfInBounds R.blk _)[R.blk]? = _
              rw [Array.getElem?_setIfInBounds, if_pos rfl, if_pos (hr.blk b R h0)]
            · obtain ⟨m, rfl⟩ := hint _ j v hj
              have := hc2 j _ hj
              rw [Nat.add_zero] at this
              exact ⟨_, this, .inr (.int _ _)⟩
          obtain ⟨p1, p2⟩ := hr.putBoth (o := .cells c' t (0, 0)) h0 hg (by simp) hw (by intro r e; cases e) (fun _ _ _ h => by cases h; rfl) (fun _ _ _ h => by cases h; rfl) hor
          obtain ⟨p3, p4⟩ := p1.grown n os
          refine ⟨_, _, _, ρ, rfl, rfl, VR.tuple_of (VRL.nil ρ), ?_, p2.trans p4⟩
          show HR P ρ (srtAt srt h (.slice (some ⟨b, 0, none⟩) l.length zk)) _
          rw [hput]; exact p3
  · cases hp
theorem zjf {α : Type} {srt : List Value → List Value} {enc : α → List Value} {sz : Nat} {g : FuncId} {le : α → α → Bool} (hsrt : ∀ l : List α, srt (l.map enc).flatten = ((l.mergeSort le).map enc).flatten) {h : H} {v : Value} {l : List α} {ob : Option Nat} (hg : (ob = none ∧ v = .slice none 0 0 ∧ l = []) ∨ ∃ b, ob = some b ∧ v = .slice (some ⟨b, 0, none⟩) l.length zk ∧ b < h.next ∧ h.get b = some (.cells (l.map enc).flatten sz)) (hl : l.length < 4611686018427387904) :
    ∃ h', sortP srt enc sz g [v, fnV g] h = some (.tuple #[], h') ∧ h'.next = h.next ∧ (∀ i, ob ≠ some i → h'.get i = h.get i) ∧ (∀ b, ob = some b → l ≠ [] → h'.get b = some (.cells ((l.mergeSort le).map enc).flatten sz)) ∧ (l = [] → ∀ b, ob = some b → h'.get b = h.get b) := by
  have hown : Own h sz v (l.map enc) := by
    rcases hg with ⟨_, h1, rfl⟩ | ⟨b, _, h1, h2, h3⟩
    · exact .inl ⟨h1, rfl⟩
    · exact .inr ⟨b, by rw [List.length_map]; exact h1, h2, h3⟩
  refine ⟨srtAt srt h v, by unfold sortP; rw [if_pos ⟨v, l, rfl, hown, hl⟩]; rfl, ?_⟩
  rcases hg with ⟨rfl, rfl, rfl⟩ | ⟨b, rfl, rfl, h2, h3⟩
  · exact ⟨rfl, fun _ _ => rfl, (fun _ h => by cases h), fun _ _ _ => rfl⟩
  · cases l with
    | nil => exact ⟨rfl, fun _ _ => rfl, fun _ _ h => absurd rfl h, fun _ _ _ => rfl⟩
    | cons a l =>
      have e : srtAt srt h (.slice (some ⟨b, 0, none⟩) (a :: l).length zk) = h.put b (.cells (srt ((a :: l).map enc).flatten) sz) := by
        show (match h.get b with | some (.cells cs e) => h.put b (.cells (srt cs) e) | _ => h) = _
        rw [h3]
      rw [e, hsrt]
      exact ⟨rfl, fun i hi => by rw [get_put, if_neg (by rintro rfl; exact hi rfl)], (fun c hc _ => by cases hc; rw [get_put, if_pos rfl]), fun h => by cases h⟩
end Go.Ideal
noncomputable section
namespace Go.Ideal.J
open Go Go.Ideal
set_option maxRecDepth 100000
abbrev n_s : Nat := 10
abbrev n_n : Nat := 13
abbrev n_g : Nat := 15
abbrev n_D : Nat := 16
abbrev n_J : Nat := 20
abbrev n_H : Nat := 26
abbrev n_h : Nat := 28
abbrev n_G : Nat := 33
abbrev n_c : Nat := 38
abbrev n_K : Nat := 44
abbrev n_w : Nat := 45
abbrev n_e : Nat := 52
abbrev n_A : Nat := 54
abbrev n_y : Nat := 55
abbrev n_N : Nat := 56
abbrev n_C : Nat := 57
abbrev n_l : Nat := 58
abbrev n_I : Nat := 59
abbrev n_v : Nat := 63
abbrev n_i : Nat := 64
abbrev n_B : Nat := 65
abbrev n_m : Nat := 68
abbrev n_z : Nat := 69
abbrev n_a : Nat := 70
abbrev n_T : Nat := 71
abbrev n_j : Nat := 72
abbrev n_S : Nat := 73
abbrev n_f : Nat := 74
abbrev n_F : Nat := 75
abbrev n_Q : Nat := 76
abbrev n_L : Nat := 77
abbrev n_O : Nat := 78
abbrev n_b : Nat := 79
abbrev n_k : Nat := 80
abbrev n_E : Nat := 81
abbrev oo (p : List Bool) (x : COp) : CI := ⟨some p, x, none, 0⟩
abbrev on (x : COp) : CI := ⟨none, x, none, 0⟩
abbrev og (p : List Bool) (x : COp) (q : List Bool) (b : Bool) : CI := ⟨some p, x, some (q, b), 0⟩
abbrev p0 : List Bool := []
abbrev p1 : List Bool := [true]
abbrev p2 : List Bool := [false, true]
abbrev p3 : List Bool := [true, true]
abbrev p4 : List Bool := [false, false, true]
abbrev p5 : List Bool := [true, false, true]
abbrev p6 : List Bool := [false, true, true]
abbrev p7 : List Bool := [true, true, true]
abbrev p8 : List Bool := [false, false, false, true]
abbrev p9 : List Bool := [true, false, false, true]
abbrev p10 : List Bool := [false, true, false, true]
abbrev p11 : List Bool := [true, true, false, true]
abbrev p12 : List Bool := [false, false, true, true]
abbrev p13 : List Bool := [true, false, true, true]
abbrev p14 : List Bool := [false, true, true, true]
abbrev p15 : List Bool := [true, true, true, true]
abbrev p16 : List Bool := [false, false, false, false, true]
abbrev p17 : List Bool := [true, false, false, false, true]
abbrev p18 : List Bool := [false, true, false, false, true]
abbrev p19 : List Bool := [true, true, false, false, true]
abbrev p20 : List Bool := [false, false, true, false, true]
abbrev p21 : List Bool := [true, false, true, false, true]
abbrev p22 : List Bool := [false, true, true, false, true]
abbrev p23 : List Bool := [true, true, true, false, true]
abbrev p24 : List Bool := [false, false, false, true, true]
abbrev p25 : List Bool := [true, false, false, true, true]
abbrev p26 : List Bool := [false, true, false, true, true]
abbrev p27 : List Bool := [true, true, false, true, true]
abbrev p28 : List Bool := [false, false, true, true, true]
abbrev p29 : List Bool := [true, false, true, true, true]
abbrev p30 : List Bool := [false, true, true, true, true]
abbrev p31 : List Bool := [true, true, true, true, true]
abbrev p32 : List Bool := [false, false, false, false, false, true]
abbrev p33 : List Bool := [true, false, false, false, false, true]
abbrev p34 : List Bool := [false, true, false, false, false, true]
abbrev p35 : List Bool := [true, true, false, false, false, true]
abbrev p36 : List Bool := [false, false, true, false, false, true]
abbrev p37 : List Bool := [true, false, true, false, false, true]
abbrev p38 : List Bool := [false, true, true, false, false, true]
abbrev p39 : List Bool := [true, true, true, false, false, true]
abbrev p40 : List Bool := [false, false, false, true, false, true]
abbrev p41 : List Bool := [true, false, false, true, false, true]
abbrev p42 : List Bool := [false, true, false, true, false, true]
abbrev p43 : List Bool := [true, true, false, true, false, true]
abbrev p44 : List Bool := [false, false, true, true, false, true]
abbrev p45 : List Bool := [true, false, true, true, false, true]
abbrev p46 : List Bool := [false, true, true, true, false, true]
abbrev p47 : List Bool := [true, true, true, true, false, true]
abbrev p48 : List Bool := [false, false, false, false, true, true]
abbrev p49 : List Bool := [true, false, false, false, true, true]
abbrev p50 : List Bool := [false, true, false, false, true, true]
abbrev p51 : List Bool := [true, true, false, false, true, true]
abbrev p52 : List Bool := [false, false, true, false, true, true]
abbrev p53 : List Bool := [true, false, true, false, true, true]
abbrev p54 : List Bool := [false, true, true, false, true, true]
abbrev p55 : List Bool := [true, true, true, false, true, true]
abbrev p56 : List Bool := [false, false, false, true, true, true]
abbrev p57 : List Bool := [true, false, false, true, true, true]
abbrev p58 : List Bool := [false, true, false, true, true, true]
abbrev p59 : List Bool := [true, true, false, true, true, true]
abbrev p60 : List Bool := [false, false, true, true, true, true]
abbrev p61 : List Bool := [true, false, true, true, true, true]
abbrev p62 : List Bool := [false, true, true, true, true, true]
abbrev p63 : List Bool := [true, true, true, true, true, true]
abbrev p64 : List Bool := [false, false, false, false, false, false, true]
abbrev p65 : List Bool := [true, false, false, false, false, false, true]
abbrev p66 : List Bool := [false, true, false, false, false, false, true]
abbrev p67 : List Bool := [true, true, false, false, false, false, true]
abbrev p68 : List Bool := [false, false, true, false, false, false, true]
abbrev p69 : List Bool := [true, false, true, false, false, false, true]
abbrev p70 : List Bool := [false, true, true, false, false, false, true]
abbrev p71 : List Bool := [true, true, true, false, false, false, true]
abbrev p72 : List Bool := [false, false, false, true, false, false, true]
abbrev p73 : List Bool := [true, false, false, true, false, false, true]
abbrev p74 : List Bool := [false, true, false, true, false, false, true]
abbrev p75 : List Bool := [true, true, false, true, false, false, true]
abbrev p76 : List Bool := [false, false, true, true, false, false, true]
abbrev p77 : List Bool := [true, false, true, true, false, false, true]
abbrev p78 : List Bool := [false, true, true, true, false, false, true]
abbrev p79 : List Bool := [true, true, true, true, false, false, true]
abbrev p80 : List Bool := [false, false, false, false, true, false, true]
abbrev p81 : List Bool := [true, false, false, false, true, false, true]
abbrev p82 : List Bool := [false, true, false, false, true, false, true]
abbrev p83 : List Bool := [true, true, false, false, true, false, true]
abbrev p84 : List Bool := [false, false, true, false, true, false, true]
abbrev p85 : List Bool := [true, false, true, false, true, false, true]
abbrev p86 : List Bool := [false, true, true, false, true, false, true]
abbrev p87 : List Bool := [true, true, true, false, true, false, true]
abbrev p88 : List Bool := [false, false, false, true, true, false, true]
abbrev p89 : List Bool := [true, false, false, true, true, false, true]
abbrev p90 : List Bool := [false, true, false, true, true, false, true]
abbrev p91 : List Bool := [true, true, false, true, true, false, true]
abbrev p92 : List Bool := [false, false, true, true, true, false, true]
abbrev p93 : List Bool := [true, false, true, true, true, false, true]
abbrev p94 : List Bool := [false, true, true, true, true, false, true]
abbrev p95 : List Bool := [true, true, true, true, true, false, true]
abbrev p96 : List Bool := [false, false, false, false, false, true, true]
abbrev p97 : List Bool := [true, false, false, false, false, true, true]
abbrev p98 : List Bool := [false, true, false, false, false, true, true]
abbrev p99 : List Bool := [true, true, false, false, false, true, true]
abbrev p100 : List Bool := [false, false, true, false, false, true, true]
abbrev p101 : List Bool := [true, false, true, false, false, true, true]
abbrev p102 : List Bool := [false, true, true, false, false, true, true]
abbrev p103 : List Bool := [true, true, true, false, false, true, true]
abbrev p104 : List Bool := [false, false, false, true, false, true, true]
abbrev p105 : List Bool := [true, false, false, true, false, true, true]
abbrev p106 : List Bool := [false, true, false, true, false, true, true]
abbrev p107 : List Bool := [true, true, false, true, false, true, true]
abbrev p108 : List Bool := [false, false, true, true, false, true, true]
abbrev p109 : List Bool := [true, false, true, true, false, true, true]
abbrev p110 : List Bool := [false, true, true, true, false, true, true]
abbrev p111 : List Bool := [true, true, true, true, false, true, true]
abbrev p112 : List Bool := [false, false, false, false, true, true, true]
abbrev p113 : List Bool := [true, false, false, false, true, true, true]
abbrev p114 : List Bool := [false, true, false, false, true, true, true]
abbrev p115 : List Bool := [true, true, false, false, true, true, true]
abbrev p116 : List Bool := [false, false, true, false, true, true, true]
abbrev p117 : List Bool := [true, false, true, false, true, true, true]
abbrev p118 : List Bool := [false, true, true, false, true, true, true]
abbrev p119 : List Bool := [true, true, true, false, true, true, true]
abbrev p120 : List Bool := [false, false, false, true, true, true, true]
abbrev p121 : List Bool := [true, false, false, true, true, true, true]
abbrev p122 : List Bool := [false, true, false, true, true, true, true]
abbrev p123 : List Bool := [true, true, false, true, true, true, true]
abbrev p124 : List Bool := [false, false, true, true, true, true, true]
abbrev p125 : List Bool := [true, false, true, true, true, true, true]
abbrev p126 : List Bool := [false, true, true, true, true, true, true]
abbrev p127 : List Bool := [true, true, true, true, true, true, true]
abbrev p128 : List Bool := [false, false, false, false, false, false, false, true]
abbrev p129 : List Bool := [true, false, false, false, false, false, false, true]
abbrev p130 : List Bool := [false, true, false, false, false, false, false, true]
abbrev p131 : List Bool := [true, true, false, false, false, false, false, true]
abbrev p132 : List Bool := [false, false, true, false, false, false, false, true]
abbrev p133 : List Bool := [true, false, true, false, false, false, false, true]
abbrev p134 : List Bool := [false, true, true, false, false, false, false, true]
abbrev p135 : List Bool := [true, true, true, false, false, false, false, true]
abbrev p136 : List Bool := [false, false, false, true, false, false, false, true]
abbrev p137 : List Bool := [true, false, false, true, false, false, false, true]
abbrev p138 : List Bool := [false, true, false, true, false, false, false, true]
abbrev p139 : List Bool := [true, true, false, true, false, false, false, true]
abbrev p140 : List Bool := [false, false, true, true, false, false, false, true]
abbrev p141 : List Bool := [true, false, true, true, false, false, false, true]
abbrev p142 : List Bool := [false, true, true, true, false, false, false, true]
abbrev p143 : List Bool := [true, true, true, true, false, false, false, true]
abbrev p144 : List Bool := [false, false, false, false, true, false, false, true]
abbrev p145 : List Bool := [true, false, false, false, true, false, false, true]
abbrev p146 : List Bool := [false, true, false, false, true, false, false, true]
abbrev p147 : List Bool := [true, true, false, false, true, false, false, true]
abbrev p148 : List Bool := [false, false, true, false, true, false, false, true]
abbrev p149 : List Bool := [true, false, true, false, true, false, false, true]
abbrev p150 : List Bool := [false, true, true, false, true, false, false, true]
abbrev p151 : List Bool := [true, true, true, false, true, false, false, true]
abbrev p152 : List Bool := [false, false, false, true, true, false, false, true]
abbrev p153 : List Bool := [true, false, false, true, true, false, false, true]
abbrev p154 : List Bool := [false, true, false, true, true, false, false, true]
abbrev p155 : List Bool := [true, true, false, true, true, false, false, true]
abbrev p156 : List Bool := [false, false, true, true, true, false, false, true]
abbrev p157 : List Bool := [true, false, true, true, true, false, false, true]
abbrev p158 : List Bool := [false, true, true, true, true, false, false, true]
abbrev p159 : List Bool := [true, true, true, true, true, false, false, true]
abbrev p160 : List Bool := [false, false, false, false, false, true, false, true]
abbrev p161 : List Bool := [true, false, false, false, false, true, false, true]
abbrev p162 : List Bool := [false, true, false, false, false, true, false, true]
abbrev p163 : List Bool := [true, true, false, false, false, true, false, true]
abbrev p164 : List Bool := [false, false, true, false, false, true, false, true]
abbrev p165 : List Bool := [true, false, true, false, false, true, false, true]
abbrev p166 : List Bool := [false, true, true, false, false, true, false, true]
abbrev p167 : List Bool := [true, true, true, false, false, true, false, true]
abbrev p168 : List Bool := [false, false, false, true, false, true, false, true]
abbrev p169 : List Bool := [true, false, false, true, false, true, false, true]
abbrev p170 : List Bool := [false, true, false, true, false, true, false, true]
abbrev p171 : List Bool := [true, true, false, true, false, true, false, true]
abbrev p172 : List Bool := [false, false, true, true, false, true, false, true]
abbrev p173 : List Bool := [true, false, true, true, false, true, false, true]
abbrev p174 : List Bool := [false, true, true, true, false, true, false, true]
abbrev p175 : List Bool := [true, true, true, true, false, true, false, true]
abbrev p176 : List Bool := [false, false, false, false, true, true, false, true]
abbrev p177 : List Bool := [true, false, false, false, true, true, false, true]
abbrev p178 : List Bool := [false, true, false, false, true, true, false, true]
def c_s_1 : CC := (.seq (.seq (.ops [(oo p74 (.mv (.t p10))), (oo p75 (.mv (.t p8))), (oo p76 (.blt .len [(.t p75)])), (oo p77 (.bin .lss .other (.t p74) (.t p76)))]) [p8, p10, p77] (.cond (.t p77) .skip (.exit 0))) [p8, p10] (.seq (.block 1 (.seq (.ops [(oo p80 (.mv (.t p8))), (oo p81 (.mv (.t p10))), (oo p82 (.indexAddr 1 (.t p80) (.t p81))), (oo p83 (.load1 (.t p82))), (oo p84 (.mv (.t p10))), (oo p85 (.bin .neq .other (.t p83) (.t p84)))]) [p8, p10, p85] (.cond (.t p85) (.seq (.ops [(oo p2 (.mv (.c (.bool false))))]) [p2] .ret) .skip))) [p8, p10] (.ops [(oo p78 (.mv (.t p10))), (oo p79 (.bin .add .other (.t p78) (.c (.int .i64 1)))), (oo p10 (.mv (.t p79)))])))
def c_s_0 : CC := (.seq (.ops [(oo p86 (.call (.c (.func (.func n_D) #[] #[])) [])), (oo p2 (.mv (.t p86)))]) [p2] .ret)
def c_s : CC := (.seq (.ops [(oo p1 (.box (.t p0))), (oo p2 (.mv (.c (.bool false))))]) [p1] (.seq (.ops [(oo p12 (.loadN 3 (.t p1))), (oo p13 (.call (.c (.func (.func n_h) #[] #[])) [(.t p12)])), (oo p11 (.mv (.t p13))), (oo p14 (.extract (.t p11) 0)), (oo p15 (.extract (.t p11) 1)), (oo p3 (.alloc [(.int .i64 0), (.int .i64 0), (.slice none 0 0)])), (on (.store 3 (.t p3) (.t p14))), (oo p4 (.mv (.t p15)))]) [p1, p3, p4] (.seq (.seq (.ops [(oo p16 (.mv (.t p4))), (oo p17 (.bin .neq .other (.t p16) (.c (.int .i64 0))))]) [p1, p3, p17] (.cond (.t p17) (.seq (.ops [(oo p18 (.loadN 3 (.t p3))), (oo p19 (.build [(.int .i64 0), (.int .i64 0), (.slice none 0 0)] [])), (oo p20 (.call (.c (.func (.func n_g) #[] #[])) [(.t p18), (.t p19)])), (oo p21 (.mv (.t p20))), (og p22 (.call (.c (.func (.func n_D) #[] #[])) []) p21 true), (oo p23 (.pick (.t p21) (.t p22) (.c (.bool false)))), (oo p2 (.mv (.t p23)))]) [p2] .ret) .skip)) [p1, p3] (.seq (.ops [(oo p25 (.loadN 3 (.t p1))), (oo p26 (.loadN 3 (.t p3))), (oo p27 (.call (.c (.func (.func n_J) #[] #[])) [(.t p25), (.t p26)])), (oo p24 (.mv (.t p27))), (oo p28 (.extract (.t p24) 0)), (oo p29 (.extract (.t p24) 1)), (oo p5 (.mv (.t p28))), (oo p4 (.mv (.t p29)))]) [p1, p3, p4, p5] (.seq (.ops [(oo p31 (.loadN 3 (.t p3))), (oo p32 (.call (.c (.func (.func n_h) #[] #[])) [(.t p31)])), (oo p30 (.mv (.t p32))), (oo p33 (.extract (.t p30) 0)), (oo p34 (.extract (.t p30) 1)), (oo p6 (.alloc [(.int .i64 0), (.int .i64 0), (.slice none 0 0)])), (on (.store 3 (.t p6) (.t p33))), (oo p7 (.mv (.t p34)))]) [p1, p3, p4, p5, p6, p7] (.seq (.ops [(oo p36 (.loadN 3 (.t p3))), (oo p37 (.call (.c (.func (.func n_H) #[] #[])) [(.t p36)])), (oo p35 (.mv (.t p37))), (oo p38 (.extract (.t p35) 0)), (oo p39 (.extract (.t p35) 1)), (oo p8 (.mv (.t p38))), (oo p9 (.mv (.t p39)))]) [p1, p3, p4, p5, p6, p7, p8, p9] (.seq (.seq (.ops [(oo p40 (.mv (.t p5))), (oo p41 (.un .not (.t p40))), (oo p42 (.mv (.t p41))), (og p43 (.mv (.t p4)) p42 false), (og p44 (.bin .neq .other (.t p43) (.c (.int .i64 0))) p42 false), (oo p45 (.pick (.t p42) (.c (.bool true)) (.t p44))), (oo p46 (.mv (.t p45))), (og p47 (.mv (.t p7)) p46 false), (og p48 (.bin .neq .other (.t p47) (.c (.int .i64 0))) p46 false), (oo p49 (.pick (.t p46) (.c (.bool true)) (.t p48))), (oo p50 (.mv (.t p49))), (og p51 (.mv (.t p9)) p50 false), (og p52 (.bin .neq .other (.t p51) (.c (.int .i64 0))) p50 false), (oo p53 (.pick (.t p50) (.c (.bool true)) (.t p52))), (oo p54 (.mv (.t p53))), (og p55 (.loadN 3 (.t p3)) p54 false), (og p56 (.loadN 3 (.t p6)) p54 false), (og p57 (.call (.c (.func (.func n_g) #[] #[])) [(.t p55), (.t p56)]) p54 false), (og p58 (.un .not (.t p57)) p54 false), (oo p59 (.pick (.t p54) (.c (.bool true)) (.t p58))), (oo p60 (.mv (.t p59))), (og p61 (.fieldAddr 0 (.t p3)) p60 false), (og p62 (.load1 (.t p61)) p60 false), (og p63 (.fieldAddr 0 (.t p1)) p60 false), (og p64 (.load1 (.t p63)) p60 false), (og p65 (.bin .gtr .other (.t p62) (.t p64)) p60 false), (oo p66 (.pick (.t p60) (.c (.bool true)) (.t p65))), (oo p67 (.mv (.t p66))), (og p68 (.mv (.t p8)) p67 false), (og p69 (.blt .len [(.t p68)]) p67 false), (og p70 (.fieldAddr 0 (.t p3)) p67 false), (og p71 (.load1 (.t p70)) p67 false), (og p72 (.bin .neq .other (.t p69) (.t p71)) p67 false), (oo p73 (.pick (.t p67) (.c (.bool true)) (.t p72)))]) [p8, p73] (.cond (.t p73) (.seq (.ops [(oo p2 (.mv (.c (.bool false))))]) [p2] .ret) .skip)) [p8] (.seq (.seq (.ops [(oo p10 (.mv (.c (.int .i64 0))))]) [p8, p10] (.block 0 (.loop [p8, p10] c_s_1))) [] c_s_0))))))))
def f_s : zr := ⟨87, [.tmp p2], c_s, none⟩
def zfX : CC := (.seq (.ops [(oo p33 (.bin .lss .other (.t p32) (.t p31)))]) [p1, p30, p31, p32, p33] (.seq (.cond (.t p33) .skip (.exit 0)) [p1, p30, p31, p32] (.seq (.block 1 (.seq (.ops [(oo p34 (.mv (.t p32))), (oo p35 (.indexAddr 3 (.t p30) (.t p32))), (oo p36 (.loadN 3 (.t p35))), (oo p4 (.alloc [(.int .i64 0), (.int .i64 0), (.int .i64 0)])), (oo p3 (.mv (.t p34))), (on (.store 3 (.t p4) (.t p36)))]) [p1, p3, p4, p30, p31, p32] (.seq (.draw [(oo p37 (.fieldAddr 0 (.t p4))), (oo p38 (.load1 (.t p37))), (oo p39 (.fieldAddr 1 (.t p4))), (oo p40 (.load1 (.t p39))), (oo p41 (.fieldAddr 2 (.t p4))), (oo p42 (.load1 (.t p41))), (oo p43 (.blt .min [(.t p38), (.t p40), (.t p42)])), (oo p44 (.bin .lss .other (.t p43) (.c (.int .i64 0)))), (oo p45 (.mv (.t p44))), (og p46 (.fieldAddr 0 (.t p4)) p45 false), (og p47 (.load1 (.t p46)) p45 false), (og p48 (.fieldAddr 1 (.t p4)) p45 false), (og p49 (.load1 (.t p48)) p45 false), (og p50 (.blt .max [(.t p47), (.t p49)]) p45 false), (og p51 (.fieldAddr 0 (.t p1)) p45 false), (og p52 (.load1 (.t p51)) p45 false), (og p53 (.bin .geq .other (.t p50) (.t p52)) p45 false), (oo p54 (.pick (.t p45) (.c (.bool true)) (.t p53))), (oo p55 (.mv (.t p54))), (og p56 (.fieldAddr 2 (.t p4)) p55 false), (og p57 (.load1 (.t p56)) p55 false), (og p58 (.fieldAddr 1 (.t p1)) p55 false), (og p59 (.load1 (.t p58)) p55 false), (og p60 (.bin .geq .other (.t p57) (.t p59)) p55 false), (oo p61 (.pick (.t p55) (.c (.bool true)) (.t p60))), (oo p62 (.mv (.t p61))), (og p63 (.mv (.t p3)) p62 false), (og p64 (.bin .gtr .other (.t p63) (.c (.int .i64 0))) p62 false), (og p65 (.mv (.t p64)) p62 false), (og p66 (.fieldAddr 2 (.t p1)) p65 true), (og p67 (.load1 (.t p66)) p65 true), (og p68 (.mv (.t p3)) p65 true), (og p69 (.bin .sub .other (.t p68) (.c (.int .i64 1))) p65 true), (og p70 (.indexAddr 3 (.t p67) (.t p69)) p65 true), (og p71 (.loadN 3 (.t p70)) p65 true), (og p72 (.loadN 3 (.t p4)) p65 true), (og p73 (.call (.c (.func (.func n_G) #[] #[])) [(.t p71), (.t p72)]) p65 true), ⟨(some p74), .bin .geq .other (.t p73) (.c (.int .i64 0)), (some (p65, true)), 1⟩, ⟨(some p75), .pick (.t p65) (.t p74) (.c (.bool false)), (some (p62, false)), 1⟩, ⟨(some p76), .pick (.t p62) (.c (.bool true)) (.t p75), none, 1⟩]) [p1, p30, p31, p32, p76] (.cond (.t p76) (.seq (.ops [(oo p2 (.mv (.c (.int .i64 2))))]) [p2] .ret) .skip)))) [p1, p30, p31, p32] (.ops [(oo p77 (.bin .add .other (.t p32) (.c (.int .i64 1)))), (oo p32 (.mv (.t p77)))]))))
def zgs : CC := (.seq (.ops [(oo p2 (.mv (.c (.int .i64 0))))]) [p2] .ret)
def c_n : CC := (.seq (.ops [(oo p1 (.box (.t p0))), (oo p2 (.mv (.c (.int .i64 0))))]) [p1] (.seq (.seq (.ops [(oo p5 (.fieldAddr 0 (.t p1))), (oo p6 (.load1 (.t p5))), (oo p7 (.bin .lss .other (.t p6) (.c (.int .i64 1)))), (oo p8 (.mv (.t p7))), (og p9 (.fieldAddr 0 (.t p1)) p8 false), (og p10 (.load1 (.t p9)) p8 false), (og p11 (.bin .gtr .other (.t p10) (.c (.int .i64 60))) p8 false), (oo p12 (.pick (.t p8) (.c (.bool true)) (.t p11))), (oo p13 (.mv (.t p12))), (og p14 (.fieldAddr 1 (.t p1)) p13 false), (og p15 (.load1 (.t p14)) p13 false), (og p16 (.bin .lss .other (.t p15) (.c (.int .i64 1))) p13 false), (oo p17 (.pick (.t p13) (.c (.bool true)) (.t p16))), (oo p18 (.mv (.t p17))), (og p19 (.fieldAddr 1 (.t p1)) p18 false), (og p20 (.load1 (.t p19)) p18 false), (og p21 (.bin .gtr .other (.t p20) (.c (.int .i64 41))) p18 false), (oo p22 (.pick (.t p18) (.c (.bool true)) (.t p21))), (oo p23 (.mv (.t p22))), (og p24 (.fieldAddr 2 (.t p1)) p23 false), (og p25 (.load1 (.t p24)) p23 false), (og p26 (.blt .len [(.t p25)]) p23 false), (og p27 (.bin .gtr .other (.t p26) (.c (.int .i64 400))) p23 false), (oo p28 (.pick (.t p23) (.c (.bool true)) (.t p27)))]) [p1, p28] (.cond (.t p28) (.seq (.ops [(oo p2 (.mv (.c (.int .i64 2))))]) [p2] .ret) .skip)) [p1] (.seq (.seq (.ops [(oo p29 (.fieldAddr 2 (.t p1))), (oo p30 (.load1 (.t p29))), (oo p31 (.blt .len [(.t p30)])), (oo p32 (.mv (.c (.int .i64 0))))]) [p1, p30, p31, p32] (.block 0 (.loop [p1, p30, p31, p32] zfX))) [] zgs)))
def f_n : zr := ⟨78, [.tmp p2], c_n, none⟩
def zg4 : CC := (.seq (.seq (.ops [(oo p27 (.mv (.t p5))), (oo p28 (.fieldAddr 2 (.t p2))), (oo p29 (.load1 (.t p28))), (oo p30 (.blt .len [(.t p29)])), (oo p31 (.bin .lss .other (.t p27) (.t p30)))]) [p2, p3, p5, p31] (.cond (.t p31) .skip (.exit 0))) [p2, p3, p5] (.seq (.block 1 (.seq (.draw [(oo p34 (.fieldAddr 2 (.t p2))), (oo p35 (.load1 (.t p34))), (oo p36 (.mv (.t p5))), (oo p37 (.indexAddr 3 (.t p35) (.t p36))), (oo p38 (.loadN 3 (.t p37))), (oo p39 (.fieldAddr 2 (.t p3))), (oo p40 (.load1 (.t p39))), (oo p41 (.mv (.t p5))), (oo p42 (.indexAddr 3 (.t p40) (.t p41))), (oo p43 (.loadN 3 (.t p42))), (oo p44 (.bin .neq (.leaves [0, 1, 2]) (.t p38) (.t p43)))]) [p2, p3, p5, p44] (.cond (.t p44) (.seq (.ops [(oo p4 (.mv (.c (.bool false))))]) [p4] .ret) .skip))) [p2, p3, p5] (.ops [(oo p32 (.mv (.t p5))), (oo p33 (.bin .add .other (.t p32) (.c (.int .i64 1)))), (oo p5 (.mv (.t p33)))])))
def zg5 : CC := (.seq (.ops [(oo p4 (.mv (.c (.bool true))))]) [p4] .ret)
def c_g : CC := (.seq (.ops [(oo p2 (.box (.t p0))), (oo p3 (.box (.t p1))), (oo p4 (.mv (.c (.bool false))))]) [p2, p3] (.seq (.seq (.ops [(oo p6 (.fieldAddr 0 (.t p2))), (oo p7 (.load1 (.t p6))), (oo p8 (.fieldAddr 0 (.t p3))), (oo p9 (.load1 (.t p8))), (oo p10 (.bin .neq .other (.t p7) (.t p9))), (oo p11 (.mv (.t p10))), (og p12 (.fieldAddr 1 (.t p2)) p11 false), (og p13 (.load1 (.t p12)) p11 false), (og p14 (.fieldAddr 1 (.t p3)) p11 false), (og p15 (.load1 (.t p14)) p11 false), (og p16 (.bin .neq .other (.t p13) (.t p15)) p11 false), (oo p17 (.pick (.t p11) (.c (.bool true)) (.t p16))), (oo p18 (.mv (.t p17))), (og p19 (.fieldAddr 2 (.t p2)) p18 false), (og p20 (.load1 (.t p19)) p18 false), (og p21 (.blt .len [(.t p20)]) p18 false), (og p22 (.fieldAddr 2 (.t p3)) p18 false), (og p23 (.load1 (.t p22)) p18 false), (og p24 (.blt .len [(.t p23)]) p18 false), (og p25 (.bin .neq .other (.t p21) (.t p24)) p18 false), (oo p26 (.pick (.t p18) (.c (.bool true)) (.t p25)))]) [p2, p3, p26] (.cond (.t p26) (.seq (.ops [(oo p4 (.mv (.c (.bool false))))]) [p4] .ret) .skip)) [p2, p3] (.seq (.seq (.ops [(oo p5 (.mv (.c (.int .i64 0))))]) [p2, p3, p5] (.block 0 (.loop [p2, p3, p5] zg4))) [] zg5)))
def f_g : zr := ⟨45, [.tmp p4], c_g, none⟩
def c_J : CC := (.seq (.ops [(oo p2 (.box (.t p0))), (oo p3 (.box (.t p1))), (oo p4 (.mv (.c (.bool false)))), (oo p5 (.mv (.c (.int .i64 0))))]) [p2, p3] (.seq (.seq (.ops [(oo p6 (.loadN 3 (.t p2))), (oo p7 (.loadN 3 (.t p3))), (oo p8 (.call (.c (.func (.func n_K) #[] #[])) [(.t p6), (.t p7)])), (oo p9 (.un .not (.t p8)))]) [p2, p3, p9] (.cond (.t p9) (.seq (.ops [(oo p4 (.mv (.c (.bool false)))), (oo p5 (.mv (.c (.int .i64 2))))]) [p4, p5] .ret) .skip)) [p2, p3] (.seq (.ops [(oo p10 (.loadN 3 (.t p2))), (oo p11 (.loadN 3 (.t p3))), (oo p12 (.call (.c (.func (.func n_w) #[] #[])) [(.t p10), (.t p11)])), (oo p4 (.mv (.t p12))), (oo p5 (.mv (.c (.int .i64 0))))]) [p4, p5] .ret)))
def f_J : zr := ⟨13, [.tmp p4, .tmp p5], c_J, none⟩
def c_H : CC := (.seq (.ops [(oo p1 (.box (.t p0))), (oo p2 (.mv (.c (.slice none 0 0)))), (oo p3 (.mv (.c (.int .i64 0))))]) [p1] (.seq (.seq (.ops [(oo p4 (.loadN 3 (.t p1))), (oo p5 (.call (.c (.func (.func n_n) #[] #[])) [(.t p4)])), (oo p6 (.bin .neq .other (.t p5) (.c (.int .i64 0))))]) [p1, p6] (.cond (.t p6) (.seq (.ops [(oo p2 (.mv (.c (.slice none 0 0)))), (oo p3 (.mv (.c (.int .i64 2))))]) [p2, p3] .ret) .skip)) [p1] (.seq (.ops [(oo p7 (.loadN 3 (.t p1))), (oo p8 (.call (.c (.func (.func n_e) #[] #[])) [(.t p7)])), (oo p2 (.mv (.t p8))), (oo p3 (.mv (.c (.int .i64 0))))]) [p2, p3] .ret)))
def f_H : zr := ⟨9, [.tmp p2, .tmp p3], c_H, none⟩
def c_h_3 : CC := (.ops [(oo p7 (.alloc [(.int .i64 0), (.int .i64 0), (.int .i64 0)])), (on (.store 3 (.t p7) (.t p37)))])
def c_h_4 : CC := (.block 3 (.seq (.ops [(oo p38 (.load1 (.t p5))), (oo p39 (.fieldAddr 1 (.t p7))), (oo p40 (.load1 (.t p39))), (oo p41 (.call (.c (.func (.func n_y) #[] #[])) [(.t p38), (.t p40)])), (oo p42 (.un .not (.t p41)))]) [p5, p7, p42] (.cond (.t p42) (.ops [(oo p43 (.load1 (.t p5))), (oo p44 (.fieldAddr 1 (.t p7))), (oo p45 (.load1 (.t p44))), (oo p46 (.buildSlice 1 1 [(.int .i64 0)] [(0, (.t p45))])), (oo p47 (.blt (.append 1 8) [(.t p43), (.t p46)])), (on (.store 1 (.t p5) (.t p47)))]) .skip)))
def zeX : RC := ⟨(n_h * 1000 + 3), [p5], [p37], c_h_3, c_h_4⟩
def c_h_2 : CC := (.ops [(oo p29 (.mv (.t p6))), (oo p30 (.bin .add .other (.t p29) (.c (.int .i64 1)))), (oo p6 (.mv (.t p30)))])
def c_h_1 : CC := (.seq (.seq (.ops [(oo p25 (.mv (.t p6))), (oo p26 (.load1 (.t p5))), (oo p27 (.blt .len [(.t p26)])), (oo p28 (.bin .lss .other (.t p25) (.t p27)))]) [p1, p2, p3, p4, p5, p6, p28] (.cond (.t p28) .skip (.exit 0))) [p1, p2, p3, p4, p5, p6] (.seq (.block 1 (.seq (.draw [(oo p31 (.loadN 3 (.t p1))), (oo p32 (.load1 (.t p5))), (oo p33 (.mv (.t p6))), (oo p34 (.indexAddr 1 (.t p32) (.t p33))), (oo p35 (.load1 (.t p34))), (oo p36 (.call (.c (.func (.func n_A) #[] #[])) [(.t p31), (.t p35)]))]) [p1, p2, p3, p4, p5, p6, p36] (.block 2 (.rangeFunc (n_h * 1000 + 3) [p5] (.t p36) [p37] c_h_3 c_h_4)))) [p1, p2, p3, p4, p5, p6] c_h_2))
def c_h_6 : CC := (.seq (.ops [(oo p51 (.bin .lss .other (.t p50) (.t p49)))]) [p1, p2, p4, p8, p48, p49, p50, p51] (.seq (.cond (.t p51) .skip (.exit 4)) [p1, p2, p4, p8, p48, p49, p50] (.seq (.block 5 (.seq (.ops [(oo p52 (.indexAddr 1 (.t p48) (.t p50))), (oo p53 (.load1 (.t p52))), (oo p10 (.mv (.t p53)))]) [p1, p2, p4, p8, p10, p48, p49, p50] (.ops [(oo p54 (.mv (.t p8))), (oo p55 (.mv (.t p4))), (oo p56 (.mv (.t p10))), (oo p57 (.indexAddr 1 (.t p55) (.t p56))), (oo p58 (.load1 (.t p57))), (oo p59 (.buildSlice 1 1 [(.int .i64 0)] [(0, (.t p58))])), (oo p60 (.blt (.append 1 8) [(.t p54), (.t p59)])), (oo p8 (.mv (.t p60)))]))) [p1, p2, p4, p8, p48, p49, p50] (.ops [(oo p61 (.bin .add .other (.t p50) (.c (.int .i64 1)))), (oo p50 (.mv (.t p61)))]))))
def c_h_9 : CC := (.ops [(oo p110 (.bin .add .other (.t p72) (.c (.int .i64 1)))), (oo p72 (.mv (.t p110)))])
def c_h_8 : CC := (.seq (.ops [(oo p73 (.bin .lss .other (.t p72) (.t p71)))]) [p2, p4, p8, p11, p70, p71, p72, p73] (.seq (.cond (.t p73) .skip (.exit 6)) [p2, p4, p8, p11, p70, p71, p72] (.seq (.block 7 (.seq (.ops [(oo p74 (.indexAddr 3 (.t p70) (.t p72))), (oo p75 (.loadN 3 (.t p74))), (oo p13 (.alloc [(.int .i64 0), (.int .i64 0), (.int .i64 0)])), (on (.store 3 (.t p13) (.t p75)))]) [p2, p4, p8, p11, p13, p70, p71, p72] (.seq (.ops [(oo p77 (.mv (.t p8))), (oo p78 (.mv (.t p4))), (oo p79 (.fieldAddr 0 (.t p13))), (oo p80 (.load1 (.t p79))), (oo p81 (.indexAddr 1 (.t p78) (.t p80))), (oo p82 (.load1 (.t p81))), (oo p83 (.call (.c (.func (.func n_l) #[] #[])) [(.t p77), (.t p82)])), (oo p76 (.mv (.t p83))), (oo p84 (.extract (.t p76) 0)), (oo p85 (.extract (.t p76) 1)), (oo p14 (.mv (.t p84))), (oo p15 (.mv (.t p85)))]) [p2, p4, p8, p11, p13, p14, p15, p70, p71, p72] (.seq (.ops [(oo p87 (.mv (.t p8))), (oo p88 (.mv (.t p4))), (oo p89 (.fieldAddr 1 (.t p13))), (oo p90 (.load1 (.t p89))), (oo p91 (.indexAddr 1 (.t p88) (.t p90))), (oo p92 (.load1 (.t p91))), (oo p93 (.call (.c (.func (.func n_l) #[] #[])) [(.t p87), (.t p92)])), (oo p86 (.mv (.t p93))), (oo p94 (.extract (.t p86) 0)), (oo p95 (.extract (.t p86) 1)), (oo p16 (.mv (.t p94))), (oo p17 (.mv (.t p95)))]) [p2, p4, p8, p11, p13, p14, p15, p16, p17, p70, p71, p72] (.seq (.ops [(oo p96 (.mv (.t p15))), (oo p97 (.mv (.t p96))), (og p98 (.mv (.t p17)) p97 true), (oo p99 (.pick (.t p97) (.t p98) (.c (.bool false))))]) [p2, p4, p8, p11, p13, p14, p16, p70, p71, p72, p99] (.cond (.t p99) (.ops [(oo p100 (.fieldAddr 2 (.t p11))), (oo p101 (.load1 (.t p100))), (oo p102 (.mv (.t p14))), (oo p103 (.mv (.t p16))), (oo p104 (.fieldAddr 2 (.t p13))), (oo p105 (.load1 (.t p104))), (oo p106 (.build [(.int .i64 0), (.int .i64 0), (.int .i64 0)] [(0, 1, (.t p102)), (1, 1, (.t p103)), (2, 1, (.t p105))])), (oo p107 (.buildSlice 1 3 [(.int .i64 0), (.int .i64 0), (.int .i64 0)] [(0, (.t p106))])), (oo p108 (.blt (.append 3 24) [(.t p101), (.t p107)])), (oo p109 (.fieldAddr 2 (.t p11))), (on (.store 1 (.t p109) (.t p108)))]) .skip)))))) [p2, p4, p8, p11, p70, p71, p72] c_h_9)))
def c_h_7 : CC := (.seq (.ops [(oo p111 (.fieldAddr 2 (.t p11))), (oo p112 (.load1 (.t p111))), (oo p113 (.call (.c (.func (.func n_I) #[] #[])) [(.t p112), (.c (.func (.func n_G) #[] #[]))])), (oo p114 (.fieldAddr 2 (.t p11))), (on (.store 1 (.t p114) (.t p113)))]) [p2, p11] (.seq (.ops [(oo p115 (.loadN 3 (.t p11))), (on (.store 3 (.t p2) (.t p115))), (oo p3 (.mv (.c (.int .i64 0))))]) [p2, p3] .ret))
def c_h_5 : CC := (.seq (.ops [(oo p62 (.mv (.t p8))), (oo p63 (.call (.c (.func (.func n_N) #[] #[])) [(.t p62), (.c (.func (.func n_C) #[] #[]))])), (oo p8 (.mv (.t p63)))]) [p1, p2, p4, p8] (.seq (.ops [(oo p64 (.mv (.t p8))), (oo p65 (.blt .len [(.t p64)])), (oo p66 (.fieldAddr 1 (.t p1))), (oo p67 (.load1 (.t p66))), (oo p68 (.build [(.int .i64 0), (.int .i64 0), (.slice none 0 0)] [(0, 1, (.t p65)), (1, 1, (.t p67))])), (oo p11 (.alloc [(.int .i64 0), (.int .i64 0), (.slice none 0 0)])), (on (.store 3 (.t p11) (.t p68)))]) [p1, p2, p4, p8, p11] (.seq (.seq (.ops [(oo p69 (.fieldAddr 2 (.t p1))), (oo p70 (.load1 (.t p69))), (oo p71 (.blt .len [(.t p70)])), (oo p72 (.mv (.c (.int .i64 0))))]) [p2, p4, p8, p11, p70, p71, p72] (.block 6 (.loop [p2, p4, p8, p11, p70, p71, p72] c_h_8))) [p2, p11] c_h_7)))
def zi3 : CC := (.seq (.ops [(oo p8 (.mv (.c (.slice none 0 0))))]) [p1, p2, p4, p5, p8] (.seq (.seq (.ops [(oo p48 (.load1 (.t p5))), (oo p49 (.blt .len [(.t p48)])), (oo p50 (.mv (.c (.int .i64 0))))]) [p1, p2, p4, p8, p48, p49, p50] (.block 4 (.loop [p1, p2, p4, p8, p48, p49, p50] c_h_6))) [p1, p2, p4, p8] c_h_5))
def c_h : CC := (.seq (.ops [(oo p1 (.box (.t p0))), (oo p2 (.alloc [(.int .i64 0), (.int .i64 0), (.slice none 0 0)])), (oo p3 (.mv (.c (.int .i64 0))))]) [p1, p2, p3] (.seq (.seq (.ops [(oo p18 (.loadN 3 (.t p1))), (oo p19 (.call (.c (.func (.func n_n) #[] #[])) [(.t p18)])), (oo p20 (.bin .neq .other (.t p19) (.c (.int .i64 0))))]) [p1, p2, p3, p20] (.cond (.t p20) (.seq (.ops [(oo p21 (.build [(.int .i64 0), (.int .i64 0), (.slice none 0 0)] [])), (on (.store 3 (.t p2) (.t p21))), (oo p3 (.mv (.c (.int .i64 2))))]) [p2, p3] .ret) .skip)) [p1, p2, p3] (.seq (.ops [(oo p22 (.loadN 3 (.t p1))), (oo p23 (.call (.c (.func (.func n_e) #[] #[])) [(.t p22)])), (oo p4 (.mv (.t p23)))]) [p1, p2, p3, p4] (.seq (.ops [(oo p24 (.buildSlice 1 1 [(.int .i64 0)] [(0, (.c (.int .i64 0)))])), (oo p5 (.alloc [(.slice none 0 0)])), (on (.store 1 (.t p5) (.t p24)))]) [p1, p2, p3, p4, p5] (.seq (.seq (.ops [(oo p6 (.mv (.c (.int .i64 0))))]) [p1, p2, p3, p4, p5, p6] (.block 0 (.loop [p1, p2, p3, p4, p5, p6] c_h_1))) [p1, p2, p4, p5] zi3)))))
def f_h : zr := ⟨116, [.cell (some 3) p2, .tmp p3], c_h, none⟩
def c_G : CC := (.seq (.ops [(oo p2 (.box (.t p0))), (oo p3 (.box (.t p1))), (oo p4 (.mv (.c (.int .i64 0))))]) [p2, p3] (.seq (.draw [(oo p5 (.fieldAddr 0 (.t p2))), (oo p6 (.load1 (.t p5))), (oo p7 (.fieldAddr 0 (.t p3))), (oo p8 (.load1 (.t p7))), (oo p9 (.call (.c (.func (.func n_C) #[] #[])) [(.t p6), (.t p8)])), (oo p10 (.fieldAddr 2 (.t p2))), (oo p11 (.load1 (.t p10))), (oo p12 (.fieldAddr 2 (.t p3))), (oo p13 (.load1 (.t p12))), ⟨(some p14), .call (.c (.func (.func n_C) #[] #[])) [(.t p11), (.t p13)], none, 1⟩, (oo p15 (.fieldAddr 1 (.t p2))), (oo p16 (.load1 (.t p15))), (oo p17 (.fieldAddr 1 (.t p3))), (oo p18 (.load1 (.t p17))), ⟨(some p19), .call (.c (.func (.func n_C) #[] #[])) [(.t p16), (.t p18)], none, 2⟩, ⟨(some p20), .buildSlice 3 1 [(.int .i64 0)] [(0, (.t p9)), (1, (.t p14)), (2, (.t p19))], none, 3⟩, ⟨(some p21), .call (.c (.func (.func n_v) #[] #[])) [(.t p20)], none, 3⟩, ⟨(some p4), .mv (.t p21), none, 4⟩]) [p4] .ret))
def f_G : zr := ⟨22, [.tmp p4], c_G, none⟩
def c_c_7 : CC := (.seq (.ops [(oo p57 (.mv (.t p11)))]) [p1, p3, p4, p5, p6, p7, p18, p19, p22, p23, p57] (.cond (.t p57) (.ops [(oo p58 (.mv (.t p5))), (oo p59 (.mv (.t p6))), (oo p60 (.mv (.t p7))), (oo p61 (.build [(.int .i64 0), (.int .i64 0)] [(0, 1, (.t p59)), (1, 1, (.t p60))])), (oo p62 (.buildSlice 1 2 [(.int .i64 0), (.int .i64 0)] [(0, (.t p61))])), (oo p63 (.blt (.append 2 16) [(.t p58), (.t p62)])), (oo p5 (.mv (.t p63)))]) .skip))
def zir : CC := (.ops [(oo p64 (.bin .add .other (.t p23) (.c (.int .i64 1)))), (oo p23 (.mv (.t p64)))])
def zha : CC := (.seq (.ops [(oo p24 (.bin .lss .other (.t p23) (.t p22)))]) [p1, p3, p4, p5, p6, p18, p19, p22, p23, p24] (.seq (.cond (.t p24) .skip (.exit 4)) [p1, p3, p4, p5, p6, p18, p19, p22, p23] (.seq (.block 5 (.seq (.ops [(oo p25 (.mv (.t p23))), (oo p7 (.mv (.t p25)))]) [p1, p3, p4, p5, p6, p7, p18, p19, p22, p23] (.seq (.seq (.ops [(oo p27 (.mv (.t p3))), (oo p28 (.mv (.t p6))), (oo p29 (.mv (.t p7))), (oo p30 (.build [(.int .i64 0), (.int .i64 0)] [(0, 1, (.t p28)), (1, 1, (.t p29))])), (oo p31 (.lookup (.leaves [0, 1]) (.int .i64 0) true (.t p27) (.t p30))), (oo p26 (.mv (.t p31))), (oo p32 (.extract (.t p26) 0)), (oo p33 (.extract (.t p26) 1)), (oo p8 (.mv (.t p32))), (oo p9 (.mv (.t p33)))]) [p1, p3, p4, p5, p6, p7, p9, p18, p19, p22, p23] (.seq (.ops [(oo p34 (.mv (.t p9)))]) [p1, p3, p4, p5, p6, p7, p18, p19, p22, p23, p34] (.cond (.t p34) (.exit 5) .skip))) [p1, p3, p4, p5, p6, p7, p18, p19, p22, p23] (.seq (.ops [(oo p36 (.mv (.t p3))), (oo p37 (.loadN 3 (.t p1))), (oo p38 (.mv (.t p6))), (oo p39 (.mv (.t p7))), (oo p40 (.mv (.t p4))), (oo p41 (.bin .sub .other (.t p40) (.c (.int .i64 1)))), (oo p42 (.call (.c (.func (.func n_i) #[] #[])) [(.t p36), (.t p37), (.t p38), (.t p39), (.t p41)])), (oo p35 (.mv (.t p42))), (oo p43 (.extract (.t p35) 0)), (oo p44 (.extract (.t p35) 1)), (oo p10 (.alloc [(.int .i64 0), (.int .i64 0), (.int .i64 0)])), (on (.store 3 (.t p10) (.t p43))), (oo p11 (.mv (.t p44)))]) [p1, p3, p4, p5, p6, p7, p11, p18, p19, p22, p23] (.seq (.seq (.ops [(oo p45 (.mv (.t p11))), (oo p46 (.un .not (.t p45)))]) [p1, p3, p4, p5, p6, p7, p11, p18, p19, p22, p23, p46] (.cond (.t p46) (.ops [(oo p48 (.mv (.t p3))), (oo p49 (.loadN 3 (.t p1))), (oo p50 (.mv (.t p7))), (oo p51 (.mv (.t p6))), (oo p52 (.mv (.t p4))), (oo p53 (.bin .sub .other (.t p52) (.c (.int .i64 1)))), (oo p54 (.call (.c (.func (.func n_i) #[] #[])) [(.t p48), (.t p49), (.t p50), (.t p51), (.t p53)])), (oo p47 (.mv (.t p54))), (oo p55 (.extract (.t p47) 0)), (oo p56 (.extract (.t p47) 1)), (oo p11 (.mv (.t p56)))]) .skip)) [p1, p3, p4, p5, p6, p7, p11, p18, p19, p22, p23] c_c_7))))) [p1, p3, p4, p5, p6, p18, p19, p22, p23] zir)))
def zhb : CC := (.ops [(oo p65 (.bin .add .other (.t p19) (.c (.int .i64 1)))), (oo p19 (.mv (.t p65)))])
def zhc : CC := (.seq (.ops [(oo p20 (.bin .lss .other (.t p19) (.t p18)))]) [p1, p3, p4, p5, p18, p19, p20] (.seq (.cond (.t p20) .skip (.exit 2)) [p1, p3, p4, p5, p18, p19] (.seq (.block 3 (.seq (.ops [(oo p21 (.mv (.t p19))), (oo p6 (.mv (.t p21)))]) [p1, p3, p4, p5, p6, p18, p19] (.seq (.ops [(oo p22 (.mv (.t p6))), (oo p23 (.mv (.c (.int .i64 0))))]) [p1, p3, p4, p5, p6, p18, p19, p22, p23] (.block 4 (.loop [p1, p3, p4, p5, p6, p18, p19, p22, p23] zha))))) [p1, p3, p4, p5, p18, p19] zhb)))
def zg9 : CC := (.seq (.ops [(oo p73 (.bin .lss .other (.t p72) (.t p71)))]) [p1, p3, p4, p70, p71, p72, p73] (.seq (.cond (.t p73) .skip (.exit 6)) [p1, p3, p4, p70, p71, p72] (.seq (.block 7 (.seq (.ops [(oo p74 (.indexAddr 2 (.t p70) (.t p72))), (oo p75 (.loadN 2 (.t p74))), (oo p13 (.alloc [(.int .i64 0), (.int .i64 0)])), (on (.store 2 (.t p13) (.t p75)))]) [p1, p3, p4, p13, p70, p71, p72] (.draw [(oo p76 (.mv (.t p3))), (oo p77 (.loadN 2 (.t p13))), (oo p84 (.mv (.t p4))), (on (.mapUpdate (.leaves [0, 1]) (.t p76) (.t p77) (.t p84))), (oo p78 (.mv (.t p3))), (oo p79 (.indexArr 2 1 (.t p13) (.c (.int .i64 1)))), (oo p80 (.load1 (.t p79))), (oo p81 (.indexArr 2 1 (.t p13) (.c (.int .i64 0)))), (oo p82 (.load1 (.t p81))), (oo p83 (.build [(.int .i64 0), (.int .i64 0)] [(0, 1, (.t p80)), (1, 1, (.t p82))])), (oo p85 (.mv (.t p4))), ⟨none, .mapUpdate (.leaves [0, 1]) (.t p78) (.t p83) (.t p85), none, 1⟩]))) [p1, p3, p4, p70, p71, p72] (.ops [(oo p86 (.bin .add .other (.t p72) (.c (.int .i64 1)))), (oo p72 (.mv (.t p86)))]))))
def zgt : CC := (.seq (.seq (.ops [(oo p66 (.mv (.t p5))), (oo p67 (.blt .len [(.t p66)])), (oo p68 (.bin .eql .other (.t p67) (.c (.int .i64 0))))]) [p1, p3, p4, p5, p68] (.cond (.t p68) (.seq (.ops [(oo p69 (.mv (.t p3))), (oo p2 (.mv (.t p69)))]) [p2] .ret) .skip)) [p1, p3, p4, p5] (.seq (.ops [(oo p70 (.mv (.t p5))), (oo p71 (.blt .len [(.t p70)])), (oo p72 (.mv (.c (.int .i64 0))))]) [p1, p3, p4, p70, p71, p72] (.block 6 (.loop [p1, p3, p4, p70, p71, p72] zg9))))
def c_c_1 : CC := (.ops [(oo p15 (.mv (.t p4))), (oo p16 (.bin .add .other (.t p15) (.c (.int .i64 1)))), (oo p4 (.mv (.t p16)))])
def zhd : CC := (.seq (.block 1 (.seq (.ops [(oo p5 (.mv (.c (.slice none 0 0))))]) [p1, p3, p4, p5] (.seq (.seq (.ops [(oo p17 (.fieldAddr 0 (.t p1))), (oo p18 (.load1 (.t p17))), (oo p19 (.mv (.c (.int .i64 0))))]) [p1, p3, p4, p5, p18, p19] (.block 2 (.loop [p1, p3, p4, p5, p18, p19] zhc))) [p1, p3, p4, p5] zgt))) [p1, p3, p4] c_c_1)
def c_c : CC := (.seq (.ops [(oo p1 (.box (.t p0))), (oo p2 (.mv (.c (.map none))))]) [p1] (.seq (.ops [(oo p14 (.makeMap)), (oo p3 (.mv (.t p14)))]) [p1, p3] (.seq (.ops [(oo p4 (.mv (.c (.int .i64 1))))]) [p1, p3, p4] (.block 0 (.loop [p1, p3, p4] zhd)))))
def f_c : zr := ⟨87, [.tmp p2], c_c, none⟩
def c_K : CC := (.seq (.ops [(oo p2 (.box (.t p0))), (oo p3 (.box (.t p1))), (oo p4 (.mv (.c (.bool false))))]) [p2, p3] (.seq (.ops [(oo p5 (.loadN 3 (.t p2))), (oo p6 (.call (.c (.func (.func n_n) #[] #[])) [(.t p5)])), (oo p7 (.bin .eql .other (.t p6) (.c (.int .i64 0)))), (oo p8 (.mv (.t p7))), (og p9 (.loadN 3 (.t p3)) p8 true), (og p10 (.call (.c (.func (.func n_n) #[] #[])) [(.t p9)]) p8 true), (og p11 (.bin .eql .other (.t p10) (.c (.int .i64 0))) p8 true), (oo p12 (.pick (.t p8) (.t p11) (.c (.bool false)))), (oo p13 (.mv (.t p12))), (og p14 (.fieldAddr 1 (.t p2)) p13 true), (og p15 (.load1 (.t p14)) p13 true), (og p16 (.fieldAddr 1 (.t p3)) p13 true), (og p17 (.load1 (.t p16)) p13 true), (og p18 (.bin .eql .other (.t p15) (.t p17)) p13 true), (oo p19 (.pick (.t p13) (.t p18) (.c (.bool false)))), (oo p4 (.mv (.t p19)))]) [p4] .ret))
def f_K : zr := ⟨20, [.tmp p4], c_K, none⟩
def zg1 : CC := (.seq (.ops [(oo p25 (.bin .lss .other (.t p24) (.t p23)))]) [p2, p5, p22, p23, p24, p25] (.seq (.cond (.t p25) .skip (.exit 0)) [p2, p5, p22, p23, p24] (.seq (.block 1 (.seq (.ops [(oo p26 (.indexAddr 3 (.t p22) (.t p24))), (oo p27 (.loadN 3 (.t p26))), (oo p7 (.alloc [(.int .i64 0), (.int .i64 0), (.int .i64 0)])), (on (.store 3 (.t p7) (.t p27)))]) [p2, p5, p7, p22, p23, p24] (.ops [(oo p28 (.fieldAddr 2 (.t p5))), (oo p29 (.load1 (.t p28))), (oo p30 (.fieldAddr 0 (.t p7))), (oo p31 (.load1 (.t p30))), (oo p32 (.fieldAddr 0 (.t p2))), (oo p33 (.load1 (.t p32))), (oo p34 (.bin .add .other (.t p31) (.t p33))), (oo p35 (.fieldAddr 1 (.t p7))), (oo p36 (.load1 (.t p35))), (oo p37 (.fieldAddr 0 (.t p2))), (oo p38 (.load1 (.t p37))), (oo p39 (.bin .add .other (.t p36) (.t p38))), (oo p40 (.fieldAddr 2 (.t p7))), (oo p41 (.load1 (.t p40))), (oo p42 (.build [(.int .i64 0), (.int .i64 0), (.int .i64 0)] [(0, 1, (.t p34)), (1, 1, (.t p39)), (2, 1, (.t p41))])), (oo p43 (.buildSlice 1 3 [(.int .i64 0), (.int .i64 0), (.int .i64 0)] [(0, (.t p42))])), (oo p44 (.blt (.append 3 24) [(.t p29), (.t p43)])), (oo p45 (.fieldAddr 2 (.t p5))), (on (.store 1 (.t p45) (.t p44)))]))) [p2, p5, p22, p23, p24] (.ops [(oo p46 (.bin .add .other (.t p24) (.c (.int .i64 1)))), (oo p24 (.mv (.t p46)))]))))
def zg2 : CC := (.seq (.draw [(oo p48 (.loadN 3 (.t p5))), (oo p49 (.call (.c (.func (.func n_c) #[] #[])) [(.t p48)])), (oo p50 (.fieldAddr 0 (.t p2))), (oo p51 (.load1 (.t p50))), (oo p52 (.build [(.int .i64 0), (.int .i64 0)] [(0, 1, (.c (.int .i64 0))), (1, 1, (.t p51))])), ⟨(some p53), .lookup (.leaves [0, 1]) (.int .i64 0) true (.t p49) (.t p52), none, 1⟩, ⟨(some p47), .mv (.t p53), none, 1⟩, ⟨(some p54), .extract (.t p47) 0, none, 1⟩, ⟨(some p55), .extract (.t p47) 1, none, 1⟩, ⟨(some p8), .mv (.t p54), none, 1⟩, ⟨(some p9), .mv (.t p55), none, 1⟩]) [p9] (.seq (.ops [(oo p56 (.mv (.t p9))), (oo p57 (.un .not (.t p56))), (oo p4 (.mv (.t p57)))]) [p4] .ret))
def c_w : CC := (.seq (.ops [(oo p2 (.box (.t p0))), (oo p3 (.box (.t p1))), (oo p4 (.mv (.c (.bool false))))]) [p2, p3] (.seq (.draw [(oo p17 (.fieldAddr 2 (.t p2))), (oo p18 (.load1 (.t p17))), (oo p19 (.call (.c (.func (.func n_m) #[] #[])) [(.t p18)])), (oo p10 (.fieldAddr 0 (.t p2))), (oo p11 (.load1 (.t p10))), (oo p12 (.fieldAddr 0 (.t p3))), (oo p13 (.load1 (.t p12))), (oo p14 (.bin .add .other (.t p11) (.t p13))), (oo p15 (.fieldAddr 1 (.t p2))), (oo p16 (.load1 (.t p15))), ⟨(some p20), .build [(.int .i64 0), (.int .i64 0), (.slice none 0 0)] [(0, 1, (.t p14)), (1, 1, (.t p16)), (2, 1, (.t p19))], none, 1⟩, (oo p5 (.alloc [(.int .i64 0), (.int .i64 0), (.slice none 0 0)])), ⟨none, .store 3 (.t p5) (.t p20), none, 1⟩]) [p2, p3, p5] (.seq (.seq (.ops [(oo p21 (.fieldAddr 2 (.t p3))), (oo p22 (.load1 (.t p21))), (oo p23 (.blt .len [(.t p22)])), (oo p24 (.mv (.c (.int .i64 0))))]) [p2, p5, p22, p23, p24] (.block 0 (.loop [p2, p5, p22, p23, p24] zg1))) [p2, p5] zg2)))
def f_w : zr := ⟨58, [.tmp p4], c_w, none⟩
def zg6 : CC := (.seq (.ops [(oo p21 (.bin .lss .other (.t p20) (.t p19)))]) [p3, p4, p5, p6, p14, p15, p18, p19, p20, p21] (.seq (.cond (.t p21) .skip (.exit 2)) [p3, p4, p5, p6, p14, p15, p18, p19, p20] (.seq (.block 3 (.seq (.ops [(oo p22 (.mv (.t p20))), (oo p23 (.indexAddr 1 (.t p18) (.t p20))), (oo p24 (.load1 (.t p23))), (oo p7 (.mv (.t p22))), (oo p8 (.mv (.t p24)))]) [p3, p4, p5, p6, p7, p8, p14, p15, p18, p19, p20] (.seq (.ops [(oo p26 (.mv (.t p3))), (oo p27 (.mv (.t p8))), (oo p28 (.mv (.t p6))), (oo p29 (.build [(.int .i64 0), (.int .i64 0)] [(0, 1, (.t p27)), (1, 1, (.t p28))])), (oo p30 (.lookup (.leaves [0, 1]) (.int .i64 0) true (.t p26) (.t p29))), (oo p25 (.mv (.t p30))), (oo p31 (.extract (.t p25) 0)), (oo p32 (.extract (.t p25) 1)), (oo p9 (.mv (.t p31))), (oo p10 (.mv (.t p32)))]) [p3, p4, p5, p6, p7, p10, p14, p15, p18, p19, p20] (.seq (.ops [(oo p33 (.mv (.t p10))), (oo p34 (.un .not (.t p33)))]) [p3, p4, p5, p6, p7, p14, p15, p18, p19, p20, p34] (.cond (.t p34) (.seq (.ops [(oo p35 (.mv (.t p4))), (oo p36 (.mv (.t p7))), (oo p37 (.buildSlice 1 1 [(.int .i64 0)] [(0, (.t p36))])), (oo p38 (.blt (.append 1 8) [(.t p35), (.t p37)])), (oo p4 (.mv (.t p38)))]) [p3, p4, p5, p14, p15] (.exit 1)) .skip))))) [p3, p4, p5, p6, p14, p15, p18, p19, p20] (.ops [(oo p39 (.bin .add .other (.t p20) (.c (.int .i64 1)))), (oo p20 (.mv (.t p39)))]))))
def zg7 : CC := (.seq (.ops [(oo p40 (.mv (.t p4))), (oo p41 (.mv (.t p5))), (oo p42 (.blt .len [(.t p41)])), (oo p43 (.buildSlice 1 1 [(.int .i64 0)] [(0, (.t p42))])), (oo p44 (.blt (.append 1 8) [(.t p40), (.t p43)])), (oo p4 (.mv (.t p44)))]) [p3, p4, p5, p6, p14, p15] (.ops [(oo p45 (.mv (.t p5))), (oo p46 (.mv (.t p6))), (oo p47 (.buildSlice 1 1 [(.int .i64 0)] [(0, (.t p46))])), (oo p48 (.blt (.append 1 8) [(.t p45), (.t p47)])), (oo p5 (.mv (.t p48)))]))
def zi4 : CC := (.ops [(oo p49 (.bin .add .other (.t p15) (.c (.int .i64 1)))), (oo p15 (.mv (.t p49)))])
def zg8 : CC := (.seq (.ops [(oo p16 (.bin .lss .other (.t p15) (.t p14)))]) [p3, p4, p5, p14, p15, p16] (.seq (.cond (.t p16) .skip (.exit 0)) [p3, p4, p5, p14, p15] (.seq (.block 1 (.seq (.ops [(oo p17 (.mv (.t p15))), (oo p6 (.mv (.t p17)))]) [p3, p4, p5, p6, p14, p15] (.seq (.seq (.ops [(oo p18 (.mv (.t p5))), (oo p19 (.blt .len [(.t p18)])), (oo p20 (.mv (.c (.int .i64 0))))]) [p3, p4, p5, p6, p14, p15, p18, p19, p20] (.block 2 (.loop [p3, p4, p5, p6, p14, p15, p18, p19, p20] zg6))) [p3, p4, p5, p6, p14, p15] zg7))) [p3, p4, p5, p14, p15] zi4)))
def ziq : CC := (.seq (.ops [(oo p50 (.mv (.t p4))), (oo p2 (.mv (.t p50)))]) [p2] .ret)
def c_e : CC := (.seq (.ops [(oo p1 (.box (.t p0))), (oo p2 (.mv (.c (.slice none 0 0))))]) [p1] (.seq (.ops [(oo p11 (.loadN 3 (.t p1))), (oo p12 (.call (.c (.func (.func n_c) #[] #[])) [(.t p11)])), (oo p3 (.mv (.t p12)))]) [p1, p3] (.seq (.ops [(oo p4 (.mv (.c (.slice none 0 0)))), (oo p5 (.mv (.c (.slice none 0 0))))]) [p1, p3, p4, p5] (.seq .skip [p1, p3, p4, p5] (.seq (.seq (.ops [(oo p13 (.fieldAddr 0 (.t p1))), (oo p14 (.load1 (.t p13))), (oo p15 (.mv (.c (.int .i64 0))))]) [p3, p4, p5, p14, p15] (.block 0 (.loop [p3, p4, p5, p14, p15] zg8))) [p4] ziq)))))
def f_e : zr := ⟨51, [.tmp p2], c_e, none⟩
def c_A : CC := (.seq (.ops [(oo p2 (.box (.t p0))), (oo p3 (.box (.t p1))), (oo p4 (.mv (.c .nilFunc)))]) [p2, p3] (.seq (.ops [(oo p5 (.makeFunc (.func n_z) [] [(.t p2), (.t p3)])), (oo p4 (.mv (.t p5)))]) [p4] .ret))
def f_A : zr := ⟨6, [.tmp p4], c_A, none⟩
def c_y : CC := (.seq (.ops [(oo p4 (.mv (.c (.bool false))))]) [p0, p1] (.seq (.ops [(oo p5 (.mv (.t p0))), (oo p6 (.mv (.t p1))), (oo p7 (.call (.c (.func (.func n_j) #[] #[])) [(.t p5), (.t p6)])), (oo p8 (.bin .geq .other (.t p7) (.c (.int .i64 0)))), (oo p4 (.mv (.t p8)))]) [p4] .ret))
def f_y : zr := ⟨9, [.tmp p4], c_y, none⟩
def c_N : CC := (.seq (.ops [(oo p4 (.mv (.c (.slice none 0 0))))]) [p0, p1] (.seq (.ops [(oo p5 (.mv (.t p0))), (oo p6 (.mv (.t p1))), (oo p7 (.call (.c (.func (.func n_S) #[] #[])) [(.t p5), (.t p6)]))]) [p0] (.seq (.ops [(oo p8 (.mv (.t p0))), (oo p9 (.call (.c (.func (.func n_f) #[] #[])) [(.t p8)])), (oo p4 (.mv (.t p9)))]) [p4] .ret)))
def f_N : zr := ⟨10, [.tmp p4], c_N, none⟩
def c_C : CC := (.seq (.ops [(oo p4 (.mv (.c (.int .i64 0))))]) [p0, p1] (.seq (.ops [(oo p7 (.mv (.t p0))), (oo p8 (.call (.c (.func (.func n_F) #[] #[])) [(.t p7)])), (oo p5 (.mv (.t p8)))]) [p0, p1, p5] (.seq (.ops [(oo p9 (.mv (.t p1))), (oo p10 (.call (.c (.func (.func n_F) #[] #[])) [(.t p9)])), (oo p6 (.mv (.t p10)))]) [p0, p1, p5, p6] (.seq (.seq (.ops [(oo p11 (.mv (.t p5)))]) [p0, p1, p6, p11] (.cond (.t p11) (.seq (.seq (.ops [(oo p12 (.mv (.t p6)))]) [p12] (.cond (.t p12) (.seq (.ops [(oo p4 (.mv (.c (.int .i64 0))))]) [p4] .ret) .skip)) [] (.seq (.ops [(oo p4 (.mv (.c (.int .i64 (-1)))))]) [p4] .ret)) .skip)) [p0, p1, p6] (.seq (.seq (.ops [(oo p13 (.mv (.t p6)))]) [p0, p1, p13] (.cond (.t p13) (.seq (.ops [(oo p4 (.mv (.c (.int .i64 1))))]) [p4] .ret) .skip)) [p0, p1] (.seq (.seq (.ops [(oo p14 (.mv (.t p0))), (oo p15 (.mv (.t p1))), (oo p16 (.bin .lss .other (.t p14) (.t p15)))]) [p0, p1, p16] (.cond (.t p16) (.seq (.ops [(oo p4 (.mv (.c (.int .i64 (-1)))))]) [p4] .ret) .skip)) [p0, p1] (.seq (.seq (.ops [(oo p17 (.mv (.t p0))), (oo p18 (.mv (.t p1))), (oo p19 (.bin .gtr .other (.t p17) (.t p18)))]) [p19] (.cond (.t p19) (.seq (.ops [(oo p4 (.mv (.c (.int .i64 1))))]) [p4] .ret) .skip)) [] (.seq (.ops [(oo p4 (.mv (.c (.int .i64 0))))]) [p4] .ret))))))))
def f_C : zr := ⟨20, [.tmp p4], c_C, none⟩
def c_l_1 : CC := (.seq (.seq (.ops [(oo p13 (.mv (.t p7))), (oo p14 (.mv (.t p8))), (oo p15 (.bin .lss .other (.t p13) (.t p14)))]) [p0, p1, p6, p7, p8, p15] (.cond (.t p15) .skip (.exit 0))) [p0, p1, p6, p7, p8] (.block 1 (.seq (.ops [(oo p16 (.mv (.t p7))), (oo p17 (.mv (.t p8))), (oo p18 (.bin .add .other (.t p16) (.t p17))), (oo p19 (.conv .u64 (.t p18))), (oo p20 (.bin .shr .other (.t p19) (.c (.int .u64 1)))), (oo p21 (.conv .i64 (.t p20))), (oo p9 (.mv (.t p21)))]) [p0, p1, p6, p7, p8, p9] (.seq (.ops [(oo p22 (.mv (.t p0))), (oo p23 (.mv (.t p9))), (oo p24 (.indexAddr 1 (.t p22) (.t p23))), (oo p25 (.load1 (.t p24))), (oo p26 (.mv (.t p1))), (oo p27 (.call (.c (.func (.func n_Q) #[] #[])) [(.t p25), (.t p26)]))]) [p0, p1, p6, p7, p8, p9, p27] (.cond (.t p27) (.ops [(oo p28 (.mv (.t p9))), (oo p29 (.bin .add .other (.t p28) (.c (.int .i64 1)))), (oo p7 (.mv (.t p29)))]) (.ops [(oo p30 (.mv (.t p9))), (oo p8 (.mv (.t p30)))]))))))
def c_l_0 : CC := (.seq (.ops [(oo p31 (.mv (.t p7))), (oo p32 (.mv (.t p7))), (oo p33 (.mv (.t p6))), (oo p34 (.bin .lss .other (.t p32) (.t p33))), (oo p35 (.mv (.t p34))), (og p36 (.mv (.t p0)) p35 true), (og p37 (.mv (.t p7)) p35 true), (og p38 (.indexAddr 1 (.t p36) (.t p37)) p35 true), (og p39 (.load1 (.t p38)) p35 true), (og p40 (.mv (.t p1)) p35 true), (og p41 (.bin .eql .other (.t p39) (.t p40)) p35 true), (og p42 (.mv (.t p41)) p35 true), (og p43 (.mv (.t p0)) p42 false), (og p44 (.mv (.t p7)) p42 false), (og p45 (.indexAddr 1 (.t p43) (.t p44)) p42 false), (og p46 (.load1 (.t p45)) p42 false), (og p47 (.call (.c (.func (.func n_L) #[] #[])) [(.t p46)]) p42 false), (og p48 (.mv (.t p47)) p42 false), (og p49 (.mv (.t p1)) p48 true), (og p50 (.call (.c (.func (.func n_L) #[] #[])) [(.t p49)]) p48 true), (og p51 (.pick (.t p48) (.t p50) (.c (.bool false))) p42 false), (og p52 (.pick (.t p42) (.c (.bool true)) (.t p51)) p35 true), (oo p53 (.pick (.t p35) (.t p52) (.c (.bool false)))), (oo p4 (.mv (.t p31))), (oo p5 (.mv (.t p53)))]) [p4, p5] .ret)
def c_l : CC := (.seq (.ops [(oo p4 (.mv (.c (.int .i64 0)))), (oo p5 (.mv (.c (.bool false))))]) [p0, p1] (.seq (.ops [(oo p10 (.mv (.t p0))), (oo p11 (.blt .len [(.t p10)])), (oo p6 (.mv (.t p11)))]) [p0, p1, p6] (.seq (.ops [(oo p12 (.mv (.t p6))), (oo p7 (.mv (.c (.int .i64 0)))), (oo p8 (.mv (.t p12)))]) [p0, p1, p6, p7, p8] (.seq (.block 0 (.loop [p0, p1, p6, p7, p8] c_l_1)) [p0, p1, p6, p7] c_l_0))))
def f_l : zr := ⟨54, [.tmp p4, .tmp p5], c_l, none⟩
def c_I : CC := (.seq (.ops [(oo p4 (.mv (.c (.slice none 0 0))))]) [p0, p1] (.seq (.ops [(oo p5 (.mv (.t p0))), (oo p6 (.mv (.t p1))), (oo p7 (.call (.c (.func (.func n_O) #[] #[])) [(.t p5), (.t p6)]))]) [p0] (.seq (.ops [(oo p8 (.mv (.t p0))), (oo p9 (.call (.c (.func (.func n_b) #[] #[])) [(.t p8)])), (oo p4 (.mv (.t p9)))]) [p4] .ret)))
def f_I : zr := ⟨10, [.tmp p4], c_I, none⟩
def zim : CC := (.seq (.ops [(oo p9 (.bin .lss .other (.t p8) (.t p7)))]) [p3, p6, p7, p8, p9] (.seq (.cond (.t p9) .skip (.exit 0)) [p3, p6, p7, p8] (.seq (.block 1 (.seq (.ops [(oo p10 (.indexAddr 1 (.t p6) (.t p8))), (oo p11 (.load1 (.t p10))), (oo p5 (.mv (.t p11)))]) [p3, p5, p6, p7, p8] (.seq (.ops [(oo p12 (.mv (.t p5))), (oo p13 (.mv (.t p3))), (oo p14 (.bin .neq .other (.t p12) (.t p13)))]) [p3, p5, p6, p7, p8, p14] (.cond (.t p14) (.seq (.ops [(oo p15 (.mv (.t p5))), (oo p2 (.mv (.t p15)))]) [p2] .ret) .skip)))) [p3, p6, p7, p8] (.ops [(oo p16 (.bin .add .other (.t p8) (.c (.int .i64 1)))), (oo p8 (.mv (.t p16)))]))))
def zin : CC := (.seq (.ops [(oo p17 (.mv (.t p3))), (oo p2 (.mv (.t p17)))]) [p2] .ret)
def c_v : CC := (.seq (.ops [(oo p2 (.mv (.c (.int .i64 0))))]) [p0] (.seq (.ops [(oo p3 (.mv (.c (.int .i64 0))))]) [p0, p3] (.seq (.seq (.ops [(oo p6 (.mv (.t p0))), (oo p7 (.blt .len [(.t p6)])), (oo p8 (.mv (.c (.int .i64 0))))]) [p3, p6, p7, p8] (.block 0 (.loop [p3, p6, p7, p8] zim))) [p3] zin)))
def f_v : zr := ⟨18, [.tmp p2], c_v, none⟩
def c_i_1 : CC := (.ops [(oo p12 (.alloc [(.int .i64 0), (.int .i64 0), (.int .i64 0)])), (on (.store 3 (.t p12) (.t p16)))])
def c_i_2 : CC := (.block 1 (.seq (.ops [(oo p17 (.load1 (.t p5))), (oo p18 (.loadN 3 (.t p6))), (oo p19 (.loadN 3 (.t p12))), (oo p20 (.load1 (.t p8))), (oo p21 (.load1 (.t p9))), (oo p22 (.call (.c (.func (.func n_k) #[] #[])) [(.t p17), (.t p18), (.t p19), (.t p20), (.t p21)]))]) [p10, p11, p12, p22] (.cond (.t p22) (.seq (.ops [(oo p23 (.loadN 3 (.t p12))), (on (.store 3 (.t p10) (.t p23))), (on (.store 1 (.t p11) (.c (.bool true))))]) [] .ret) .skip)))
def zdF : RC := ⟨(n_i * 1000 + 1), [p5, p6, p8, p9, p10, p11], [p16], c_i_1, c_i_2⟩
def c_i_0 : CC := (.seq (.ops [(oo p24 (.build [(.int .i64 0), (.int .i64 0), (.int .i64 0)] [])), (on (.store 3 (.t p10) (.t p24))), (on (.store 1 (.t p11) (.c (.bool false))))]) [p10, p11] .ret)
def c_i : CC := (.seq (.ops [(oo p5 (.box (.t p0))), (oo p6 (.box (.t p1))), (oo p8 (.box (.t p3))), (oo p9 (.box (.t p4))), (oo p10 (.alloc [(.int .i64 0), (.int .i64 0), (.int .i64 0)])), (oo p11 (.alloc [(.bool false)]))]) [p2, p5, p6, p8, p9, p10, p11] (.seq (.seq (.ops [(oo p13 (.loadN 3 (.t p6))), (oo p14 (.mv (.t p2))), (oo p15 (.call (.c (.func (.func n_A) #[] #[])) [(.t p13), (.t p14)]))]) [p5, p6, p8, p9, p10, p11, p15] (.block 0 (.rangeFunc (n_i * 1000 + 1) [p5, p6, p8, p9, p10, p11] (.t p15) [p16] c_i_1 c_i_2))) [p10, p11] c_i_0))
def f_i : zr := ⟨25, [.cell (some 3) p10, .cell none p11], c_i, none⟩
def c_B : CC := (.seq (.ops [(oo p3 (.box (.t p0))), (oo p4 (.box (.t p1))), (oo p5 (.box (.t p2))), (oo p6 (.mv (.c .nilFunc)))]) [p3, p4, p5] (.seq (.ops [(oo p7 (.makeFunc (.func n_E) [] [(.t p3), (.t p4), (.t p5)])), (oo p6 (.mv (.t p7)))]) [p6] .ret))
def f_B : zr := ⟨8, [.tmp p6], c_B, none⟩
def c_m : CC := (.seq (.ops [(oo p2 (.mv (.c (.slice none 0 0))))]) [p0] (.seq (.seq (.ops [(oo p3 (.mv (.t p0))), (oo p4 (.bin .eql .slice (.t p3) (.c (.slice none 0 0))))]) [p0, p4] (.cond (.t p4) (.seq (.ops [(oo p2 (.mv (.c (.slice none 0 0))))]) [p2] .ret) .skip)) [p0] (.seq (.ops [(oo p5 (.buildSlice 0 3 [(.int .i64 0), (.int .i64 0), (.int .i64 0)] [])), (oo p6 (.mv (.t p0))), (oo p7 (.blt (.append 3 24) [(.t p5), (.t p6)])), (oo p2 (.mv (.t p7)))]) [p2] .ret)))
def f_m : zr := ⟨8, [.tmp p2], c_m, none⟩
def zil : CC := (.seq (.ops [(oo p21 (.bin .lss .other (.t p20) (.t p19)))]) [p0, p2, p18, p19, p20, p21] (.seq (.cond (.t p21) .skip (.exit 0)) [p0, p2, p18, p19, p20] (.seq (.block 1 (.seq (.ops [(oo p22 (.indexAddr 3 (.t p18) (.t p20))), (oo p23 (.loadN 3 (.t p22))), (oo p7 (.alloc [(.int .i64 0), (.int .i64 0), (.int .i64 0)])), (on (.store 3 (.t p7) (.t p23)))]) [p0, p2, p7, p18, p19, p20] (.seq (.ops [(oo p24 (.fieldAddr 0 (.t p7))), (oo p25 (.load1 (.t p24))), (oo p26 (.load1 (.t p2))), (oo p27 (.bin .neq .other (.t p25) (.t p26))), (oo p28 (.mv (.t p27))), (og p29 (.mv (.t p0)) p28 false), (og p30 (.loadN 3 (.t p7)) p28 false), (og p31 (.call (.t p29) [(.t p30)]) p28 false), (og p32 (.un .not (.t p31)) p28 false), (oo p33 (.pick (.t p28) (.c (.bool true)) (.t p32)))]) [p0, p2, p18, p19, p20, p33] (.cond (.t p33) .ret .skip)))) [p0, p2, p18, p19, p20] (.ops [(oo p34 (.bin .add .other (.t p20) (.c (.int .i64 1)))), (oo p20 (.mv (.t p34)))]))))
def c_z : CC := (.seq (.ops [(oo p9 (.fieldAddr 2 (.t p1))), (oo p10 (.load1 (.t p9))), (oo p11 (.load1 (.t p2))), (oo p12 (.call (.c (.func (.func n_a) #[] #[])) [(.t p10), (.t p11), (.c (.func (.func n_T) #[] #[]))])), (oo p8 (.mv (.t p12))), (oo p13 (.extract (.t p8) 0)), (oo p14 (.extract (.t p8) 1)), (oo p4 (.mv (.t p13))), (oo p5 (.mv (.t p14)))]) [p0, p1, p2, p4] (.seq (.ops [(oo p15 (.fieldAddr 2 (.t p1))), (oo p16 (.load1 (.t p15))), (oo p17 (.mv (.t p4))), (oo p18 (.slice 3 (.t p16) (some (.t p17)) none)), (oo p19 (.blt .len [(.t p18)])), (oo p20 (.mv (.c (.int .i64 0))))]) [p0, p2, p18, p19, p20] (.block 0 (.loop [p0, p2, p18, p19, p20] zil))))
def f_z : zr := ⟨35, [], c_z, none⟩
def zgu : CC := (.seq (.seq (.ops [(oo p15 (.mv (.t p9))), (oo p16 (.mv (.t p10))), (oo p17 (.bin .lss .other (.t p15) (.t p16)))]) [p0, p1, p2, p8, p9, p10, p17] (.cond (.t p17) .skip (.exit 0))) [p0, p1, p2, p8, p9, p10] (.block 1 (.seq (.ops [(oo p18 (.mv (.t p9))), (oo p19 (.mv (.t p10))), (oo p20 (.bin .add .other (.t p18) (.t p19))), (oo p21 (.conv .u64 (.t p20))), (oo p22 (.bin .shr .other (.t p21) (.c (.int .u64 1)))), (oo p23 (.conv .i64 (.t p22))), (oo p11 (.mv (.t p23)))]) [p0, p1, p2, p8, p9, p10, p11] (.seq (.ops [(oo p24 (.mv (.t p2))), (oo p25 (.mv (.t p0))), (oo p26 (.mv (.t p11))), (oo p27 (.indexAddr 3 (.t p25) (.t p26))), (oo p28 (.loadN 3 (.t p27))), (oo p29 (.mv (.t p1))), (oo p30 (.call (.t p24) [(.t p28), (.t p29)])), (oo p31 (.bin .lss .other (.t p30) (.c (.int .i64 0))))]) [p0, p1, p2, p8, p9, p10, p11, p31] (.cond (.t p31) (.ops [(oo p32 (.mv (.t p11))), (oo p33 (.bin .add .other (.t p32) (.c (.int .i64 1)))), (oo p9 (.mv (.t p33)))]) (.ops [(oo p34 (.mv (.t p11))), (oo p10 (.mv (.t p34)))]))))))
def zhe : CC := (.seq (.ops [(oo p35 (.mv (.t p9))), (oo p36 (.mv (.t p9))), (oo p37 (.mv (.t p8))), (oo p38 (.bin .lss .other (.t p36) (.t p37))), (oo p39 (.mv (.t p38))), (og p40 (.mv (.t p2)) p39 true), (og p41 (.mv (.t p0)) p39 true), (og p42 (.mv (.t p9)) p39 true), (og p43 (.indexAddr 3 (.t p41) (.t p42)) p39 true), (og p44 (.loadN 3 (.t p43)) p39 true), (og p45 (.mv (.t p1)) p39 true), (og p46 (.call (.t p40) [(.t p44), (.t p45)]) p39 true), (og p47 (.bin .eql .other (.t p46) (.c (.int .i64 0))) p39 true), (oo p48 (.pick (.t p39) (.t p47) (.c (.bool false)))), (oo p6 (.mv (.t p35))), (oo p7 (.mv (.t p48)))]) [p6, p7] .ret)
def c_a : CC := (.seq (.ops [(oo p6 (.mv (.c (.int .i64 0)))), (oo p7 (.mv (.c (.bool false))))]) [p0, p1, p2] (.seq (.ops [(oo p12 (.mv (.t p0))), (oo p13 (.blt .len [(.t p12)])), (oo p8 (.mv (.t p13)))]) [p0, p1, p2, p8] (.seq (.ops [(oo p14 (.mv (.t p8))), (oo p9 (.mv (.c (.int .i64 0)))), (oo p10 (.mv (.t p14)))]) [p0, p1, p2, p8, p9, p10] (.seq (.block 0 (.loop [p0, p1, p2, p8, p9, p10] zgu)) [p0, p1, p2, p8, p9] zhe))))
def f_a : zr := ⟨49, [.tmp p6, .tmp p7], c_a, none⟩
def c_T : CC := (.seq (.ops [(oo p2 (.box (.t p0))), (oo p4 (.mv (.c (.int .i64 0))))]) [p1, p2] (.seq (.ops [(oo p5 (.fieldAddr 0 (.t p2))), (oo p6 (.load1 (.t p5))), (oo p7 (.mv (.t p1))), (oo p8 (.call (.c (.func (.func n_C) #[] #[])) [(.t p6), (.t p7)])), (oo p4 (.mv (.t p8)))]) [p4] .ret))
def f_T : zr := ⟨9, [.tmp p4], c_T, none⟩
def zg3 : CC := (.seq (.ops [(oo p9 (.bin .lss .other (.t p8) (.t p7)))]) [p0, p1, p7, p8, p9] (.seq (.cond (.t p9) .skip (.exit 0)) [p0, p1, p7, p8] (.seq (.block 1 (.seq (.ops [(oo p10 (.mv (.t p8))), (oo p5 (.mv (.t p10)))]) [p0, p1, p5, p7, p8] (.seq (.ops [(oo p11 (.mv (.t p1))), (oo p12 (.mv (.t p0))), (oo p13 (.mv (.t p5))), (oo p14 (.indexAddr 1 (.t p12) (.t p13))), (oo p15 (.load1 (.t p14))), (oo p16 (.bin .eql .other (.t p11) (.t p15)))]) [p0, p1, p5, p7, p8, p16] (.cond (.t p16) (.seq (.ops [(oo p17 (.mv (.t p5))), (oo p4 (.mv (.t p17)))]) [p4] .ret) .skip)))) [p0, p1, p7, p8] (.ops [(oo p18 (.bin .add .other (.t p8) (.c (.int .i64 1)))), (oo p8 (.mv (.t p18)))]))))
def zio : CC := (.seq (.ops [(oo p4 (.mv (.c (.int .i64 (-1)))))]) [p4] .ret)
def c_j : CC := (.seq (.ops [(oo p4 (.mv (.c (.int .i64 0))))]) [p0, p1] (.seq (.seq (.ops [(oo p6 (.mv (.t p0))), (oo p7 (.blt .len [(.t p6)])), (oo p8 (.mv (.c (.int .i64 0))))]) [p0, p1, p7, p8] (.block 0 (.loop [p0, p1, p7, p8] zg3))) [] zio))
def f_j : zr := ⟨19, [.tmp p4], c_j, none⟩
def c_f_5 : CC := (.ops [(oo p33 (.mv (.t p5))), (oo p34 (.bin .add .other (.t p33) (.c (.int .i64 1)))), (oo p5 (.mv (.t p34)))])
def c_f_4 : CC := (.seq (.seq (.ops [(oo p29 (.mv (.t p5))), (oo p30 (.mv (.t p4))), (oo p31 (.blt .len [(.t p30)])), (oo p32 (.bin .lss .other (.t p29) (.t p31)))]) [p0, p3, p4, p5, p32] (.cond (.t p32) .skip (.exit 2))) [p0, p3, p4, p5] (.seq (.block 3 (.seq (.draw [(oo p35 (.mv (.t p4))), (oo p36 (.mv (.t p5))), (oo p37 (.indexAddr 1 (.t p35) (.t p36))), (oo p38 (.load1 (.t p37))), (oo p39 (.mv (.t p4))), (oo p40 (.mv (.t p5))), (oo p41 (.bin .sub .other (.t p40) (.c (.int .i64 1)))), (oo p42 (.indexAddr 1 (.t p39) (.t p41))), (oo p43 (.load1 (.t p42))), (oo p44 (.bin .neq .other (.t p38) (.t p43)))]) [p0, p3, p4, p5, p44] (.cond (.t p44) (.seq (.ops [(oo p45 (.mv (.t p0))), (oo p46 (.mv (.t p3))), (oo p47 (.mv (.t p4))), (oo p48 (.mv (.t p5))), (oo p49 (.indexAddr 1 (.t p47) (.t p48))), (oo p50 (.load1 (.t p49))), (oo p51 (.indexAddr 1 (.t p45) (.t p46))), (on (.store 1 (.t p51) (.t p50)))]) [p0, p3, p4, p5] (.ops [(oo p52 (.mv (.t p3))), (oo p53 (.bin .add .other (.t p52) (.c (.int .i64 1)))), (oo p3 (.mv (.t p53)))])) .skip))) [p0, p3, p4, p5] c_f_5))
def c_f_3 : CC := (.seq (.ops [(oo p54 (.mv (.t p0))), (oo p55 (.mv (.t p3))), (oo p56 (.slice 1 (.t p54) (some (.t p55)) none)), (on (.blt (.clear [(.int .i64 0)]) [(.t p56)]))]) [p0, p3] (.seq (.ops [(oo p57 (.mv (.t p0))), (oo p58 (.mv (.t p3))), (oo p59 (.slice 1 (.t p57) none (some (.t p58)))), (oo p2 (.mv (.t p59)))]) [p2] .ret))
def c_f_2 : CC := (.ops [(oo p14 (.mv (.t p3))), (oo p15 (.bin .add .other (.t p14) (.c (.int .i64 1)))), (oo p3 (.mv (.t p15)))])
def c_f_1 : CC := (.seq (.seq (.ops [(oo p10 (.mv (.t p3))), (oo p11 (.mv (.t p0))), (oo p12 (.blt .len [(.t p11)])), (oo p13 (.bin .lss .other (.t p10) (.t p12)))]) [p0, p3, p13] (.cond (.t p13) .skip (.exit 0))) [p0, p3] (.seq (.block 1 (.seq (.draw [(oo p16 (.mv (.t p0))), (oo p17 (.mv (.t p3))), (oo p18 (.indexAddr 1 (.t p16) (.t p17))), (oo p19 (.load1 (.t p18))), (oo p20 (.mv (.t p0))), (oo p21 (.mv (.t p3))), (oo p22 (.bin .sub .other (.t p21) (.c (.int .i64 1)))), (oo p23 (.indexAddr 1 (.t p20) (.t p22))), (oo p24 (.load1 (.t p23))), (oo p25 (.bin .eql .other (.t p19) (.t p24)))]) [p0, p3, p25] (.cond (.t p25) (.seq (.ops [(oo p26 (.mv (.t p0))), (oo p27 (.mv (.t p3))), (oo p28 (.slice 1 (.t p26) (some (.t p27)) none)), (oo p4 (.mv (.t p28)))]) [p0, p3, p4] (.seq (.seq (.ops [(oo p5 (.mv (.c (.int .i64 1))))]) [p0, p3, p4, p5] (.block 2 (.loop [p0, p3, p4, p5] c_f_4))) [p0, p3] c_f_3)) .skip))) [p0, p3] c_f_2))
def c_f_0 : CC := (.seq (.ops [(oo p60 (.mv (.t p0))), (oo p2 (.mv (.t p60)))]) [p2] .ret)
def c_f : CC := (.seq (.ops [(oo p2 (.mv (.c (.slice none 0 0))))]) [p0] (.seq (.seq (.ops [(oo p6 (.mv (.t p0))), (oo p7 (.blt .len [(.t p6)])), (oo p8 (.bin .lss .other (.t p7) (.c (.int .i64 2))))]) [p0, p8] (.cond (.t p8) (.seq (.ops [(oo p9 (.mv (.t p0))), (oo p2 (.mv (.t p9)))]) [p2] .ret) .skip)) [p0] (.seq (.seq (.ops [(oo p3 (.mv (.c (.int .i64 1))))]) [p0, p3] (.block 0 (.loop [p0, p3] c_f_1))) [p0] c_f_0)))
def f_f : zr := ⟨61, [.tmp p2], c_f, none⟩
def c_F : CC := (.seq (.ops [(oo p2 (.mv (.c (.bool false))))]) [p0] (.seq (.ops [(oo p3 (.mv (.t p0))), (oo p4 (.mv (.t p0))), (oo p5 (.bin .neq .other (.t p3) (.t p4))), (oo p2 (.mv (.t p5)))]) [p2] .ret))
def f_F : zr := ⟨6, [.tmp p2], c_F, none⟩
def c_Q : CC := (.seq (.ops [(oo p4 (.mv (.c (.bool false))))]) [p0, p1] (.seq (.ops [(oo p5 (.mv (.t p0))), (oo p6 (.call (.c (.func (.func n_F) #[] #[])) [(.t p5)])), (oo p7 (.mv (.t p6))), (og p8 (.mv (.t p1)) p7 true), (og p9 (.call (.c (.func (.func n_F) #[] #[])) [(.t p8)]) p7 true), (og p10 (.un .not (.t p9)) p7 true), (oo p11 (.pick (.t p7) (.t p10) (.c (.bool false)))), (oo p12 (.mv (.t p11))), (og p13 (.mv (.t p0)) p12 false), (og p14 (.mv (.t p1)) p12 false), (og p15 (.bin .lss .other (.t p13) (.t p14)) p12 false), (oo p16 (.pick (.t p12) (.c (.bool true)) (.t p15))), (oo p4 (.mv (.t p16)))]) [p4] .ret))
def f_Q : zr := ⟨17, [.tmp p4], c_Q, none⟩
def c_L : CC := (.seq (.ops [(oo p2 (.mv (.c (.bool false))))]) [p0] (.seq (.ops [(oo p3 (.mv (.t p0))), (oo p4 (.mv (.t p0))), (oo p5 (.bin .neq .other (.t p3) (.t p4))), (oo p2 (.mv (.t p5)))]) [p2] .ret))
def f_L : zr := ⟨6, [.tmp p2], c_L, none⟩
def c_b_5 : CC := (.ops [(oo p33 (.mv (.t p5))), (oo p34 (.bin .add .other (.t p33) (.c (.int .i64 1)))), (oo p5 (.mv (.t p34)))])
def c_b_4 : CC := (.seq (.seq (.ops [(oo p29 (.mv (.t p5))), (oo p30 (.mv (.t p4))), (oo p31 (.blt .len [(.t p30)])), (oo p32 (.bin .lss .other (.t p29) (.t p31)))]) [p0, p3, p4, p5, p32] (.cond (.t p32) .skip (.exit 2))) [p0, p3, p4, p5] (.seq (.block 3 (.seq (.draw [(oo p35 (.mv (.t p4))), (oo p36 (.mv (.t p5))), (oo p37 (.indexAddr 3 (.t p35) (.t p36))), (oo p38 (.loadN 3 (.t p37))), (oo p39 (.mv (.t p4))), (oo p40 (.mv (.t p5))), (oo p41 (.bin .sub .other (.t p40) (.c (.int .i64 1)))), (oo p42 (.indexAddr 3 (.t p39) (.t p41))), (oo p43 (.loadN 3 (.t p42))), (oo p44 (.bin .neq (.leaves [0, 1, 2]) (.t p38) (.t p43)))]) [p0, p3, p4, p5, p44] (.cond (.t p44) (.seq (.ops [(oo p45 (.mv (.t p0))), (oo p46 (.mv (.t p3))), (oo p47 (.mv (.t p4))), (oo p48 (.mv (.t p5))), (oo p49 (.indexAddr 3 (.t p47) (.t p48))), (oo p50 (.loadN 3 (.t p49))), (oo p51 (.indexAddr 3 (.t p45) (.t p46))), (on (.store 3 (.t p51) (.t p50)))]) [p0, p3, p4, p5] (.ops [(oo p52 (.mv (.t p3))), (oo p53 (.bin .add .other (.t p52) (.c (.int .i64 1)))), (oo p3 (.mv (.t p53)))])) .skip))) [p0, p3, p4, p5] c_b_5))
def c_b_3 : CC := (.seq (.ops [(oo p54 (.mv (.t p0))), (oo p55 (.mv (.t p3))), (oo p56 (.slice 3 (.t p54) (some (.t p55)) none)), (on (.blt (.clear [(.int .i64 0), (.int .i64 0), (.int .i64 0)]) [(.t p56)]))]) [p0, p3] (.seq (.ops [(oo p57 (.mv (.t p0))), (oo p58 (.mv (.t p3))), (oo p59 (.slice 3 (.t p57) none (some (.t p58)))), (oo p2 (.mv (.t p59)))]) [p2] .ret))
def c_b_2 : CC := (.ops [(oo p14 (.mv (.t p3))), (oo p15 (.bin .add .other (.t p14) (.c (.int .i64 1)))), (oo p3 (.mv (.t p15)))])
def c_b_1 : CC := (.seq (.seq (.ops [(oo p10 (.mv (.t p3))), (oo p11 (.mv (.t p0))), (oo p12 (.blt .len [(.t p11)])), (oo p13 (.bin .lss .other (.t p10) (.t p12)))]) [p0, p3, p13] (.cond (.t p13) .skip (.exit 0))) [p0, p3] (.seq (.block 1 (.seq (.draw [(oo p16 (.mv (.t p0))), (oo p17 (.mv (.t p3))), (oo p18 (.indexAddr 3 (.t p16) (.t p17))), (oo p19 (.loadN 3 (.t p18))), (oo p20 (.mv (.t p0))), (oo p21 (.mv (.t p3))), (oo p22 (.bin .sub .other (.t p21) (.c (.int .i64 1)))), (oo p23 (.indexAddr 3 (.t p20) (.t p22))), (oo p24 (.loadN 3 (.t p23))), (oo p25 (.bin .eql (.leaves [0, 1, 2]) (.t p19) (.t p24)))]) [p0, p3, p25] (.cond (.t p25) (.seq (.ops [(oo p26 (.mv (.t p0))), (oo p27 (.mv (.t p3))), (oo p28 (.slice 3 (.t p26) (some (.t p27)) none)), (oo p4 (.mv (.t p28)))]) [p0, p3, p4] (.seq (.seq (.ops [(oo p5 (.mv (.c (.int .i64 1))))]) [p0, p3, p4, p5] (.block 2 (.loop [p0, p3, p4, p5] c_b_4))) [p0, p3] c_b_3)) .skip))) [p0, p3] c_b_2))
def c_b_0 : CC := (.seq (.ops [(oo p60 (.mv (.t p0))), (oo p2 (.mv (.t p60)))]) [p2] .ret)
def c_b : CC := (.seq (.ops [(oo p2 (.mv (.c (.slice none 0 0))))]) [p0] (.seq (.seq (.ops [(oo p6 (.mv (.t p0))), (oo p7 (.blt .len [(.t p6)])), (oo p8 (.bin .lss .other (.t p7) (.c (.int .i64 2))))]) [p0, p8] (.cond (.t p8) (.seq (.ops [(oo p9 (.mv (.t p0))), (oo p2 (.mv (.t p9)))]) [p2] .ret) .skip)) [p0] (.seq (.seq (.ops [(oo p3 (.mv (.c (.int .i64 1))))]) [p0, p3] (.block 0 (.loop [p0, p3] c_b_1))) [p0] c_b_0)))
def f_b : zr := ⟨61, [.tmp p2], c_b, none⟩
def c_k_1 : CC := (.ops [(oo p11 (.mv (.t p20)))])
def c_k_2 : CC := (.block 1 (.seq (.ops [(oo p21 (.fieldAddr 1 (.t p7))), (oo p22 (.load1 (.t p21))), (oo p23 (.mv (.t p11))), (oo p24 (.build [(.int .i64 0), (.int .i64 0)] [(0, 1, (.t p22)), (1, 1, (.t p23))])), (oo p12 (.alloc [(.int .i64 0), (.int .i64 0)])), (on (.store 2 (.t p12) (.t p24)))]) [p5, p9, p10, p11, p12] (.seq (.ops [(oo p26 (.load1 (.t p5))), (oo p27 (.loadN 2 (.t p12))), (oo p28 (.lookup (.leaves [0, 1]) (.int .i64 0) true (.t p26) (.t p27))), (oo p25 (.mv (.t p28))), (oo p29 (.extract (.t p25) 0)), (oo p30 (.extract (.t p25) 1)), (oo p13 (.mv (.t p29))), (oo p14 (.mv (.t p30)))]) [p9, p10, p11, p12, p13, p14] (.seq (.ops [(oo p31 (.loadN 2 (.t p12))), (oo p32 (.mv (.t p11))), (oo p33 (.mv (.t p11))), (oo p34 (.build [(.int .i64 0), (.int .i64 0)] [(0, 1, (.t p32)), (1, 1, (.t p33))])), (oo p35 (.bin .eql (.leaves [0, 1]) (.t p31) (.t p34))), (oo p36 (.mv (.t p35))), (og p37 (.mv (.t p14)) p36 false), (og p38 (.un .not (.t p37)) p36 false), (oo p39 (.pick (.t p36) (.c (.bool true)) (.t p38))), (oo p40 (.mv (.t p39))), (og p41 (.mv (.t p13)) p40 false), (og p42 (.load1 (.t p9)) p40 false), (og p43 (.bin .gtr .other (.t p41) (.t p42)) p40 false), (oo p44 (.pick (.t p40) (.c (.bool true)) (.t p43)))]) [p10, p44] (.cond (.t p44) (.seq (.ops [(on (.store 1 (.t p10) (.c (.bool false))))]) [] .ret) .skip)))))
def zdj : RC := ⟨(n_k * 1000 + 1), [p5, p7, p9, p10], [p20], c_k_1, c_k_2⟩
def c_k_0 : CC := (.seq (.ops [(on (.store 1 (.t p10) (.c (.bool true))))]) [p10] .ret)
def c_k : CC := (.seq (.ops [(oo p5 (.box (.t p0))), (oo p6 (.box (.t p1))), (oo p7 (.box (.t p2))), (oo p9 (.box (.t p4))), (oo p10 (.alloc [(.bool false)]))]) [p3, p5, p6, p7, p9, p10] (.seq (.seq (.ops [(oo p15 (.loadN 3 (.t p6))), (oo p16 (.mv (.t p3))), (oo p17 (.fieldAddr 2 (.t p7))), (oo p18 (.load1 (.t p17))), (oo p19 (.call (.c (.func (.func n_B) #[] #[])) [(.t p15), (.t p16), (.t p18)]))]) [p5, p7, p9, p10, p19] (.block 0 (.rangeFunc (n_k * 1000 + 1) [p5, p7, p9, p10] (.t p19) [p20] c_k_1 c_k_2))) [p10] c_k_0))
def f_k : zr := ⟨45, [.cell none p10], c_k, none⟩
def c_E_0 : CC := (.ops [(oo p5 (.alloc [(.int .i64 0), (.int .i64 0), (.int .i64 0)])), (on (.store 3 (.t p5) (.t p9)))])
def c_E_1 : CC := (.block 1 (.seq (.ops [(oo p10 (.fieldAddr 2 (.t p5))), (oo p11 (.load1 (.t p10))), (oo p12 (.load1 (.t p3))), (oo p13 (.bin .eql .other (.t p11) (.t p12))), (oo p14 (.mv (.t p13))), (og p15 (.load1 (.t p4)) p14 true), (og p16 (.fieldAddr 1 (.t p5)) p14 true), (og p17 (.load1 (.t p16)) p14 true), (og p18 (.call (.t p15) [(.t p17)]) p14 true), (og p19 (.un .not (.t p18)) p14 true), (oo p20 (.pick (.t p14) (.t p19) (.c (.bool false))))]) [p20] (.cond (.t p20) .ret .skip)))
def zd9 : RC := ⟨(n_E * 1000 + 0), [p3, p4], [p9], c_E_0, c_E_1⟩
def c_E : CC := (.seq (.ops [(oo p4 (.box (.t p0)))]) [p1, p2, p3, p4] (.seq (.ops [(oo p6 (.loadN 3 (.t p1))), (oo p7 (.load1 (.t p2))), (oo p8 (.call (.c (.func (.func n_A) #[] #[])) [(.t p6), (.t p7)]))]) [p3, p4, p8] (.block 0 (.rangeFunc (n_E * 1000 + 0) [p3, p4] (.t p8) [p9] c_E_0 c_E_1))))
def f_E : zr := ⟨21, [], c_E, none⟩
def tabF : List (Nat × zr) := [(n_s, f_s), (n_n, f_n), (n_g, f_g), (n_J, f_J), (n_H, f_H), (n_h, f_h), (n_G, f_G), (n_c, f_c), (n_K, f_K), (n_w, f_w), (n_e, f_e), (n_A, f_A), (n_y, f_y), (n_N, f_N), (n_C, f_C), (n_l, f_l), (n_I, f_I), (n_v, f_v), (n_i, f_i), (n_B, f_B), (n_m, f_m), (n_z, f_z), (n_a, f_a), (n_T, f_T), (n_j, f_j), (n_f, f_f), (n_F, f_F), (n_Q, f_Q), (n_L, f_L), (n_b, f_b), (n_k, f_k), (n_E, f_E), (n_D, zhN true)]
def F : FuncId → Option zr := zbd tabF
theorem F_s : F n_s = some f_s := by kernel_rfl
theorem F_n : F n_n = some f_n := by kernel_rfl
theorem F_g : F n_g = some f_g := by kernel_rfl
theorem F_J : F n_J = some f_J := by kernel_rfl
theorem F_H : F n_H = some f_H := by kernel_rfl
theorem F_h : F n_h = some f_h := by kernel_rfl
theorem F_G : F n_G = some f_G := by kernel_rfl
theorem F_c : F n_c = some f_c := by kernel_rfl
theorem F_K : F n_K = some f_K := by kernel_rfl
theorem F_w : F n_w = some f_w := by kernel_rfl
theorem F_e : F n_e = some f_e := by kernel_rfl
theorem F_A : F n_A = some f_A := by kernel_rfl
theorem F_y : F n_y = some f_y := by kernel_rfl
theorem F_N : F n_N = some f_N := by kernel_rfl
theorem F_C : F n_C = some f_C := by kernel_rfl
theorem F_l : F n_l = some f_l := by kernel_rfl
theorem F_I : F n_I = some f_I := by kernel_rfl
theorem F_v : F n_v = some f_v := by kernel_rfl
theorem F_i : F n_i = some f_i := by kernel_rfl
theorem F_B : F n_B = some f_B := by kernel_rfl
theorem F_m : F n_m = some f_m := by kernel_rfl
theorem F_z : F n_z = some f_z := by kernel_rfl
theorem F_a : F n_a = some f_a := by kernel_rfl
theorem F_T : F n_T = some f_T := by kernel_rfl
theorem F_j : F n_j = some f_j := by kernel_rfl
theorem F_f : F n_f = some f_f := by kernel_rfl
theorem F_F : F n_F = some f_F := by kernel_rfl
theorem F_Q : F n_Q = some f_Q := by kernel_rfl
theorem F_L : F n_L = some f_L := by kernel_rfl
theorem F_b : F n_b = some f_b := by kernel_rfl
theorem F_k : F n_k = some f_k := by kernel_rfl
theorem F_E : F n_E = some f_E := by kernel_rfl
theorem F_D : F n_D = some (zhN true) := by kernel_rfl
def K_s_0 (X : Rn) : K := (fnK [.tmp p2])
def K_s_1 (X : Rn) : K := (zcV X [p8, p10] c_s_1 (kBlk 0 (kSeq X c_s_0 [] (K_s_0 X))))
def K_n_0 (X : Rn) : K := (fnK [.tmp p2])
def K_n_1 (X : Rn) : K := (zcV X [p1, p30, p31, p32] zfX (kBlk 0 (kSeq X zgs [] (K_n_0 X))))
def K_g_0 (X : Rn) : K := (fnK [.tmp p4])
def K_g_1 (X : Rn) : K := (zcV X [p2, p3, p5] zg4 (kBlk 0 (kSeq X zg5 [] (K_g_0 X))))
def zi8 (X : Rn) : K := (fnK [.cell (some 3) p2, .tmp p3])
def K_h_5 (X : Rn) : K := (zi8 X)
def K_h_7 (X : Rn) : K := (K_h_5 X)
def K_h_8 (X : Rn) : K := (zcV X [p2, p4, p8, p11, p70, p71, p72] c_h_8 (kBlk 6 (kSeq X c_h_7 [p2, p11] (K_h_7 X))))
def K_h_9 (X : Rn) : K := (K_h_8 X)
def K_h_6 (X : Rn) : K := (zcV X [p1, p2, p4, p8, p48, p49, p50] c_h_6 (kBlk 4 (kSeq X c_h_5 [p1, p2, p4, p8] (K_h_5 X))))
def K_h_1 (X : Rn) : K := (zcV X [p1, p2, p3, p4, p5, p6] c_h_1 (kBlk 0 (kSeq X zi3 [p1, p2, p4, p5] (zi8 X))))
def K_h_2 (X : Rn) : K := (K_h_1 X)
def K_h_4 (X : Rn) (l : Nat) : K := (finK l)
def K_c_0 (X : Rn) : K := (zcV X [p1, p3, p4] zhd (kBlk 0 (fnK [.tmp p2])))
def K_c_1 (X : Rn) : K := (K_c_0 X)
def ziQ (X : Rn) : K := (kBlk 1 (kSeq X c_c_1 [p1, p3, p4] (K_c_1 X)))
def K_c_8 (X : Rn) : K := (zcV X [p1, p3, p4, p70, p71, p72] zg9 (kBlk 6 (ziQ X)))
def K_c_3 (X : Rn) : K := (zcV X [p1, p3, p4, p5, p18, p19] zhc (kBlk 2 (kSeq X zgt [p1, p3, p4, p5] (ziQ X))))
def K_c_4 (X : Rn) : K := (K_c_3 X)
def K_c_5 (X : Rn) : K := (zcV X [p1, p3, p4, p5, p6, p18, p19, p22, p23] zha (kBlk 4 (kBlk 3 (kSeq X zhb [p1, p3, p4, p5, p18, p19] (K_c_4 X)))))
def K_c_6 (X : Rn) : K := (K_c_5 X)
def K_c_7 (X : Rn) : K := (kBlk 5 (kSeq X zir [p1, p3, p4, p5, p6, p18, p19, p22, p23] (K_c_6 X)))
def K_w_0 (X : Rn) : K := (fnK [.tmp p4])
def K_w_1 (X : Rn) : K := (zcV X [p2, p5, p22, p23, p24] zg1 (kBlk 0 (kSeq X zg2 [p2, p5] (K_w_0 X))))
def K_e_0 (X : Rn) : K := (fnK [.tmp p2])
def K_e_1 (X : Rn) : K := (zcV X [p3, p4, p5, p14, p15] zg8 (kBlk 0 (kSeq X ziq [p4] (K_e_0 X))))
def K_e_2 (X : Rn) : K := (K_e_1 X)
def K_e_3 (X : Rn) : K := (kBlk 1 (kSeq X zi4 [p3, p4, p5, p14, p15] (K_e_2 X)))
def K_e_4 (X : Rn) : K := (zcV X [p3, p4, p5, p6, p14, p15, p18, p19, p20] zg6 (kBlk 2 (kSeq X zg7 [p3, p4, p5, p6, p14, p15] (K_e_3 X))))
def K_l_0 (X : Rn) : K := (fnK [.tmp p4, .tmp p5])
def K_l_1 (X : Rn) : K := (zcV X [p0, p1, p6, p7, p8] c_l_1 (kBlk 0 (kSeq X c_l_0 [p0, p1, p6, p7] (K_l_0 X))))
def K_v_0 (X : Rn) : K := (fnK [.tmp p2])
def K_v_1 (X : Rn) : K := (zcV X [p3, p6, p7, p8] zim (kBlk 0 (kSeq X zin [p3] (K_v_0 X))))
def K_i_0 (X : Rn) : K := (fnK [.cell (some 3) p10, .cell none p11])
def K_i_2 (X : Rn) (l : Nat) : K := (finK l)
def K_z_0 (X : Rn) : K := (zcV X [p0, p2, p18, p19, p20] zil (kBlk 0 (fnK [])))
def K_a_0 (X : Rn) : K := (fnK [.tmp p6, .tmp p7])
def K_a_1 (X : Rn) : K := (zcV X [p0, p1, p2, p8, p9, p10] zgu (kBlk 0 (kSeq X zhe [p0, p1, p2, p8, p9] (K_a_0 X))))
def K_j_0 (X : Rn) : K := (fnK [.tmp p4])
def K_j_1 (X : Rn) : K := (zcV X [p0, p1, p7, p8] zg3 (kBlk 0 (kSeq X zio [] (K_j_0 X))))
def K_f_0 (X : Rn) : K := (fnK [.tmp p2])
def K_f_1 (X : Rn) : K := (zcV X [p0, p3] c_f_1 (kBlk 0 (kSeq X c_f_0 [p0] (K_f_0 X))))
def K_f_2 (X : Rn) : K := (K_f_1 X)
def K_f_3 (X : Rn) : K := (kBlk 1 (kSeq X c_f_2 [p0, p3] (K_f_2 X)))
def K_f_4 (X : Rn) : K := (zcV X [p0, p3, p4, p5] c_f_4 (kBlk 2 (kSeq X c_f_3 [p0, p3] (K_f_3 X))))
def K_f_5 (X : Rn) : K := (K_f_4 X)
def K_b_0 (X : Rn) : K := (fnK [.tmp p2])
def K_b_1 (X : Rn) : K := (zcV X [p0, p3] c_b_1 (kBlk 0 (kSeq X c_b_0 [p0] (K_b_0 X))))
def K_b_2 (X : Rn) : K := (K_b_1 X)
def K_b_3 (X : Rn) : K := (kBlk 1 (kSeq X c_b_2 [p0, p3] (K_b_2 X)))
def K_b_4 (X : Rn) : K := (zcV X [p0, p3, p4, p5] c_b_4 (kBlk 2 (kSeq X c_b_3 [p0, p3] (K_b_3 X))))
def K_b_5 (X : Rn) : K := (K_b_4 X)
def K_k_0 (X : Rn) : K := (fnK [.cell none p10])
def K_k_2 (X : Rn) (l : Nat) : K := (finK l)
def K_E_1 (X : Rn) (l : Nat) : K := (finK l)
end Go.Ideal.J
end
noncomputable section
namespace Go.Ideal.X
open Go Go.Ideal Go.Ideal.J
abbrev Z := List Value → H → Option Out
def zcA (L : List (List Bool)) (z : Z) (k : K) : K := ⟨fun s h => getL L s fun vs => z vs h, k.ext, k.ret⟩
abbrev n_R : Nat := 11
abbrev n_P : Nat := 17
abbrev n_o : Nat := 19
abbrev n_q : Nat := 30
abbrev n_d : Nat := 31
abbrev n_u : Nat := 35
abbrev n_x : Nat := 36
abbrev n_M : Nat := 37
abbrev n_t : Nat := 39
abbrev n_p : Nat := 40
abbrev n_r : Nat := 62
def c_R : CC := (.seq (.ops [(oo p1 (.box (.t p0))), (oo p2 (.alloc [(.int .i64 0), (.int .i64 0), (.slice none 0 0)])), (oo p3 (.mv (.c (.int .i64 0))))]) [p1, p2] (.seq (.seq (.ops [(oo p5 (.loadN 3 (.t p1))), (oo p6 (.call (.c (.func (.func n_n) #[] #[])) [(.t p5)])), (oo p7 (.bin .neq .other (.t p6) (.c (.int .i64 0))))]) [p1, p2, p7] (.cond (.t p7) (.seq (.ops [(oo p8 (.build [(.int .i64 0), (.int .i64 0), (.slice none 0 0)] [])), (on (.store 3 (.t p2) (.t p8))), (oo p3 (.mv (.c (.int .i64 2))))]) [p2, p3] .ret) .skip)) [p1, p2] (.seq (.ops [(oo p9 (.loadN 3 (.t p1))), (oo p10 (.call (.c (.func (.func n_d) #[] #[])) [(.t p9)])), (oo p4 (.alloc [(.int .i64 0), (.int .i64 0), (.slice none 0 0)])), (on (.store 3 (.t p4) (.t p10)))]) [p2, p4] (.seq (.seq (.ops [(oo p11 (.fieldAddr 2 (.t p4))), (oo p12 (.load1 (.t p11))), (oo p13 (.blt .len [(.t p12)])), (oo p14 (.bin .gtr .other (.t p13) (.c (.int .i64 400))))]) [p2, p4, p14] (.cond (.t p14) (.seq (.ops [(oo p15 (.build [(.int .i64 0), (.int .i64 0), (.slice none 0 0)] [])), (on (.store 3 (.t p2) (.t p15))), (oo p3 (.mv (.c (.int .i64 3))))]) [p2, p3] .ret) .skip)) [p2, p4] (.seq (.ops [(oo p16 (.loadN 3 (.t p4))), (on (.store 3 (.t p2) (.t p16))), (oo p3 (.mv (.c (.int .i64 0))))]) [p2, p3] .ret)))))
def f_R : zr := ⟨17, [.cell (some 3) p2, .tmp p3], c_R, none⟩
def c_D : CC := (.seq (.ops [(oo p0 (.mv (.c (.bool false))))]) [] (.seq (.ops [(oo p17 (.build [(.int .i64 0), (.int .i64 0), (.int .i64 0)] [(0, 1, (.c (.int .i64 0))), (1, 1, (.c (.int .i64 1))), (2, 1, (.c (.int .i64 1)))])), (oo p18 (.build [(.int .i64 0), (.int .i64 0), (.int .i64 0)] [(0, 1, (.c (.int .i64 1))), (1, 1, (.c (.int .i64 2))), (2, 1, (.c (.int .i64 1)))])), (oo p19 (.build [(.int .i64 0), (.int .i64 0), (.int .i64 0)] [(0, 1, (.c (.int .i64 1))), (1, 1, (.c (.int .i64 3))), (2, 1, (.c (.int .i64 2)))])), (oo p20 (.buildSlice 3 3 [(.int .i64 0), (.int .i64 0), (.int .i64 0)] [(0, (.t p17)), (1, (.t p18)), (2, (.t p19))])), (oo p21 (.call (.c (.func (.func n_u) #[] #[])) [(.t p20)])), (oo p22 (.build [(.int .i64 0), (.int .i64 0), (.slice none 0 0)] [(0, 1, (.c (.int .i64 4))), (1, 1, (.c (.int .i64 3))), (2, 1, (.t p21))])), (oo p1 (.alloc [(.int .i64 0), (.int .i64 0), (.slice none 0 0)])), (on (.store 3 (.t p1) (.t p22)))]) [p1] (.seq (.ops [(oo p23 (.build [(.int .i64 0), (.int .i64 0), (.int .i64 0)] [(0, 1, (.c (.int .i64 0))), (1, 1, (.c (.int .i64 1))), (2, 1, (.c (.int .i64 1)))])), (oo p24 (.build [(.int .i64 0), (.int .i64 0), (.int .i64 0)] [(0, 1, (.c (.int .i64 0))), (1, 1, (.c (.int .i64 2))), (2, 1, (.c (.int .i64 1)))])), (oo p25 (.build [(.int .i64 0), (.int .i64 0), (.int .i64 0)] [(0, 1, (.c (.int .i64 1))), (1, 1, (.c (.int .i64 3))), (2, 1, (.c (.int .i64 1)))])), (oo p26 (.build [(.int .i64 0), (.int .i64 0), (.int .i64 0)] [(0, 1, (.c (.int .i64 2))), (1, 1, (.c (.int .i64 4))), (2, 1, (.c (.int .i64 2)))])), (oo p27 (.buildSlice 4 3 [(.int .i64 0), (.int .i64 0), (.int .i64 0)] [(0, (.t p23)), (1, (.t p24)), (2, (.t p25)), (3, (.t p26))])), (oo p28 (.call (.c (.func (.func n_u) #[] #[])) [(.t p27)])), (oo p29 (.build [(.int .i64 0), (.int .i64 0), (.slice none 0 0)] [(0, 1, (.c (.int .i64 5))), (1, 1, (.c (.int .i64 3))), (2, 1, (.t p28))])), (oo p2 (.alloc [(.int .i64 0), (.int .i64 0), (.slice none 0 0)])), (on (.store 3 (.t p2) (.t p29)))]) [p1, p2] (.seq (.ops [(oo p31 (.loadN 3 (.t p1))), (oo p32 (.call (.c (.func (.func n_H) #[] #[])) [(.t p31)])), (oo p30 (.mv (.t p32))), (oo p33 (.extract (.t p30) 0)), (oo p34 (.extract (.t p30) 1)), (oo p3 (.mv (.t p33))), (oo p4 (.mv (.t p34)))]) [p1, p2, p3, p4] (.seq (.ops [(oo p36 (.loadN 3 (.t p2))), (oo p37 (.call (.c (.func (.func n_H) #[] #[])) [(.t p36)])), (oo p35 (.mv (.t p37))), (oo p38 (.extract (.t p35) 0)), (oo p39 (.extract (.t p35) 1)), (oo p5 (.mv (.t p38))), (oo p6 (.mv (.t p39)))]) [p1, p2, p3, p4, p5, p6] (.seq (.ops [(oo p41 (.loadN 3 (.t p1))), (oo p42 (.loadN 3 (.t p2))), (oo p43 (.call (.c (.func (.func n_J) #[] #[])) [(.t p41), (.t p42)])), (oo p40 (.mv (.t p43))), (oo p44 (.extract (.t p40) 0)), (oo p45 (.extract (.t p40) 1)), (oo p7 (.mv (.t p44))), (oo p8 (.mv (.t p45)))]) [p1, p2, p3, p4, p5, p6, p7, p8] (.seq (.ops [(oo p47 (.loadN 3 (.t p1))), (oo p48 (.loadN 3 (.t p2))), (oo p49 (.call (.c (.func (.func n_x) #[] #[])) [(.t p47), (.t p48)])), (oo p50 (.call (.c (.func (.func n_P) #[] #[])) [(.t p49), (.c (.int .i64 0)), (.c (.int .i64 4))])), (oo p46 (.mv (.t p50))), (oo p51 (.extract (.t p46) 0)), (oo p52 (.extract (.t p46) 1)), (oo p9 (.alloc [(.int .i64 0), (.int .i64 0), (.slice none 0 0)])), (on (.store 3 (.t p9) (.t p51))), (oo p10 (.mv (.t p52)))]) [p3, p4, p5, p6, p7, p8, p9, p10] (.seq (.ops [(oo p54 (.build [(.int .i64 0), (.int .i64 0), (.int .i64 0)] [(0, 1, (.c (.int .i64 0))), (1, 1, (.c (.int .i64 1))), (2, 1, (.c (.int .i64 0)))])), (oo p55 (.build [(.int .i64 0), (.int .i64 0), (.int .i64 0)] [(0, 1, (.c (.int .i64 1))), (1, 1, (.c (.int .i64 0))), (2, 1, (.c (.int .i64 1)))])), (oo p56 (.buildSlice 2 3 [(.int .i64 0), (.int .i64 0), (.int .i64 0)] [(0, (.t p54)), (1, (.t p55))])), (oo p57 (.call (.c (.func (.func n_u) #[] #[])) [(.t p56)])), (oo p58 (.build [(.int .i64 0), (.int .i64 0), (.slice none 0 0)] [(0, 1, (.c (.int .i64 2))), (1, 1, (.c (.int .i64 2))), (2, 1, (.t p57))])), (oo p59 (.call (.c (.func (.func n_R) #[] #[])) [(.t p58)])), (oo p53 (.mv (.t p59))), (oo p60 (.extract (.t p53) 0)), (oo p61 (.extract (.t p53) 1)), (oo p11 (.alloc [(.int .i64 0), (.int .i64 0), (.slice none 0 0)])), (on (.store 3 (.t p11) (.t p60))), (oo p12 (.mv (.t p61)))]) [p3, p4, p5, p6, p7, p8, p9, p10, p11, p12] (.seq (.seq (.ops [(oo p62 (.mv (.t p4))), (oo p63 (.bin .neq .other (.t p62) (.c (.int .i64 0)))), (oo p64 (.mv (.t p63))), (og p65 (.mv (.t p6)) p64 false), (og p66 (.bin .neq .other (.t p65) (.c (.int .i64 0))) p64 false), (oo p67 (.pick (.t p64) (.c (.bool true)) (.t p66))), (oo p68 (.mv (.t p67))), (og p69 (.mv (.t p8)) p68 false), (og p70 (.bin .neq .other (.t p69) (.c (.int .i64 0))) p68 false), (oo p71 (.pick (.t p68) (.c (.bool true)) (.t p70))), (oo p72 (.mv (.t p71))), (og p73 (.mv (.t p10)) p72 false), (og p74 (.bin .neq .other (.t p73) (.c (.int .i64 0))) p72 false), (oo p75 (.pick (.t p72) (.c (.bool true)) (.t p74))), (oo p76 (.mv (.t p75))), (og p77 (.mv (.t p12)) p76 false), (og p78 (.bin .neq .other (.t p77) (.c (.int .i64 0))) p76 false), (oo p79 (.pick (.t p76) (.c (.bool true)) (.t p78)))]) [p3, p5, p7, p9, p11, p79] (.cond (.t p79) (.seq (.ops [(oo p0 (.mv (.c (.bool false))))]) [p0] .ret) .skip)) [p3, p5, p7, p9, p11] (.seq (.ops [(oo p80 (.build [(.int .i64 0), (.int .i64 0), (.slice none 0 0)] [(0, 1, (.c (.int .i64 3)))])), (oo p13 (.alloc [(.int .i64 0), (.int .i64 0), (.slice none 0 0)])), (on (.store 3 (.t p13) (.t p80)))]) [p3, p5, p7, p9, p11, p13] (.seq (.ops [(oo p81 (.loadN 3 (.t p13))), (oo p82 (.buildSlice 1 3 [(.int .i64 0), (.int .i64 0), (.slice none 0 0)] [(0, (.t p81))])), (oo p83 (.build [(.int .i64 0), (.int .i64 0), (.slice none 0 0)] [(0, 1, (.c (.int .i64 4))), (1, 1, (.c (.int .i64 2))), (2, 1, (.t p82))])), (oo p84 (.loadN 3 (.t p13))), (oo p85 (.buildSlice 1 3 [(.int .i64 0), (.int .i64 0), (.slice none 0 0)] [(0, (.t p84))])), (oo p86 (.build [(.int .i64 0), (.int .i64 0), (.slice none 0 0)] [(0, 1, (.c (.int .i64 4))), (1, 1, (.c (.int .i64 1))), (2, 1, (.t p85))])), (oo p87 (.buildSlice 2 3 [(.int .i64 0), (.int .i64 0), (.slice none 0 0)] [(0, (.t p83)), (1, (.t p86))])), (oo p14 (.mv (.t p87)))]) [p3, p5, p7, p9, p11, p14] (.seq (.ops [(oo p88 (.mv (.t p14))), (oo p89 (.build [(.int .i64 0), (.int .i64 0), (.slice none 0 0)] [(0, 1, (.c (.int .i64 3))), (2, 1, (.t p88))])), (oo p90 (.buildSlice 1 3 [(.int .i64 0), (.int .i64 0), (.slice none 0 0)] [(0, (.t p89))])), (oo p91 (.build [(.int .i64 0), (.int .i64 0), (.slice none 0 0)] [(0, 1, (.c (.int .i64 4))), (1, 1, (.c (.int .i64 1))), (2, 1, (.t p90))])), (oo p15 (.alloc [(.int .i64 0), (.int .i64 0), (.slice none 0 0)])), (on (.store 3 (.t p15) (.t p91)))]) [p3, p5, p7, p9, p11, p15] (.seq (.ops [(oo p92 (.build [(.int .i64 0), (.int .i64 0), (.int .i64 0)] [(0, 1, (.c (.int .i64 0))), (1, 1, (.c (.int .i64 0))), (2, 1, (.c (.int .i64 0)))])), (oo p93 (.build [(.int .i64 0), (.int .i64 0), (.int .i64 0)] [(0, 1, (.c (.int .i64 0))), (1, 1, (.c (.int .i64 1))), (2, 1, (.c (.int .i64 0)))])), (oo p94 (.build [(.int .i64 0), (.int .i64 0), (.int .i64 0)] [(0, 1, (.c (.int .i64 0))), (1, 1, (.c (.int .i64 0))), (2, 1, (.c (.int .i64 1)))])), (oo p95 (.build [(.int .i64 0), (.int .i64 0), (.int .i64 0)] [(0, 1, (.c (.int .i64 0))), (1, 1, (.c (.int .i64 1))), (2, 1, (.c (.int .i64 1)))])), (oo p96 (.build [(.int .i64 0), (.int .i64 0), (.int .i64 0)] [(0, 1, (.c (.int .i64 1))), (1, 1, (.c (.int .i64 1))), (2, 1, (.c (.int .i64 0)))])), (oo p97 (.build [(.int .i64 0), (.int .i64 0), (.int .i64 0)] [(0, 1, (.c (.int .i64 1))), (1, 1, (.c (.int .i64 0))), (2, 1, (.c (.int .i64 1)))])), (oo p98 (.build [(.int .i64 0), (.int .i64 0), (.int .i64 0)] [(0, 1, (.c (.int .i64 1))), (1, 1, (.c (.int .i64 1))), (2, 1, (.c (.int .i64 1)))])), (oo p99 (.buildSlice 7 3 [(.int .i64 0), (.int .i64 0), (.int .i64 0)] [(0, (.t p92)), (1, (.t p93)), (2, (.t p94)), (3, (.t p95)), (4, (.t p96)), (5, (.t p97)), (6, (.t p98))])), (oo p100 (.call (.c (.func (.func n_u) #[] #[])) [(.t p99)])), (oo p16 (.mv (.t p100)))]) [p3, p5, p7, p9, p11, p15, p16] (.seq (.ops [(oo p101 (.mv (.t p3))), (oo p102 (.buildSlice 4 1 [(.int .i64 0)] [(0, (.c (.int .i64 0))), (1, (.c (.int .i64 1))), (2, (.c (.int .i64 2))), (3, (.c (.int .i64 2)))])), (oo p103 (.call (.c (.func (.func n_q) #[] #[])) [(.t p101), (.t p102)])), (oo p104 (.mv (.t p103))), (og p105 (.mv (.t p5)) p104 true), (og p106 (.buildSlice 5 1 [(.int .i64 0)] [(0, (.c (.int .i64 0))), (1, (.c (.int .i64 1))), (2, (.c (.int .i64 2))), (3, (.c (.int .i64 3))), (4, (.c (.int .i64 3)))]) p104 true), (og p107 (.call (.c (.func (.func n_q) #[] #[])) [(.t p105), (.t p106)]) p104 true), (oo p108 (.pick (.t p104) (.t p107) (.c (.bool false)))), (oo p109 (.mv (.t p108))), (og p110 (.mv (.t p7)) p109 true), (og p111 (.un .not (.t p110)) p109 true), (oo p112 (.pick (.t p109) (.t p111) (.c (.bool false)))), (oo p113 (.mv (.t p112))), (og p114 (.loadN 3 (.t p9)) p113 true), (og p115 (.loadN 3 (.t p15)) p113 true), (og p116 (.call (.c (.func (.func n_o) #[] #[])) [(.t p114), (.t p115)]) p113 true), (oo p117 (.pick (.t p113) (.t p116) (.c (.bool false)))), (oo p118 (.mv (.t p117))), (og p119 (.loadN 3 (.t p11)) p118 true), (og p120 (.mv (.t p16)) p118 true), (og p121 (.build [(.int .i64 0), (.int .i64 0), (.slice none 0 0)] [(0, 1, (.c (.int .i64 2))), (1, 1, (.c (.int .i64 2))), (2, 1, (.t p120))]) p118 true), (og p122 (.call (.c (.func (.func n_g) #[] #[])) [(.t p119), (.t p121)]) p118 true), (oo p123 (.pick (.t p118) (.t p122) (.c (.bool false)))), (oo p0 (.mv (.t p123)))]) [p0] .ret))))))))))))))
def f_D : zr := ⟨124, [.tmp p0], c_D, none⟩
def c_P : CC := (.seq (.ops [(oo p3 (.box (.t p0))), (oo p6 (.alloc [(.int .i64 0), (.int .i64 0), (.slice none 0 0)])), (oo p7 (.mv (.c (.int .i64 0))))]) [p1, p2, p3, p6] (.seq (.seq (.ops [(oo p11 (.loadN 3 (.t p3))), (oo p12 (.mv (.t p1))), (oo p13 (.call (.c (.func (.func n_M) #[] #[])) [(.t p11), (.t p12)])), (oo p14 (.un .not (.t p13))), (oo p15 (.mv (.t p14))), (og p16 (.loadN 3 (.t p3)) p15 false), (og p17 (.mv (.t p2)) p15 false), (og p18 (.call (.c (.func (.func n_M) #[] #[])) [(.t p16), (.t p17)]) p15 false), (og p19 (.un .not (.t p18)) p15 false), (oo p20 (.pick (.t p15) (.c (.bool true)) (.t p19)))]) [p1, p2, p3, p6, p20] (.cond (.t p20) (.seq (.ops [(oo p21 (.build [(.int .i64 0), (.int .i64 0), (.slice none 0 0)] [])), (on (.store 3 (.t p6) (.t p21))), (oo p7 (.mv (.c (.int .i64 2))))]) [p6, p7] .ret) .skip)) [p1, p2, p3, p6] (.seq (.draw [(oo p22 (.loadN 3 (.t p3))), (oo p23 (.call (.c (.func (.func n_c) #[] #[])) [(.t p22)])), (oo p24 (.loadN 3 (.t p3))), (oo p25 (.makeMap)), ⟨(some p26), .build [(.map none), (.int .i64 0), (.int .i64 0), (.slice none 0 0), (.map none)] [(0, 1, (.t p23)), (1, 3, (.t p24)), (4, 1, (.t p25))], none, 1⟩, (oo p8 (.alloc [(.map none), (.int .i64 0), (.int .i64 0), (.slice none 0 0), (.map none)])), ⟨none, .store 5 (.t p8) (.t p26), none, 1⟩]) [p1, p2, p6, p8] (.seq (.seq (.ops [(oo p28 (.fieldAddr 0 (.t p8))), (oo p29 (.load1 (.t p28))), (oo p30 (.mv (.t p1))), (oo p31 (.mv (.t p2))), (oo p32 (.build [(.int .i64 0), (.int .i64 0)] [(0, 1, (.t p30)), (1, 1, (.t p31))])), (oo p33 (.lookup (.leaves [0, 1]) (.int .i64 0) true (.t p29) (.t p32))), (oo p27 (.mv (.t p33))), (oo p34 (.extract (.t p27) 0)), (oo p35 (.extract (.t p27) 1)), (oo p9 (.mv (.t p34))), (oo p10 (.mv (.t p35)))]) [p1, p2, p6, p8, p10] (.seq (.ops [(oo p36 (.mv (.t p10))), (oo p37 (.un .not (.t p36)))]) [p1, p2, p6, p8, p37] (.cond (.t p37) (.seq (.ops [(oo p38 (.build [(.int .i64 0), (.int .i64 0), (.slice none 0 0)] [])), (on (.store 3 (.t p6) (.t p38))), (oo p7 (.mv (.c (.int .i64 5))))]) [p6, p7] .ret) .skip))) [p1, p2, p6, p8] (.seq (.seq (.ops [(oo p39 (.loadN 5 (.t p8))), (oo p40 (.mv (.t p1))), (oo p41 (.mv (.t p2))), (oo p42 (.call (.c (.func (.func n_t) #[] #[])) [(.t p39), (.t p40), (.t p41)])), (oo p43 (.bin .gtr .other (.t p42) (.c (.int .i64 3000))))]) [p1, p2, p6, p8, p43] (.cond (.t p43) (.seq (.ops [(oo p44 (.build [(.int .i64 0), (.int .i64 0), (.slice none 0 0)] [])), (on (.store 3 (.t p6) (.t p44))), (oo p7 (.mv (.c (.int .i64 3))))]) [p6, p7] .ret) .skip)) [p1, p2, p6, p8] (.seq (.ops [(oo p45 (.loadN 5 (.t p8))), (oo p46 (.mv (.t p1))), (oo p47 (.mv (.t p2))), (oo p48 (.call (.c (.func (.func n_p) #[] #[])) [(.t p45), (.t p46), (.t p47)])), (on (.store 3 (.t p6) (.t p48))), (oo p7 (.mv (.c (.int .i64 0))))]) [p6, p7] .ret))))))
def f_P : zr := ⟨49, [.cell (some 3) p6, .tmp p7], c_P, none⟩
def c_o_1 : CC := (.seq (.seq (.ops [(oo p27 (.mv (.t p5))), (oo p28 (.fieldAddr 2 (.t p2))), (oo p29 (.load1 (.t p28))), (oo p30 (.blt .len [(.t p29)])), (oo p31 (.bin .lss .other (.t p27) (.t p30)))]) [p2, p3, p5, p31] (.cond (.t p31) .skip (.exit 0))) [p2, p3, p5] (.seq (.block 1 (.seq (.draw [(oo p34 (.fieldAddr 2 (.t p2))), (oo p35 (.load1 (.t p34))), (oo p36 (.mv (.t p5))), (oo p37 (.indexAddr 3 (.t p35) (.t p36))), (oo p38 (.loadN 3 (.t p37))), (oo p39 (.fieldAddr 2 (.t p3))), (oo p40 (.load1 (.t p39))), (oo p41 (.mv (.t p5))), (oo p42 (.indexAddr 3 (.t p40) (.t p41))), (oo p43 (.loadN 3 (.t p42))), (oo p44 (.call (.c (.func (.func n_o) #[] #[])) [(.t p38), (.t p43)])), ⟨(some p45), .un .not (.t p44), none, 1⟩]) [p2, p3, p5, p45] (.cond (.t p45) (.seq (.ops [(oo p4 (.mv (.c (.bool false))))]) [p4] .ret) .skip))) [p2, p3, p5] (.ops [(oo p32 (.mv (.t p5))), (oo p33 (.bin .add .other (.t p32) (.c (.int .i64 1)))), (oo p5 (.mv (.t p33)))])))
def c_o_0 : CC := (.seq (.ops [(oo p4 (.mv (.c (.bool true))))]) [p4] .ret)
def c_o : CC := (.seq (.ops [(oo p2 (.box (.t p0))), (oo p3 (.box (.t p1))), (oo p4 (.mv (.c (.bool false))))]) [p2, p3] (.seq (.seq (.ops [(oo p6 (.fieldAddr 0 (.t p2))), (oo p7 (.load1 (.t p6))), (oo p8 (.fieldAddr 0 (.t p3))), (oo p9 (.load1 (.t p8))), (oo p10 (.bin .neq .other (.t p7) (.t p9))), (oo p11 (.mv (.t p10))), (og p12 (.fieldAddr 1 (.t p2)) p11 false), (og p13 (.load1 (.t p12)) p11 false), (og p14 (.fieldAddr 1 (.t p3)) p11 false), (og p15 (.load1 (.t p14)) p11 false), (og p16 (.bin .neq .other (.t p13) (.t p15)) p11 false), (oo p17 (.pick (.t p11) (.c (.bool true)) (.t p16))), (oo p18 (.mv (.t p17))), (og p19 (.fieldAddr 2 (.t p2)) p18 false), (og p20 (.load1 (.t p19)) p18 false), (og p21 (.blt .len [(.t p20)]) p18 false), (og p22 (.fieldAddr 2 (.t p3)) p18 false), (og p23 (.load1 (.t p22)) p18 false), (og p24 (.blt .len [(.t p23)]) p18 false), (og p25 (.bin .neq .other (.t p21) (.t p24)) p18 false), (oo p26 (.pick (.t p18) (.c (.bool true)) (.t p25)))]) [p2, p3, p26] (.cond (.t p26) (.seq (.ops [(oo p4 (.mv (.c (.bool false))))]) [p4] .ret) .skip)) [p2, p3] (.seq (.seq (.ops [(oo p5 (.mv (.c (.int .i64 0))))]) [p2, p3, p5] (.block 0 (.loop [p2, p3, p5] c_o_1))) [] c_o_0)))
def f_o : zr := ⟨46, [.tmp p4], c_o, none⟩
def c_q_1 : CC := (.seq (.seq (.ops [(oo p11 (.mv (.t p5))), (oo p12 (.mv (.t p0))), (oo p13 (.blt .len [(.t p12)])), (oo p14 (.bin .lss .other (.t p11) (.t p13)))]) [p0, p1, p5, p14] (.cond (.t p14) .skip (.exit 0))) [p0, p1, p5] (.seq (.block 1 (.seq (.draw [(oo p17 (.mv (.t p0))), (oo p18 (.mv (.t p5))), (oo p19 (.indexAddr 1 (.t p17) (.t p18))), (oo p20 (.load1 (.t p19))), (oo p21 (.mv (.t p1))), (oo p22 (.mv (.t p5))), (oo p23 (.indexAddr 1 (.t p21) (.t p22))), (oo p24 (.load1 (.t p23))), (oo p25 (.bin .neq .other (.t p20) (.t p24)))]) [p0, p1, p5, p25] (.cond (.t p25) (.seq (.ops [(oo p4 (.mv (.c (.bool false))))]) [p4] .ret) .skip))) [p0, p1, p5] (.ops [(oo p15 (.mv (.t p5))), (oo p16 (.bin .add .other (.t p15) (.c (.int .i64 1)))), (oo p5 (.mv (.t p16)))])))
def c_q_0 : CC := (.seq (.ops [(oo p4 (.mv (.c (.bool true))))]) [p4] .ret)
def c_q : CC := (.seq (.ops [(oo p4 (.mv (.c (.bool false))))]) [p0, p1] (.seq (.seq (.ops [(oo p6 (.mv (.t p0))), (oo p7 (.blt .len [(.t p6)])), (oo p8 (.mv (.t p1))), (oo p9 (.blt .len [(.t p8)])), (oo p10 (.bin .neq .other (.t p7) (.t p9)))]) [p0, p1, p10] (.cond (.t p10) (.seq (.ops [(oo p4 (.mv (.c (.bool false))))]) [p4] .ret) .skip)) [p0, p1] (.seq (.seq (.ops [(oo p5 (.mv (.c (.int .i64 0))))]) [p0, p1, p5] (.block 0 (.loop [p0, p1, p5] c_q_1))) [] c_q_0)))
def f_q : zr := ⟨26, [.tmp p4], c_q, none⟩
def c_d_1 : CC := (.seq (.ops [(oo p29 (.bin .lss .other (.t p28) (.t p27)))]) [p1, p2, p3, p4, p27, p28, p29] (.seq (.cond (.t p29) .skip (.exit 0)) [p1, p2, p3, p4, p27, p28] (.seq (.block 1 (.seq (.ops [(oo p30 (.mv (.t p28))), (oo p5 (.mv (.t p30)))]) [p1, p2, p3, p4, p5, p27, p28] (.draw [(oo p33 (.loadN 3 (.t p1))), (oo p34 (.mv (.t p5))), (oo p35 (.call (.c (.func (.func n_r) #[] #[])) [(.t p33), (.t p34)])), (oo p31 (.load1 (.t p4))), (oo p32 (.mv (.t p5))), ⟨(some p36), .indexAddr 1 (.t p31) (.t p32), none, 1⟩, ⟨none, .store 1 (.t p36) (.t p35), none, 1⟩]))) [p1, p2, p3, p4, p27, p28] (.ops [(oo p37 (.bin .add .other (.t p28) (.c (.int .i64 1)))), (oo p28 (.mv (.t p37)))]))))
def c_d_6 : CC := (.seq (.ops [(oo p49 (.bin .lss .other (.t p48) (.t p47)))]) [p1, p2, p3, p4, p6, p7, p39, p40, p47, p48, p49] (.seq (.cond (.t p49) .skip (.exit 4)) [p1, p2, p3, p4, p6, p7, p39, p40, p47, p48] (.seq (.block 5 (.seq (.ops [(oo p50 (.mv (.t p48))), (oo p8 (.mv (.t p50)))]) [p1, p2, p3, p4, p6, p7, p8, p39, p40, p47, p48] (.draw [(oo p51 (.load1 (.t p7))), (oo p52 (.mv (.t p8))), (oo p53 (.fieldAddr 0 (.t p1))), (oo p54 (.load1 (.t p53))), (oo p55 (.makeSlice 1 1 [(.bool false)] (.t p54) (.t p54))), (oo p56 (.indexAddr 1 (.t p51) (.t p52))), (on (.store 1 (.t p56) (.t p55)))]))) [p1, p2, p3, p4, p6, p7, p39, p40, p47, p48] (.ops [(oo p57 (.bin .add .other (.t p48) (.c (.int .i64 1)))), (oo p48 (.mv (.t p57)))]))))
def c_d_12 : CC := (.seq (.ops [(oo p83 (.bin .lss .other (.t p82) (.t p81)))]) [p7, p11, p80, p81, p82, p83] (.seq (.cond (.t p83) .skip (.exit 10)) [p7, p11, p80, p81, p82] (.seq (.block 11 (.seq (.ops [(oo p84 (.indexAddr 1 (.t p80) (.t p82))), (oo p85 (.load1 (.t p84))), (oo p13 (.mv (.t p85)))]) [p7, p11, p13, p80, p81, p82] (.ops [(oo p86 (.load1 (.t p7))), (oo p87 (.fieldAddr 2 (.t p11))), (oo p88 (.load1 (.t p87))), (oo p89 (.indexAddr 1 (.t p86) (.t p88))), (oo p90 (.load1 (.t p89))), (oo p91 (.mv (.t p13))), (oo p92 (.indexAddr 1 (.t p90) (.t p91))), (on (.store 1 (.t p92) (.c (.bool true))))]))) [p7, p11, p80, p81, p82] (.ops [(oo p93 (.bin .add .other (.t p82) (.c (.int .i64 1)))), (oo p82 (.mv (.t p93)))]))))
def c_d_10 : CC := (.ops [(oo p11 (.alloc [(.int .i64 0), (.int .i64 0), (.int .i64 0)])), (on (.store 3 (.t p11) (.t p75)))])
def c_d_11 : CC := (.block 9 (.seq (.ops [(oo p76 (.load1 (.t p4))), (oo p77 (.fieldAddr 1 (.t p11))), (oo p78 (.load1 (.t p77))), (oo p79 (.indexAddr 1 (.t p76) (.t p78))), (oo p80 (.load1 (.t p79))), (oo p81 (.blt .len [(.t p80)])), (oo p82 (.mv (.c (.int .i64 0))))]) [p7, p11, p80, p81, p82] (.block 10 (.loop [p7, p11, p80, p81, p82] c_d_12))))
def r_d_10 : RC := ⟨(n_d * 1000 + 10), [p4, p7], [p75], c_d_10, c_d_11⟩
def c_d_9 : CC := (.ops [(oo p94 (.bin .add .other (.t p63) (.c (.int .i64 1)))), (oo p63 (.mv (.t p94)))])
def c_d_8 : CC := (.seq (.ops [(oo p64 (.bin .lss .other (.t p63) (.t p62)))]) [p1, p2, p3, p4, p6, p7, p39, p40, p61, p62, p63, p64] (.seq (.cond (.t p64) .skip (.exit 6)) [p1, p2, p3, p4, p6, p7, p39, p40, p61, p62, p63] (.seq (.block 7 (.seq (.ops [(oo p65 (.indexAddr 1 (.t p61) (.t p63))), (oo p66 (.load1 (.t p65))), (oo p10 (.mv (.t p66)))]) [p1, p2, p3, p4, p6, p7, p10, p39, p40, p61, p62, p63] (.seq (.ops [(oo p67 (.load1 (.t p7))), (oo p68 (.indexAddr 1 (.t p67) (.c (.int .i64 0)))), (oo p69 (.load1 (.t p68))), (oo p70 (.mv (.t p10))), (oo p71 (.indexAddr 1 (.t p69) (.t p70))), (on (.store 1 (.t p71) (.c (.bool true))))]) [p1, p2, p3, p4, p6, p7, p10, p39, p40, p61, p62, p63] (.seq (.ops [(oo p72 (.loadN 3 (.t p1))), (oo p73 (.mv (.t p10))), (oo p74 (.call (.c (.func (.func n_A) #[] #[])) [(.t p72), (.t p73)]))]) [p1, p2, p3, p4, p6, p7, p39, p40, p61, p62, p63, p74] (.block 8 (.rangeFunc (n_d * 1000 + 10) [p4, p7] (.t p74) [p75] c_d_10 c_d_11)))))) [p1, p2, p3, p4, p6, p7, p39, p40, p61, p62, p63] c_d_9)))
def c_d_16 : CC := (.ops [(oo p119 (.bin .add .other (.t p104) (.c (.int .i64 1)))), (oo p104 (.mv (.t p119)))])
def c_d_15 : CC := (.seq (.ops [(oo p105 (.bin .lss .other (.t p104) (.t p103)))]) [p1, p2, p3, p4, p6, p14, p39, p40, p95, p96, p97, p102, p103, p104, p105] (.seq (.cond (.t p105) .skip (.exit 14)) [p1, p2, p3, p4, p6, p14, p39, p40, p95, p96, p97, p102, p103, p104] (.seq (.block 15 (.seq (.ops [(oo p106 (.mv (.t p104))), (oo p107 (.indexAddr 1 (.t p102) (.t p104))), (oo p108 (.load1 (.t p107))), (oo p16 (.mv (.t p106))), (oo p17 (.mv (.t p108)))]) [p1, p2, p3, p4, p6, p14, p16, p17, p39, p40, p95, p96, p97, p102, p103, p104] (.seq (.ops [(oo p109 (.mv (.t p17)))]) [p1, p2, p3, p4, p6, p14, p16, p39, p40, p95, p96, p97, p102, p103, p104, p109] (.cond (.t p109) (.ops [(oo p110 (.fieldAddr 2 (.t p3))), (oo p111 (.load1 (.t p110))), (oo p112 (.mv (.t p6))), (oo p113 (.mv (.t p16))), (oo p114 (.mv (.t p14))), (oo p115 (.build [(.int .i64 0), (.int .i64 0), (.int .i64 0)] [(0, 1, (.t p112)), (1, 1, (.t p113)), (2, 1, (.t p114))])), (oo p116 (.buildSlice 1 3 [(.int .i64 0), (.int .i64 0), (.int .i64 0)] [(0, (.t p115))])), (oo p117 (.blt (.append 3 24) [(.t p111), (.t p116)])), (oo p118 (.fieldAddr 2 (.t p3))), (on (.store 1 (.t p118) (.t p117)))]) .skip)))) [p1, p2, p3, p4, p6, p14, p39, p40, p95, p96, p97, p102, p103, p104] c_d_16)))
def c_d_14 : CC := (.ops [(oo p120 (.bin .add .other (.t p97) (.c (.int .i64 1)))), (oo p97 (.mv (.t p120)))])
def c_d_13 : CC := (.seq (.ops [(oo p98 (.bin .lss .other (.t p97) (.t p96)))]) [p1, p2, p3, p4, p6, p39, p40, p95, p96, p97, p98] (.seq (.cond (.t p98) .skip (.exit 12)) [p1, p2, p3, p4, p6, p39, p40, p95, p96, p97] (.seq (.block 13 (.seq (.ops [(oo p99 (.mv (.t p97))), (oo p100 (.indexAddr 1 (.t p95) (.t p97))), (oo p101 (.load1 (.t p100))), (oo p14 (.mv (.t p99))), (oo p15 (.mv (.t p101)))]) [p1, p2, p3, p4, p6, p14, p15, p39, p40, p95, p96, p97] (.seq (.ops [(oo p102 (.mv (.t p15))), (oo p103 (.blt .len [(.t p102)])), (oo p104 (.mv (.c (.int .i64 0))))]) [p1, p2, p3, p4, p6, p14, p39, p40, p95, p96, p97, p102, p103, p104] (.block 14 (.loop [p1, p2, p3, p4, p6, p14, p39, p40, p95, p96, p97, p102, p103, p104] c_d_15))))) [p1, p2, p3, p4, p6, p39, p40, p95, p96, p97] c_d_14)))
def c_d_7 : CC := (.seq (.ops [(oo p95 (.load1 (.t p7))), (oo p96 (.blt .len [(.t p95)])), (oo p97 (.mv (.c (.int .i64 0))))]) [p1, p2, p3, p4, p6, p39, p40, p95, p96, p97] (.block 12 (.loop [p1, p2, p3, p4, p6, p39, p40, p95, p96, p97] c_d_13)))
def c_d_5 : CC := (.seq (.seq (.ops [(oo p58 (.load1 (.t p4))), (oo p59 (.mv (.t p6))), (oo p60 (.indexAddr 1 (.t p58) (.t p59))), (oo p61 (.load1 (.t p60))), (oo p62 (.blt .len [(.t p61)])), (oo p63 (.mv (.c (.int .i64 0))))]) [p1, p2, p3, p4, p6, p7, p39, p40, p61, p62, p63] (.block 6 (.loop [p1, p2, p3, p4, p6, p7, p39, p40, p61, p62, p63] c_d_8))) [p1, p2, p3, p4, p6, p7, p39, p40] c_d_7)
def c_d_4 : CC := (.ops [(oo p121 (.bin .add .other (.t p40) (.c (.int .i64 1)))), (oo p40 (.mv (.t p121)))])
def c_d_3 : CC := (.seq (.ops [(oo p41 (.bin .lss .other (.t p40) (.t p39)))]) [p1, p2, p3, p4, p39, p40, p41] (.seq (.cond (.t p41) .skip (.exit 2)) [p1, p2, p3, p4, p39, p40] (.seq (.block 3 (.seq (.ops [(oo p42 (.mv (.t p40))), (oo p6 (.mv (.t p42)))]) [p1, p2, p3, p4, p6, p39, p40] (.seq (.ops [(oo p43 (.fieldAddr 1 (.t p1))), (oo p44 (.load1 (.t p43))), (oo p45 (.makeSlice 1 24 [(.slice none 0 0)] (.t p44) (.t p44))), (oo p7 (.alloc [(.slice none 0 0)])), (on (.store 1 (.t p7) (.t p45)))]) [p1, p2, p3, p4, p6, p7, p39, p40] (.seq (.seq (.ops [(oo p46 (.load1 (.t p7))), (oo p47 (.blt .len [(.t p46)])), (oo p48 (.mv (.c (.int .i64 0))))]) [p1, p2, p3, p4, p6, p7, p39, p40, p47, p48] (.block 4 (.loop [p1, p2, p3, p4, p6, p7, p39, p40, p47, p48] c_d_6))) [p1, p2, p3, p4, p6, p7, p39, p40] c_d_5)))) [p1, p2, p3, p4, p39, p40] c_d_4)))
def c_d_2 : CC := (.seq (.ops [(oo p122 (.loadN 3 (.t p3))), (on (.store 3 (.t p2) (.t p122)))]) [p2] .ret)
def c_d_0 : CC := (.seq (.seq (.ops [(oo p38 (.fieldAddr 0 (.t p1))), (oo p39 (.load1 (.t p38))), (oo p40 (.mv (.c (.int .i64 0))))]) [p1, p2, p3, p4, p39, p40] (.block 2 (.loop [p1, p2, p3, p4, p39, p40] c_d_3))) [p2, p3] c_d_2)
def c_d : CC := (.seq (.ops [(oo p1 (.box (.t p0))), (oo p2 (.alloc [(.int .i64 0), (.int .i64 0), (.slice none 0 0)]))]) [p1, p2] (.seq (.ops [(oo p18 (.fieldAddr 0 (.t p1))), (oo p19 (.load1 (.t p18))), (oo p20 (.fieldAddr 1 (.t p1))), (oo p21 (.load1 (.t p20))), (oo p22 (.build [(.int .i64 0), (.int .i64 0), (.slice none 0 0)] [(0, 1, (.t p19)), (1, 1, (.t p21))])), (oo p3 (.alloc [(.int .i64 0), (.int .i64 0), (.slice none 0 0)])), (on (.store 3 (.t p3) (.t p22)))]) [p1, p2, p3] (.seq (.ops [(oo p23 (.fieldAddr 0 (.t p1))), (oo p24 (.load1 (.t p23))), (oo p25 (.makeSlice 1 24 [(.slice none 0 0)] (.t p24) (.t p24))), (oo p4 (.alloc [(.slice none 0 0)])), (on (.store 1 (.t p4) (.t p25)))]) [p1, p2, p3, p4] (.seq (.seq (.ops [(oo p26 (.fieldAddr 0 (.t p1))), (oo p27 (.load1 (.t p26))), (oo p28 (.mv (.c (.int .i64 0))))]) [p1, p2, p3, p4, p27, p28] (.block 0 (.loop [p1, p2, p3, p4, p27, p28] c_d_1))) [p1, p2, p3, p4] c_d_0))))
def f_d : zr := ⟨123, [.cell (some 3) p2], c_d, none⟩
def c_u_1 : CC := (.seq (.seq (.ops [(oo p5 (.mv (.t p4))), (oo p6 (.mv (.t p0))), (oo p7 (.blt .len [(.t p6)])), (oo p8 (.bin .lss .other (.t p5) (.t p7)))]) [p0, p3, p4, p8] (.cond (.t p8) .skip (.exit 0))) [p0, p3, p4] (.seq (.block 1 (.draw [(oo p11 (.mv (.t p3))), (oo p12 (.mv (.t p0))), (oo p13 (.mv (.t p4))), (oo p14 (.indexAddr 3 (.t p12) (.t p13))), (oo p15 (.indexArr 3 1 (.t p14) (.c (.int .i64 0)))), (oo p16 (.load1 (.t p15))), (oo p17 (.mv (.t p0))), (oo p18 (.mv (.t p4))), (oo p19 (.indexAddr 3 (.t p17) (.t p18))), (oo p20 (.indexArr 3 1 (.t p19) (.c (.int .i64 1)))), (oo p21 (.load1 (.t p20))), (oo p22 (.mv (.t p0))), (oo p23 (.mv (.t p4))), (oo p24 (.indexAddr 3 (.t p22) (.t p23))), (oo p25 (.indexArr 3 1 (.t p24) (.c (.int .i64 2)))), (oo p26 (.load1 (.t p25))), (oo p27 (.build [(.int .i64 0), (.int .i64 0), (.int .i64 0)] [(0, 1, (.t p16)), (1, 1, (.t p21)), (2, 1, (.t p26))])), (oo p28 (.buildSlice 1 3 [(.int .i64 0), (.int .i64 0), (.int .i64 0)] [(0, (.t p27))])), (oo p29 (.blt (.append 3 24) [(.t p11), (.t p28)])), ⟨(some p3), .mv (.t p29), none, 1⟩])) [p0, p3, p4] (.ops [(oo p9 (.mv (.t p4))), (oo p10 (.bin .add .other (.t p9) (.c (.int .i64 1)))), (oo p4 (.mv (.t p10)))])))
def c_u_0 : CC := (.seq (.ops [(oo p30 (.mv (.t p3))), (oo p2 (.mv (.t p30)))]) [p2] .ret)
def c_u : CC := (.seq (.ops [(oo p2 (.mv (.c (.slice none 0 0))))]) [p0] (.seq (.ops [(oo p3 (.mv (.c (.slice none 0 0))))]) [p0, p3] (.seq (.seq (.ops [(oo p4 (.mv (.c (.int .i64 0))))]) [p0, p3, p4] (.block 0 (.loop [p0, p3, p4] c_u_1))) [p3] c_u_0)))
def f_u : zr := ⟨31, [.tmp p2], c_u, none⟩
def c_x_1 : CC := (.seq (.seq (.ops [(oo p20 (.mv (.t p6))), (oo p21 (.fieldAddr 2 (.t p3))), (oo p22 (.load1 (.t p21))), (oo p23 (.blt .len [(.t p22)])), (oo p24 (.bin .lss .other (.t p20) (.t p23)))]) [p2, p3, p4, p5, p6, p24] (.cond (.t p24) .skip (.exit 0))) [p2, p3, p4, p5, p6] (.seq (.block 1 (.seq (.ops [(oo p27 (.fieldAddr 2 (.t p3))), (oo p28 (.load1 (.t p27))), (oo p29 (.mv (.t p6))), (oo p30 (.indexAddr 3 (.t p28) (.t p29))), (oo p31 (.loadN 3 (.t p30))), (oo p7 (.alloc [(.int .i64 0), (.int .i64 0), (.int .i64 0)])), (on (.store 3 (.t p7) (.t p31)))]) [p2, p3, p4, p5, p6, p7] (.ops [(oo p32 (.fieldAddr 2 (.t p5))), (oo p33 (.load1 (.t p32))), (oo p34 (.fieldAddr 0 (.t p7))), (oo p35 (.load1 (.t p34))), (oo p36 (.fieldAddr 0 (.t p2))), (oo p37 (.load1 (.t p36))), (oo p38 (.bin .add .other (.t p35) (.t p37))), (oo p39 (.fieldAddr 1 (.t p7))), (oo p40 (.load1 (.t p39))), (oo p41 (.fieldAddr 0 (.t p2))), (oo p42 (.load1 (.t p41))), (oo p43 (.bin .add .other (.t p40) (.t p42))), (oo p44 (.fieldAddr 2 (.t p7))), (oo p45 (.load1 (.t p44))), (oo p46 (.build [(.int .i64 0), (.int .i64 0), (.int .i64 0)] [(0, 1, (.t p38)), (1, 1, (.t p43)), (2, 1, (.t p45))])), (oo p47 (.buildSlice 1 3 [(.int .i64 0), (.int .i64 0), (.int .i64 0)] [(0, (.t p46))])), (oo p48 (.blt (.append 3 24) [(.t p33), (.t p47)])), (oo p49 (.fieldAddr 2 (.t p5))), (on (.store 1 (.t p49) (.t p48)))]))) [p2, p3, p4, p5, p6] (.ops [(oo p25 (.mv (.t p6))), (oo p26 (.bin .add .other (.t p25) (.c (.int .i64 1)))), (oo p6 (.mv (.t p26)))])))
def c_x_0 : CC := (.seq (.ops [(oo p50 (.loadN 3 (.t p5))), (on (.store 3 (.t p4) (.t p50)))]) [p4] .ret)
def c_x : CC := (.seq (.ops [(oo p2 (.box (.t p0))), (oo p3 (.box (.t p1))), (oo p4 (.alloc [(.int .i64 0), (.int .i64 0), (.slice none 0 0)]))]) [p2, p3, p4] (.seq (.draw [(oo p15 (.buildSlice 0 3 [(.int .i64 0), (.int .i64 0), (.int .i64 0)] [])), (oo p16 (.fieldAddr 2 (.t p2))), (oo p17 (.load1 (.t p16))), (oo p18 (.blt (.append 3 24) [(.t p15), (.t p17)])), (oo p8 (.fieldAddr 0 (.t p2))), (oo p9 (.load1 (.t p8))), (oo p10 (.fieldAddr 0 (.t p3))), (oo p11 (.load1 (.t p10))), (oo p12 (.bin .add .other (.t p9) (.t p11))), (oo p13 (.fieldAddr 1 (.t p2))), (oo p14 (.load1 (.t p13))), ⟨(some p19), .build [(.int .i64 0), (.int .i64 0), (.slice none 0 0)] [(0, 1, (.t p12)), (1, 1, (.t p14)), (2, 1, (.t p18))], none, 1⟩, (oo p5 (.alloc [(.int .i64 0), (.int .i64 0), (.slice none 0 0)])), ⟨none, .store 3 (.t p5) (.t p19), none, 1⟩]) [p2, p3, p4, p5] (.seq (.seq (.ops [(oo p6 (.mv (.c (.int .i64 0))))]) [p2, p3, p4, p5, p6] (.block 0 (.loop [p2, p3, p4, p5, p6] c_x_1))) [p4, p5] c_x_0)))
def f_x : zr := ⟨51, [.cell (some 3) p4], c_x, none⟩
def c_M : CC := (.seq (.ops [(oo p2 (.box (.t p0))), (oo p4 (.mv (.c (.bool false))))]) [p1, p2] (.seq (.ops [(oo p5 (.loadN 3 (.t p2))), (oo p6 (.call (.c (.func (.func n_n) #[] #[])) [(.t p5)])), (oo p7 (.bin .eql .other (.t p6) (.c (.int .i64 0)))), (oo p8 (.mv (.t p7))), (og p9 (.mv (.t p1)) p8 true), (og p10 (.bin .geq .other (.t p9) (.c (.int .i64 0))) p8 true), (oo p11 (.pick (.t p8) (.t p10) (.c (.bool false)))), (oo p12 (.mv (.t p11))), (og p13 (.mv (.t p1)) p12 true), (og p14 (.fieldAddr 0 (.t p2)) p12 true), (og p15 (.load1 (.t p14)) p12 true), (og p16 (.bin .lss .other (.t p13) (.t p15)) p12 true), (oo p17 (.pick (.t p12) (.t p16) (.c (.bool false)))), (oo p4 (.mv (.t p17)))]) [p4] .ret))
def f_M : zr := ⟨18, [.tmp p4], c_M, none⟩
def c_t_1 : CC := (.ops [(oo p13 (.mv (.t p48)))])
def c_t_2 : CC := (.block 1 (.draw [(oo p50 (.loadN 5 (.t p3))), (oo p51 (.fieldAddr 1 (.t p11))), (oo p52 (.load1 (.t p51))), (oo p53 (.mv (.t p13))), (oo p54 (.call (.c (.func (.func n_t) #[] #[])) [(.t p50), (.t p52), (.t p53)])), (oo p49 (.load1 (.t p10))), ⟨(some p55), .bin .add .other (.t p49) (.t p54), none, 1⟩, ⟨(some p56), .blt .min [(.t p55), (.c (.int .i64 3001))], none, 1⟩, ⟨none, .store 1 (.t p10) (.t p56), none, 1⟩]))
def r_t_1 : RC := ⟨(n_t * 1000 + 1), [p3, p10, p11], [p48], c_t_1, c_t_2⟩
def c_t_0 : CC := (.seq (.ops [(oo p63 (.fieldAddr 4 (.t p3))), (oo p64 (.load1 (.t p63))), (oo p65 (.loadN 2 (.t p7))), (oo p66 (.load1 (.t p10))), (on (.mapUpdate (.leaves [0, 1]) (.t p64) (.t p65) (.t p66)))]) [p10] (.seq (.ops [(oo p67 (.load1 (.t p10))), (oo p6 (.mv (.t p67)))]) [p6] .ret))
def c_t : CC := (.seq (.ops [(oo p3 (.box (.t p0))), (oo p6 (.mv (.c (.int .i64 0))))]) [p1, p2, p3, p6] (.seq (.ops [(oo p14 (.mv (.t p1))), (oo p15 (.mv (.t p2))), (oo p16 (.build [(.int .i64 0), (.int .i64 0)] [(0, 1, (.t p14)), (1, 1, (.t p15))])), (oo p7 (.alloc [(.int .i64 0), (.int .i64 0)])), (on (.store 2 (.t p7) (.t p16)))]) [p1, p2, p3, p6, p7] (.seq (.seq (.ops [(oo p18 (.fieldAddr 4 (.t p3))), (oo p19 (.load1 (.t p18))), (oo p20 (.loadN 2 (.t p7))), (oo p21 (.lookup (.leaves [0, 1]) (.int .i64 0) true (.t p19) (.t p20))), (oo p17 (.mv (.t p21))), (oo p22 (.extract (.t p17) 0)), (oo p23 (.extract (.t p17) 1)), (oo p8 (.mv (.t p22))), (oo p9 (.mv (.t p23)))]) [p1, p2, p3, p6, p7, p8, p9] (.seq (.ops [(oo p24 (.mv (.t p9)))]) [p1, p2, p3, p6, p7, p8, p24] (.cond (.t p24) (.seq (.ops [(oo p25 (.mv (.t p8))), (oo p6 (.mv (.t p25)))]) [p6] .ret) .skip))) [p1, p2, p3, p6, p7] (.seq (.ops [(oo p10 (.alloc [(.int .i64 0)])), (on (.store 1 (.t p10) (.c (.int .i64 1))))]) [p1, p2, p3, p6, p7, p10] (.seq (.seq (.draw [(oo p27 (.fieldAddr 0 (.t p3))), (oo p28 (.load1 (.t p27))), (oo p29 (.fieldAddr 1 (.t p3))), (oo p30 (.loadN 3 (.t p29))), (oo p31 (.mv (.t p1))), (oo p32 (.mv (.t p2))), (oo p33 (.fieldAddr 0 (.t p3))), (oo p34 (.load1 (.t p33))), (oo p35 (.loadN 2 (.t p7))), (oo p36 (.lookup (.leaves [0, 1]) (.int .i64 0) false (.t p34) (.t p35))), (oo p37 (.bin .sub .other (.t p36) (.c (.int .i64 1)))), (oo p38 (.call (.c (.func (.func n_i) #[] #[])) [(.t p28), (.t p30), (.t p31), (.t p32), (.t p37)])), ⟨(some p26), .mv (.t p38), none, 1⟩, ⟨(some p39), .extract (.t p26) 0, none, 1⟩, (oo p11 (.alloc [(.int .i64 0), (.int .i64 0), (.int .i64 0)])), ⟨none, .store 3 (.t p11) (.t p39), none, 1⟩, ⟨(some p40), .extract (.t p26) 1, none, 1⟩, ⟨(some p12), .mv (.t p40), none, 2⟩]) [p1, p2, p3, p6, p7, p10, p11, p12] (.seq (.ops [(oo p41 (.mv (.t p12)))]) [p1, p2, p3, p6, p7, p10, p11, p41] (.cond (.t p41) (.seq (.ops [(on (.store 1 (.t p10) (.c (.int .i64 2))))]) [p2, p3, p6, p7, p10, p11] (.seq (.ops [(oo p42 (.fieldAddr 1 (.t p3))), (oo p43 (.loadN 3 (.t p42))), (oo p44 (.mv (.t p2))), (oo p45 (.fieldAddr 2 (.t p11))), (oo p46 (.load1 (.t p45))), (oo p47 (.call (.c (.func (.func n_B) #[] #[])) [(.t p43), (.t p44), (.t p46)]))]) [p3, p6, p7, p10, p11, p47] (.block 0 (.rangeFunc (n_t * 1000 + 1) [p3, p10, p11] (.t p47) [p48] c_t_1 c_t_2)))) (.ops [(oo p57 (.loadN 5 (.t p3))), (oo p58 (.mv (.t p2))), (oo p59 (.mv (.t p1))), (oo p60 (.call (.c (.func (.func n_t) #[] #[])) [(.t p57), (.t p58), (.t p59)])), (oo p61 (.bin .add .other (.c (.int .i64 1)) (.t p60))), (oo p62 (.blt .min [(.t p61), (.c (.int .i64 3001))])), (on (.store 1 (.t p10) (.t p62)))])))) [p3, p7, p10] c_t_0)))))
def f_t : zr := ⟨68, [.tmp p6], c_t, none⟩
def c_p_1 : CC := (.ops [(oo p10 (.mv (.t p43)))])
def c_p_2 : CC := (.block 1 (.draw2 [(oo p46 (.loadN 5 (.t p3))), (oo p47 (.fieldAddr 1 (.t p7))), (oo p48 (.load1 (.t p47))), (oo p49 (.mv (.t p10))), (oo p50 (.call (.c (.func (.func n_p) #[] #[])) [(.t p46), (.t p48), (.t p49)])), (oo p44 (.fieldAddr 2 (.t p9))), (oo p45 (.load1 (.t p44))), (oo p51 (.blt .len [(.t p45)])), ⟨(some p52), .buildSlice 1 3 [(.int .i64 0), (.int .i64 0), (.slice none 0 0)] [(0, (.c (.agg ⟨[(.int .i64 0), (.int .i64 0), (.slice none 0 0)]⟩)))], none, 0⟩, ⟨(some p53), .blt (.append 3 40) [(.t p45), (.t p52)], none, 1⟩, ⟨(some p54), .indexAddr 3 (.t p53) (.t p51), none, 2⟩, ⟨(some p55), .fieldAddr 2 (.t p9), none, 2⟩] (on (.store 3 (.t p54) (.t p50))) (on (.store 1 (.t p55) (.t p53)))))
def r_p_1 : RC := ⟨(n_p * 1000 + 1), [p3, p7, p9], [p43], c_p_1, c_p_2⟩
def c_p_0 : CC := (.seq (.ops [(oo p56 (.fieldAddr 2 (.t p7))), (oo p57 (.load1 (.t p56))), (oo p58 (.loadN 3 (.t p9))), (oo p59 (.buildSlice 1 3 [(.int .i64 0), (.int .i64 0), (.slice none 0 0)] [(0, (.t p58))])), (oo p60 (.build [(.int .i64 0), (.int .i64 0), (.slice none 0 0)] [(0, 1, (.c (.int .i64 4))), (1, 1, (.t p57)), (2, 1, (.t p59))])), (on (.store 3 (.t p6) (.t p60)))]) [p6] .ret)
def c_p : CC := (.seq (.ops [(oo p3 (.box (.t p0))), (oo p6 (.alloc [(.int .i64 0), (.int .i64 0), (.slice none 0 0)]))]) [p1, p2, p3, p6] (.seq (.draw [(oo p12 (.fieldAddr 0 (.t p3))), (oo p13 (.load1 (.t p12))), (oo p14 (.fieldAddr 1 (.t p3))), (oo p15 (.loadN 3 (.t p14))), (oo p16 (.mv (.t p1))), (oo p17 (.mv (.t p2))), (oo p18 (.fieldAddr 0 (.t p3))), (oo p19 (.load1 (.t p18))), (oo p20 (.mv (.t p1))), (oo p21 (.mv (.t p2))), (oo p22 (.build [(.int .i64 0), (.int .i64 0)] [(0, 1, (.t p20)), (1, 1, (.t p21))])), (oo p23 (.lookup (.leaves [0, 1]) (.int .i64 0) false (.t p19) (.t p22))), (oo p24 (.bin .sub .other (.t p23) (.c (.int .i64 1)))), (oo p25 (.call (.c (.func (.func n_i) #[] #[])) [(.t p13), (.t p15), (.t p16), (.t p17), (.t p24)])), ⟨(some p11), .mv (.t p25), none, 1⟩, ⟨(some p26), .extract (.t p11) 0, none, 1⟩, (oo p7 (.alloc [(.int .i64 0), (.int .i64 0), (.int .i64 0)])), ⟨none, .store 3 (.t p7) (.t p26), none, 1⟩, ⟨(some p27), .extract (.t p11) 1, none, 1⟩, ⟨(some p8), .mv (.t p27), none, 2⟩]) [p1, p2, p3, p6, p7, p8] (.seq (.seq (.ops [(oo p28 (.mv (.t p8))), (oo p29 (.un .not (.t p28)))]) [p1, p2, p3, p6, p7, p29] (.cond (.t p29) (.seq (.ops [(oo p30 (.loadN 5 (.t p3))), (oo p31 (.mv (.t p2))), (oo p32 (.mv (.t p1))), (oo p33 (.call (.c (.func (.func n_p) #[] #[])) [(.t p30), (.t p31), (.t p32)])), (oo p34 (.buildSlice 1 3 [(.int .i64 0), (.int .i64 0), (.slice none 0 0)] [(0, (.t p33))])), (oo p35 (.build [(.int .i64 0), (.int .i64 0), (.slice none 0 0)] [(0, 1, (.c (.int .i64 2))), (2, 1, (.t p34))])), (on (.store 3 (.t p6) (.t p35)))]) [p6] .ret) .skip)) [p2, p3, p6, p7] (.seq (.ops [(oo p36 (.build [(.int .i64 0), (.int .i64 0), (.slice none 0 0)] [(0, 1, (.c (.int .i64 3)))])), (oo p9 (.alloc [(.int .i64 0), (.int .i64 0), (.slice none 0 0)])), (on (.store 3 (.t p9) (.t p36)))]) [p2, p3, p6, p7, p9] (.seq (.seq (.ops [(oo p37 (.fieldAddr 1 (.t p3))), (oo p38 (.loadN 3 (.t p37))), (oo p39 (.mv (.t p2))), (oo p40 (.fieldAddr 2 (.t p7))), (oo p41 (.load1 (.t p40))), (oo p42 (.call (.c (.func (.func n_B) #[] #[])) [(.t p38), (.t p39), (.t p41)]))]) [p3, p6, p7, p9, p42] (.block 0 (.rangeFunc (n_p * 1000 + 1) [p3, p7, p9] (.t p42) [p43] c_p_1 c_p_2))) [p6, p7, p9] c_p_0)))))
def f_p : zr := ⟨61, [.cell (some 3) p6], c_p, none⟩
def c_r_3 : CC := (.ops [(oo p7 (.mv (.t p22)))])
def c_r_4 : CC := (.block 3 (.seq (.ops [(oo p23 (.load1 (.t p5))), (oo p24 (.mv (.t p7))), (oo p25 (.call (.c (.func (.func n_y) #[] #[])) [(.t p23), (.t p24)])), (oo p26 (.un .not (.t p25)))]) [p5, p7, p26] (.cond (.t p26) (.ops [(oo p27 (.load1 (.t p5))), (oo p28 (.mv (.t p7))), (oo p29 (.buildSlice 1 1 [(.int .i64 0)] [(0, (.t p28))])), (oo p30 (.blt (.append 1 8) [(.t p27), (.t p29)])), (on (.store 1 (.t p5) (.t p30)))]) .skip)))
def r_r_3 : RC := ⟨(n_r * 1000 + 3), [p5], [p22], c_r_3, c_r_4⟩
def c_r_2 : CC := (.ops [(oo p14 (.mv (.t p6))), (oo p15 (.bin .add .other (.t p14) (.c (.int .i64 1)))), (oo p6 (.mv (.t p15)))])
def c_r_1 : CC := (.seq (.seq (.ops [(oo p10 (.mv (.t p6))), (oo p11 (.load1 (.t p5))), (oo p12 (.blt .len [(.t p11)])), (oo p13 (.bin .lss .other (.t p10) (.t p12)))]) [p2, p4, p5, p6, p13] (.cond (.t p13) .skip (.exit 0))) [p2, p4, p5, p6] (.seq (.block 1 (.seq (.draw [(oo p16 (.loadN 3 (.t p2))), (oo p17 (.load1 (.t p5))), (oo p18 (.mv (.t p6))), (oo p19 (.indexAddr 1 (.t p17) (.t p18))), (oo p20 (.load1 (.t p19))), (oo p21 (.call (.c (.func (.func n_B) #[] #[])) [(.t p16), (.t p20), (.c (.int .i64 0))]))]) [p2, p4, p5, p6, p21] (.block 2 (.rangeFunc (n_r * 1000 + 3) [p5] (.t p21) [p22] c_r_3 c_r_4)))) [p2, p4, p5, p6] c_r_2))
def c_r_0 : CC := (.seq (.ops [(oo p31 (.load1 (.t p5))), (oo p4 (.mv (.t p31)))]) [p4] .ret)
def c_r : CC := (.seq (.ops [(oo p2 (.box (.t p0))), (oo p4 (.mv (.c (.slice none 0 0))))]) [p1, p2, p4] (.seq (.ops [(oo p8 (.mv (.t p1))), (oo p9 (.buildSlice 1 1 [(.int .i64 0)] [(0, (.t p8))])), (oo p5 (.alloc [(.slice none 0 0)])), (on (.store 1 (.t p5) (.t p9)))]) [p2, p4, p5] (.seq (.seq (.ops [(oo p6 (.mv (.c (.int .i64 0))))]) [p2, p4, p5, p6] (.block 0 (.loop [p2, p4, p5, p6] c_r_1))) [p5] c_r_0)))
def f_r : zr := ⟨32, [.tmp p4], c_r, none⟩
def tabF : List (Nat × zr) := [(n_R, f_R), (n_n, f_n), (n_g, f_g), (n_D, f_D), (n_P, f_P), (n_o, f_o), (n_J, f_J), (n_H, f_H), (n_q, f_q), (n_d, f_d), (n_G, f_G), (n_u, f_u), (n_x, f_x), (n_M, f_M), (n_c, f_c), (n_t, f_t), (n_p, f_p), (n_K, f_K), (n_w, f_w), (n_e, f_e), (n_A, f_A), (n_y, f_y), (n_C, f_C), (n_r, f_r), (n_v, f_v), (n_i, f_i), (n_B, f_B), (n_m, f_m), (n_z, f_z), (n_a, f_a), (n_T, f_T), (n_j, f_j), (n_F, f_F), (n_k, f_k), (n_E, f_E)]
def F : FuncId → Option zr := zbd tabF
def KZ_n_0 (X : Rn) : K := (fnK [.tmp p2])
def KZ_n_1 (X : Rn) (z_1 : Z) : K := (zcA [p1, p30, p31, p32] z_1 (kBlk 0 (kSeq X zgs [] (KZ_n_0 X))))
def KZ_g_0 (X : Rn) : K := (fnK [.tmp p4])
def KZ_g_1 (X : Rn) (z_1 : Z) : K := (zcA [p2, p3, p5] z_1 (kBlk 0 (kSeq X zg5 [] (KZ_g_0 X))))
def KZ_o_0 (X : Rn) : K := (fnK [.tmp p4])
def KZ_o_1 (X : Rn) (z_1 : Z) : K := (zcA [p2, p3, p5] z_1 (kBlk 0 (kSeq X c_o_0 [] (KZ_o_0 X))))
def KZ_q_0 (X : Rn) : K := (fnK [.tmp p4])
def KZ_q_1 (X : Rn) (z_1 : Z) : K := (zcA [p0, p1, p5] z_1 (kBlk 0 (kSeq X c_q_0 [] (KZ_q_0 X))))
def zjJ (X : Rn) : K := (fnK [.cell (some 3) p2])
def KZ_d_2 (X : Rn) : K := (zjJ X)
def KZ_d_3 (X : Rn) (z_3 : Z) : K := (zcA [p1, p2, p3, p4, p39, p40] z_3 (kBlk 2 (kSeq X c_d_2 [p2, p3] (KZ_d_2 X))))
def KZ_d_4 (X : Rn) (z_3 : Z) : K := (KZ_d_3 X z_3)
def zjI (X : Rn) (z_3 : Z) : K := (kBlk 3 (kSeq X c_d_4 [p1, p2, p3, p4, p39, p40] (KZ_d_4 X z_3)))
def ziR (X : Rn) (z_3 : Z) : K := (zjI X z_3)
def KZ_d_13 (X : Rn) (z_3 z_13 : Z) : K := (zcA [p1, p2, p3, p4, p6, p39, p40, p95, p96, p97] z_13 (kBlk 12 (ziR X z_3)))
def KZ_d_14 (X : Rn) (z_3 z_13 : Z) : K := (KZ_d_13 X z_3 z_13)
def KZ_d_15 (X : Rn) (z_3 z_13 z_15 : Z) : K := (zcA [p1, p2, p3, p4, p6, p14, p39, p40, p95, p96, p97, p102, p103, p104] z_15 (kBlk 14 (kBlk 13 (kSeq X c_d_14 [p1, p2, p3, p4, p6, p39, p40, p95, p96, p97] (KZ_d_14 X z_3 z_13)))))
def KZ_d_16 (X : Rn) (z_3 z_13 z_15 : Z) : K := (KZ_d_15 X z_3 z_13 z_15)
def KZ_d_8 (X : Rn) (z_3 z_8 : Z) : K := (zcA [p1, p2, p3, p4, p6, p7, p39, p40, p61, p62, p63] z_8 (kBlk 6 (kSeq X c_d_7 [p1, p2, p3, p4, p6, p7, p39, p40] (ziR X z_3))))
def KZ_d_9 (X : Rn) (z_3 z_8 : Z) : K := (KZ_d_8 X z_3 z_8)
def ziS (X : Rn) (l : Nat) : K := (finK l)
def KZ_d_12 (X : Rn) (l : Nat) (z_12 : Z) : K := (zcA [p7, p11, p80, p81, p82] z_12 (kBlk 10 (kBlk 9 (ziS X l))))
def KZ_d_6 (X : Rn) (z_3 z_6 : Z) : K := (zcA [p1, p2, p3, p4, p6, p7, p39, p40, p47, p48] z_6 (kBlk 4 (kSeq X c_d_5 [p1, p2, p3, p4, p6, p7, p39, p40] (zjI X z_3))))
def KZ_d_1 (X : Rn) (z_1 : Z) : K := (zcA [p1, p2, p3, p4, p27, p28] z_1 (kBlk 0 (kSeq X c_d_0 [p1, p2, p3, p4] (zjJ X))))
def KZ_u_0 (X : Rn) : K := (fnK [.tmp p2])
def KZ_u_1 (X : Rn) (z_1 : Z) : K := (zcA [p0, p3, p4] z_1 (kBlk 0 (kSeq X c_u_0 [p3] (KZ_u_0 X))))
def KZ_x_0 (X : Rn) : K := (fnK [.cell (some 3) p4])
def KZ_x_1 (X : Rn) (z_1 : Z) : K := (zcA [p2, p3, p4, p5, p6] z_1 (kBlk 0 (kSeq X c_x_0 [p4, p5] (KZ_x_0 X))))
def KZ_c_0 (X : Rn) (z_0 : Z) : K := (zcA [p1, p3, p4] z_0 (kBlk 0 (fnK [.tmp p2])))
def KZ_c_1 (X : Rn) (z_0 : Z) : K := (KZ_c_0 X z_0)
def ziT (X : Rn) (z_0 : Z) : K := (kBlk 1 (kSeq X c_c_1 [p1, p3, p4] (KZ_c_1 X z_0)))
def KZ_c_8 (X : Rn) (z_0 z_8 : Z) : K := (zcA [p1, p3, p4, p70, p71, p72] z_8 (kBlk 6 (ziT X z_0)))
def KZ_c_3 (X : Rn) (z_0 z_3 : Z) : K := (zcA [p1, p3, p4, p5, p18, p19] z_3 (kBlk 2 (kSeq X zgt [p1, p3, p4, p5] (ziT X z_0))))
def KZ_c_4 (X : Rn) (z_0 z_3 : Z) : K := (KZ_c_3 X z_0 z_3)
def KZ_c_5 (X : Rn) (z_0 z_3 z_5 : Z) : K := (zcA [p1, p3, p4, p5, p6, p18, p19, p22, p23] z_5 (kBlk 4 (kBlk 3 (kSeq X zhb [p1, p3, p4, p5, p18, p19] (KZ_c_4 X z_0 z_3)))))
def KZ_c_6 (X : Rn) (z_0 z_3 z_5 : Z) : K := (KZ_c_5 X z_0 z_3 z_5)
def KZ_c_7 (X : Rn) (z_0 z_3 z_5 : Z) : K := (kBlk 5 (kSeq X zir [p1, p3, p4, p5, p6, p18, p19, p22, p23] (KZ_c_6 X z_0 z_3 z_5)))
def KZ_t_0 (X : Rn) : K := (fnK [.tmp p6])
def KZ_t_2 (X : Rn) (l : Nat) : K := (finK l)
def KZ_p_0 (X : Rn) : K := (fnK [.cell (some 3) p6])
def KZ_p_2 (X : Rn) (l : Nat) : K := (finK l)
def KZ_w_0 (X : Rn) : K := (fnK [.tmp p4])
def KZ_w_1 (X : Rn) (z_1 : Z) : K := (zcA [p2, p5, p22, p23, p24] z_1 (kBlk 0 (kSeq X zg2 [p2, p5] (KZ_w_0 X))))
def KZ_e_0 (X : Rn) : K := (fnK [.tmp p2])
def KZ_e_1 (X : Rn) (z_1 : Z) : K := (zcA [p3, p4, p5, p14, p15] z_1 (kBlk 0 (kSeq X ziq [p4] (KZ_e_0 X))))
def KZ_e_2 (X : Rn) (z_1 : Z) : K := (KZ_e_1 X z_1)
def KZ_e_3 (X : Rn) (z_1 : Z) : K := (kBlk 1 (kSeq X zi4 [p3, p4, p5, p14, p15] (KZ_e_2 X z_1)))
def KZ_e_4 (X : Rn) (z_1 z_4 : Z) : K := (zcA [p3, p4, p5, p6, p14, p15, p18, p19, p20] z_4 (kBlk 2 (kSeq X zg7 [p3, p4, p5, p6, p14, p15] (KZ_e_3 X z_1))))
def KZ_r_0 (X : Rn) : K := (fnK [.tmp p4])
def KZ_r_1 (X : Rn) (z_1 : Z) : K := (zcA [p2, p4, p5, p6] z_1 (kBlk 0 (kSeq X c_r_0 [p5] (KZ_r_0 X))))
def KZ_r_2 (X : Rn) (z_1 : Z) : K := (KZ_r_1 X z_1)
def KZ_r_4 (X : Rn) (l : Nat) : K := (finK l)
def KZ_v_0 (X : Rn) : K := (fnK [.tmp p2])
def KZ_v_1 (X : Rn) (z_1 : Z) : K := (zcA [p3, p6, p7, p8] z_1 (kBlk 0 (kSeq X zin [p3] (KZ_v_0 X))))
def KZ_i_0 (X : Rn) : K := (fnK [.cell (some 3) p10, .cell none p11])
def KZ_i_2 (X : Rn) (l : Nat) : K := (finK l)
def KZ_z_0 (X : Rn) (z_0 : Z) : K := (zcA [p0, p2, p18, p19, p20] z_0 (kBlk 0 (fnK [])))
def KZ_a_0 (X : Rn) : K := (fnK [.tmp p6, .tmp p7])
def KZ_a_1 (X : Rn) (z_1 : Z) : K := (zcA [p0, p1, p2, p8, p9, p10] z_1 (kBlk 0 (kSeq X zhe [p0, p1, p2, p8, p9] (KZ_a_0 X))))
def KZ_j_0 (X : Rn) : K := (fnK [.tmp p4])
def KZ_j_1 (X : Rn) (z_1 : Z) : K := (zcA [p0, p1, p7, p8] z_1 (kBlk 0 (kSeq X zio [] (KZ_j_0 X))))
def KZ_k_0 (X : Rn) : K := (fnK [.cell none p10])
def KZ_k_2 (X : Rn) (l : Nat) : K := (finK l)
def KZ_E_1 (X : Rn) (l : Nat) : K := (finK l)
end Go.Ideal.X
end
