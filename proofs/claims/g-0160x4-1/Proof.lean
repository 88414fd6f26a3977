import JvmDerived
import JvmDerived.Pilot.@@N@@Statement
import JvmDerived.Pilot.@@N@@Code
set_option linter.unusedVariables false
set_option linter.unusedSimpArgs false
namespace Jvm.RoadKit
open Sem ClassFile Op Lib Jvm.Stand Jvm.Free Jvm.LawKit
section New
variable {p : Program} {l : Launch} {e : Env} {R : Room} {s : State} {m : MethodId} {args : Array Value} {below : List Frame} {meth : Method} {c : Code} {T : State} {locs : List Loc} {cells slots : Nat}
theorem retI (X : Stand p l e R s m args below meth c T locs cells slots) (hx : p.tables.exec = Jvm.exec) {pc : Nat} {Ls : Array Slot} {z : Int32} {rest : List Value} (hret : meth.sig.returnType = some .int) (hd : decode c.code pc = .ok (.ireturn, 1)) {fs : List Frame}
    (hl : ∀ (f : JFrame) (acts : List Action), f.method = m → f.locked = none → f.entered = [] → (doReturn e (T.setTop f) acts (some (.int z))).1 = T.setFrames fs) : Steps p.tables e below (T.setTop (mkF m pc Ls (.int z :: rest))) (T.setFrames fs) := by
  have hm' : T.vm.method? m = some meth := X.method'
  have hn : narrow .int (.int z) = .int z := rfl
  show Steps p.tables e below (T.setTop { method := m, pc := pc, locals := Ls, stack := _ :: rest, locked := none }) _
  jvm_step X.here [X.here.top, hx, hd, hm', hret, hn]
  first | (intro acts; rw [hl _ acts rfl rfl rfl]) | rw [hl _ _ rfl rfl rfl]
  exact Steps.refl _
end New
end Jvm.RoadKit
namespace Jvm.Own
abbrev R32 (x : Int) : Prop := -2147483648 ≤ x ∧ x < 2147483648
abbrev R64 (x : Int) : Prop := -9223372036854775808 ≤ x ∧ x < 9223372036854775808
def w32 (x : Int) : Int := Int.bmod x 4294967296
def w64 (x : Int) : Int := Int.bmod x 18446744073709551616
def w8 (x : Int) : Int := Int.bmod x 256
def and32 (x y : Int) : Int := (Int32.ofInt x &&& Int32.ofInt y).toInt
def or32 (x y : Int) : Int := (Int32.ofInt x ||| Int32.ofInt y).toInt
def xor32 (x y : Int) : Int := (Int32.ofInt x ^^^ Int32.ofInt y).toInt
def and64 (x y : Int) : Int := (Int64.ofInt x &&& Int64.ofInt y).toInt
def or64 (x y : Int) : Int := (Int64.ofInt x ||| Int64.ofInt y).toInt
def xor64 (x y : Int) : Int := (Int64.ofInt x ^^^ Int64.ofInt y).toInt
def shl32 (x y : Int) : Int := (Int32.ofInt x <<< (Int32.ofInt y &&& 31)).toInt
def shr32 (x y : Int) : Int := (Int32.ofInt x >>> (Int32.ofInt y &&& 31)).toInt
def ushr32 (x y : Int) : Int := (((Int32.ofInt x).toUInt32 >>> (Int32.ofInt y &&& 31).toUInt32).toInt32).toInt
def shl64 (x y : Int) : Int := (Int64.ofInt x <<< ((Int32.ofInt y).toInt64 &&& 63)).toInt
def shr64 (x y : Int) : Int := (Int64.ofInt x >>> ((Int32.ofInt y).toInt64 &&& 63)).toInt
def ushr64 (x y : Int) : Int := (((Int64.ofInt x).toUInt64 >>> ((Int32.ofInt y).toInt64.toUInt64 &&& Int64.toUInt64 63)).toInt64).toInt
abbrev Mo := Nat → Nat → Int
def zM : Mo := fun _ _ => 0
def upd (O : Mo) (j i : Nat) (x : Int) : Mo := fun j' i' => if j' = j ∧ i' = i then x else O j' i'
theorem upd_same (O : Mo) (j i : Nat) (x : Int) : upd O j i x j i = x := by simp [upd]
theorem upd_ne {O : Mo} {j i j' i' : Nat} {x : Int} (h : ¬ (j' = j ∧ i' = i)) : upd O j i x j' i' = O j' i' := by simp only [upd]; rw [if_neg h]
def lt {α : Type} (e : Int) (K : Int → α) : α := K e
def loop {σ ρ : Type} (body : σ → Option (σ ⊕ ρ)) : Nat → σ → Option ρ
  | 0, _ => none
  | n + 1, s => (body s).bind (Sum.elim (loop body n) some)
theorem lt_in {α : Type} {e : Int} {K : Int → α} {r : α} {G : Int → Prop} (hf : lt e K = r) (h : ∀ x, K x = r → G x) : G e := h e hf
theorem bind_in {α β : Type} {x : Option α} {k : α → Option β} {r : β} {Q : Prop} (hf : x.bind k = some r) (h : ∀ a, x = some a → k a = some r → Q) : Q := by
  cases x with
  | none => cases hf
  | some a => exact h a rfl hf
theorem loop_ind {σ ρ : Type} {body : σ → Option (σ ⊕ ρ)} {Gs : σ → Prop} {Gr : ρ → Prop} (hb : ∀ s x, body s = some x → Sum.elim Gs Gr x → Gs s) : ∀ n s r, loop body n s = some r → Gr r → Gs s
  | 0, s, r, h, _ => by cases h
  | n + 1, s, r, h, k => by
    unfold loop at h
    cases hx : body s with
    | none => rw [hx] at h; cases h
    | some x =>
      rw [hx] at h
      cases x with
      | inl s' => exact hb s _ hx (loop_ind hb n s' r h k)
      | inr r' =>
        have h' : some r' = some r := h
        cases h'
        exact hb s _ hx k
theorem loop_go {σ ρ β : Type} {body : σ → Option (σ ⊕ ρ)} {n : Nat} {s0 : σ} {k : ρ → Option β} {res : β} {Gs : σ → Prop} {Gr : ρ → Prop} (hf : (loop body n s0).bind k = some res)
    (hb : ∀ s x, body s = some x → Sum.elim Gs Gr x → Gs s) (hk : ∀ r, k r = some res → Gr r) : Gs s0 :=
  bind_in hf fun r h1 h2 => loop_ind hb n s0 r h1 (hk r h2)
theorem ifp {α : Type} {c : Prop} [inst : Decidable c] {a b r : α} (hc : c) (hf : (if c then a else b) = r) : a = r := (if_pos hc).symm.trans hf
theorem ifn {α : Type} {c : Prop} [inst : Decidable c] {a b r : α} (hc : ¬ c) (hf : (if c then a else b) = r) : b = r := (if_neg hc).symm.trans hf
theorem okb {α : Type} {c : Prop} [inst : Decidable c] {a : Option α} {r : α} (hf : (if c then a else none) = some r) : c := by
  by_cases h : c
  · exact h
  · rw [if_neg h] at hf; cases hf
theorem okn {α : Type} {c : Prop} [inst : Decidable c] {a : Option α} {r : α} (hf : (if c then none else a) = some r) : ¬ c := by
  by_cases h : c
  · rw [if_pos h] at hf; cases hf
  · exact h
end Jvm.Own

namespace Jvm.Own
open Sem ClassFile Op Lib Jvm.Stand Jvm.Free Jvm.LawKit Jvm.RoadKit
/-! values: ints and longs as Int, references as addresses -/
abbrev V := Int ⊕ (Int ⊕ Nat)
abbrev vI (x : Int) : V := Sum.inl x
abbrev vJ (x : Int) : V := Sum.inr (Sum.inl x)
abbrev vR (a : Nat) : V := Sum.inr (Sum.inr a)
def rv : V → Value
  | .inl x => .int (Int32.ofInt x)
  | .inr (.inl x) => .long (Int64.ofInt x)
  | .inr (.inr a) => .ref a
def okV : V → Prop
  | .inl x => R32 x
  | .inr (.inl x) => R64 x
  | .inr (.inr _) => True
def okS (S : List V) : Prop := ∀ u ∈ S, okV u
theorem ofw32 (x : Int) : Int32.ofInt (w32 x) = Int32.ofInt x := Int32.toInt_inj.mp (by simp [w32, Int32.toInt_ofInt])
theorem ofw64 (x : Int) : Int64.ofInt (w64 x) = Int64.ofInt x := Int64.toInt_inj.mp (by simp [w64, Int64.toInt_ofInt])
theorem rw32 (x : Int) : R32 (w32 x) := by unfold R32 w32; have := @Int.le_bmod x 4294967296 (by decide); have := @Int.bmod_lt x 4294967296 (by decide); omega
theorem rw64 (x : Int) : R64 (w64 x) := by unfold R64 w64; have := @Int.le_bmod x 18446744073709551616 (by decide); have := @Int.bmod_lt x 18446744073709551616 (by decide); omega
theorem w32_id {x : Int} (h : R32 x) : w32 x = x := Int.bmod_eq_of_le (by have := h.1; omega) (by have := h.2; omega)
theorem w64_id {x : Int} (h : R64 x) : w64 x = x := Int.bmod_eq_of_le (by have := h.1; omega) (by have := h.2; omega)
theorem ti32 {x : Int} (h : R32 x) : (Int32.ofInt x).toInt = x := by rw [Int32.toInt_ofInt]; exact w32_id h
theorem ti64 {x : Int} (h : R64 x) : (Int64.ofInt x).toInt = x := by rw [Int64.toInt_ofInt]; exact w64_id h
theorem r32t (x : Int32) : R32 x.toInt := ⟨by have := Int32.le_toInt x; omega, by have := Int32.toInt_lt x; omega⟩
theorem r64t (x : Int64) : R64 x.toInt := ⟨by have := Int64.le_toInt x; omega, by have := Int64.toInt_lt x; omega⟩
theorem of32 (x : Int32) : Int32.ofInt x.toInt = x := Int32.ofInt_toInt x
theorem of64 (x : Int64) : Int64.ofInt x.toInt = x := Int64.ofInt_toInt x
theorem eq32 {x y : Int} (hx : R32 x) (hy : R32 y) : Int32.ofInt x = Int32.ofInt y ↔ x = y := ⟨fun h => by rw [← ti32 hx, ← ti32 hy, h], fun h => by rw [h]⟩
theorem eq64 {x y : Int} (hx : R64 x) (hy : R64 y) : Int64.ofInt x = Int64.ofInt y ↔ x = y := ⟨fun h => by rw [← ti64 hx, ← ti64 hy, h], fun h => by rw [h]⟩
theorem lt32 {x y : Int} (hx : R32 x) (hy : R32 y) : Int32.ofInt x < Int32.ofInt y ↔ x < y := by rw [Int32.lt_iff_toInt_lt, ti32 hx, ti32 hy]
theorem lt64 {x y : Int} (hx : R64 x) (hy : R64 y) : Int64.ofInt x < Int64.ofInt y ↔ x < y := by rw [Int64.lt_iff_toInt_lt, ti64 hx, ti64 hy]
theorem add32o (x y : Int) : Int32.ofInt x + Int32.ofInt y = Int32.ofInt (w32 (x + y)) := by rw [ofw32, Int32.ofInt_add]
theorem sub32o (x y : Int) : Int32.ofInt x - Int32.ofInt y = Int32.ofInt (w32 (x - y)) := by rw [ofw32, Int32.ofInt_sub]
theorem mul32o (x y : Int) : Int32.ofInt x * Int32.ofInt y = Int32.ofInt (w32 (x * y)) := by rw [ofw32, Int32.ofInt_mul]
theorem neg32o (x : Int) : -Int32.ofInt x = Int32.ofInt (w32 (-x)) := by rw [ofw32, Int32.ofInt_neg]
theorem div32o {x y : Int} (hx : R32 x) (hy : R32 y) : Int32.ofInt x / Int32.ofInt y = Int32.ofInt (w32 (x.tdiv y)) := Int32.toInt_inj.mp (by rw [Int32.toInt_div, ti32 hx, ti32 hy, ti32 (rw32 _)]; rfl)
theorem add64o (x y : Int) : Int64.ofInt x + Int64.ofInt y = Int64.ofInt (w64 (x + y)) := by rw [ofw64, Int64.ofInt_add]
theorem sub64o (x y : Int) : Int64.ofInt x - Int64.ofInt y = Int64.ofInt (w64 (x - y)) := by rw [ofw64, Int64.ofInt_sub]
theorem mul64o (x y : Int) : Int64.ofInt x * Int64.ofInt y = Int64.ofInt (w64 (x * y)) := by rw [ofw64, Int64.ofInt_mul]
theorem neg64o (x : Int) : -Int64.ofInt x = Int64.ofInt (w64 (-x)) := by rw [ofw64, Int64.ofInt_neg]
theorem div64o {x y : Int} (hx : R64 x) (hy : R64 y) : Int64.ofInt x / Int64.ofInt y = Int64.ofInt (w64 (x.tdiv y)) := Int64.toInt_inj.mp (by rw [Int64.toInt_div, ti64 hx, ti64 hy, ti64 (rw64 _)]; rfl)
theorem rem64o {x y : Int} (hx : R64 x) (hy : R64 y) : Int64.ofInt x - Int64.ofInt x / Int64.ofInt y * Int64.ofInt y = Int64.ofInt (w64 (x.tmod y)) := by
  rw [div64o hx hy, ofw64, mul64o, ofw64, sub64o, ofw64, ofw64]
  congr 1
  have := Int.mul_tdiv_add_tmod x y
  rw [Int.mul_comm] at this
  omega
theorem rem32o {x y : Int} (hx : R32 x) (hy : R32 y) : Int32.ofInt x - Int32.ofInt x / Int32.ofInt y * Int32.ofInt y = Int32.ofInt (w32 (x.tmod y)) := by
  rw [div32o hx hy, ofw32, mul32o, ofw32, sub32o, ofw32, ofw32]
  congr 1
  have := Int.mul_tdiv_add_tmod x y
  rw [Int.mul_comm] at this
  omega
theorem i2l_o {x : Int} (hx : R32 x) : (Int32.ofInt x).toInt64 = Int64.ofInt x := Int64.toInt_inj.mp (by rw [Int32.toInt_toInt64, ti32 hx, ti64 ⟨by have := hx.1; omega, by have := hx.2; omega⟩])
theorem l2i_o (x : Int) : (Int64.ofInt x).toInt32 = Int32.ofInt (w32 x) := Int32.toInt_inj.mp (by
  rw [Int64.toInt_toInt32, Int64.toInt_ofInt, ti32 (rw32 _)]
  exact Int.bmod_bmod_of_dvd (by decide))
theorem i2b_o (x : Int) : (Int32.ofInt x).toInt8.toInt32 = Int32.ofInt (w8 x) := Int32.toInt_inj.mp (by
  rw [Int8.toInt_toInt32, Int32.toInt_toInt8, Int32.toInt_ofInt]
  have h1 := @Int.le_bmod x 256 (by decide)
  have h2 := @Int.bmod_lt x 256 (by decide)
  rw [ti32 (x := w8 x) ⟨by unfold w8; omega, by unfold w8; omega⟩]
  exact Int.bmod_bmod_of_dvd (by decide))
theorem r8 (x : Int) : -128 ≤ w8 x ∧ w8 x < 128 := by
  have h1 := @Int.le_bmod x 256 (by decide)
  have h2 := @Int.bmod_lt x 256 (by decide)
  unfold w8; omega
theorem and1_o (x : Int) : Int32.ofInt x &&& 1 = Int32.ofInt (x % 2) := by
  apply Int32.toInt_inj.mp
  rw [ti32 (x := x % 2) ⟨by omega, by omega⟩]
  have e1 : (Int32.ofInt x &&& 1).toInt = ((BitVec.ofInt 32 x) &&& 1#32).toInt := rfl
  rw [e1]
  have e2 : (BitVec.ofInt 32 x &&& 1#32).toNat = (x % 2).toNat := by
    rw [BitVec.toNat_and, show (1#32).toNat = 2 ^ 1 - 1 from rfl, Nat.and_two_pow_sub_one_eq_mod, BitVec.toNat_ofInt]
    omega
  rw [BitVec.toInt_eq_toNat_cond, e2]
  omega
/-! the local variables -/
def st1 (L : List (Option V)) (i : Nat) (v : V) : List (Option V) :=
  match i with
  | 0 => L.set 0 (some v)
  | i' + 1 => match L[i']? with
    | some (some (.inr (.inl _))) => (L.set i' none).set (i' + 1) (some v)
    | _ => L.set (i' + 1) (some v)
def st2 (L : List (Option V)) (i : Nat) (x : Int) : List (Option V) := (st1 L i (vJ x)).set (i + 1) none
def WF (Ls : Array Slot) : Prop := (∀ (i : Nat) (v : Value), Ls[i]? = some (.val v) → v.category = 2 → Ls[i + 1]? = some .second) ∧ (∀ i : Nat, Ls[i]? = some .second → ∃ (j : Nat) (v : Value), i = j + 1 ∧ Ls[j]? = some (.val v) ∧ v.category = 2)
def LocRel (L : List (Option V)) (Ls : Array Slot) : Prop := Ls.size = L.length ∧ WF Ls ∧ ∀ (i : Nat) (u : V), L[i]? = some (some u) → Ls[i]? = some (.val (rv u)) ∧ okV u
theorem st1_len (L : List (Option V)) (i : Nat) (v : V) : (st1 L i v).length = L.length := by
  unfold st1; split
  · simp
  · split <;> simp
theorem cat_rv (u : V) : (rv u).category = 2 ↔ ∃ x, u = vJ x := by
  rcases u with x | x | a <;> simp [rv, Value.category]
theorem cat_rv1 {u : V} (h : (rv u).category ≠ 2) : ∀ x, u ≠ vJ x := fun x e => h ((cat_rv u).mpr ⟨x, e⟩)
theorem st1_get {L : List (Option V)} {i : Nat} {v : V} {t : Nat} {u : V} (h : (st1 L i v)[t]? = some (some u)) : (t = i ∧ u = v) ∨ (t ≠ i ∧ L[t]? = some (some u) ∧ ¬ (t + 1 = i ∧ ∃ x, u = vJ x)) := by
  unfold st1 at h
  split at h
  · rw [List.getElem?_set] at h
    split at h
    · rename_i e; subst e
      split at h
      · left; exact ⟨rfl, by simpa using h.symm⟩
      · cases h
    · rename_i e; exact Or.inr ⟨fun q => e q.symm, h, by omega⟩
  · rename_i i'
    split at h
    · rename_i x hx
      rw [List.getElem?_set] at h
      split at h
      · rename_i e; subst e
        split at h
        · left; exact ⟨rfl, by simpa using h.symm⟩
        · cases h
      · rename_i e
        rw [List.getElem?_set] at h
        split at h
        · split at h <;> simp at h
        · rename_i e2
          exact Or.inr ⟨fun q => e q.symm, h, fun q => e2 (by omega)⟩
    · rename_i hn
      rw [List.getElem?_set] at h
      split at h
      · rename_i e; subst e
        split at h
        · left; exact ⟨rfl, by simpa using h.symm⟩
        · cases h
      · rename_i e
        refine Or.inr ⟨fun q => e q.symm, h, fun q => ?_⟩
        obtain ⟨q1, x, rfl⟩ := q
        have : t = i' := by omega
        subst this
        exact hn x h
theorem aset {Ls : Array Slot} {i : Nat} {x : Slot} (hi : i < Ls.size) (t : Nat) : (Ls.setIfInBounds i x)[t]? = if t = i then some x else Ls[t]? := by
  rw [Array.getElem?_setIfInBounds]
  by_cases e : i = t
  · subst e; simp [hi]
  · rw [if_neg e, if_neg (fun q => e q.symm)]
theorem setAt_ok {Ls : Array Slot} {i : Nat} {x : Slot} (hi : i < Ls.size) : setAt Ls i x = some (Ls.setIfInBounds i x) := by simp [setAt, hi]
theorem stage1 {L : List (Option V)} {Ls : Array Slot} (H : LocRel L Ls) {i : Nat} (hi : i < L.length) (v : Value) : ∃ l1 : Array Slot, storeLocals Ls i v = storeSelf l1 i v ∧ l1.size = Ls.size ∧
    (∀ (t : Nat) (w : Value), t ≠ i → l1[t]? = some (.val w) → w.category = 2 → t + 1 ≠ i ∧ l1[t + 1]? = some .second) ∧ (∀ t : Nat, t ≠ i → l1[t]? = some .second → ∃ (j : Nat) (w : Value), t = j + 1 ∧ j ≠ i ∧ l1[j]? = some (.val w) ∧ w.category = 2) ∧
    (∀ (t : Nat) (u : V), t ≠ i → L[t]? = some (some u) → ¬ (t + 1 = i ∧ ∃ x, u = vJ x) → l1[t]? = some (.val (rv u)) ∧ okV u) := by
  obtain ⟨hs, ⟨w1, w2⟩, hr⟩ := H
  have hi' : i < Ls.size := by omega
  obtain ⟨y, hy⟩ : ∃ y, Ls[i]? = some y := ⟨_, Array.getElem?_eq_getElem hi'⟩
  cases y with
  | unset =>
    refine ⟨Ls, by simp [storeLocals, hy], rfl, fun t w ht h c => ⟨fun e => ?_, w1 t w h c⟩, fun t ht h => ?_, fun t u ht h _ => hr t u h⟩
    · subst e; have := w1 t w h c; rw [hy] at this; cases this
    · obtain ⟨j, w, e, h2, c⟩ := w2 t h
      refine ⟨j, w, e, fun q => ?_, h2, c⟩
      subst q; rw [hy] at h2; cases h2
  | second =>
    obtain ⟨j, w, e, hj, cw⟩ := w2 i hy
    have hj' : j < Ls.size := by omega
    refine ⟨Ls.setIfInBounds j .unset, by subst e; simp [storeLocals, hy, setAt, hj'], by simp, fun t x ht h c => ?_, fun t ht h => ?_, fun t u ht h hn => ?_⟩
    · rw [aset hj'] at h
      split at h
      · cases h
      · rename_i q
        refine ⟨by omega, ?_⟩
        rw [aset hj', if_neg ?_]
        · exact w1 t x h c
        · intro e2; have := w1 t x h c; rw [e2, hj] at this; cases this
    · rw [aset hj'] at h
      split at h
      · cases h
      · rename_i q
        obtain ⟨j2, x, e2, h2, c2⟩ := w2 t h
        refine ⟨j2, x, e2, fun q2 => ?_, ?_, c2⟩
        · subst q2; rw [hy] at h2; cases h2
        · rw [aset hj', if_neg (by omega)]; exact h2
    · have := hr t u h
      refine ⟨?_, this.2⟩
      rw [aset hj', if_neg ?_]
      · exact this.1
      · intro q
        subst q
        have h3 := this.1
        rw [hj] at h3
        cases h3
        exact hn ⟨e.symm, (cat_rv u).mp cw⟩
  | val old =>
    by_cases co : old.category = 2
    · have hn := w1 i old hy co
      have hi2 : i + 1 < Ls.size := by have := (Array.getElem?_eq_some_iff.mp hn).1; exact this
      refine ⟨Ls.setIfInBounds (i + 1) .unset, by simp [storeLocals, hy, setAt, co, hi2], by simp, fun t x ht h c => ?_, fun t ht h => ?_, fun t u ht h hq => ?_⟩
      · rw [aset hi2] at h
        split at h
        · cases h
        · rename_i q
          refine ⟨fun e => ?_, ?_⟩
          · subst e; have := w1 t x h c; rw [hy] at this; cases this
          · rw [aset hi2, if_neg (by omega)]; exact w1 t x h c
      · rw [aset hi2] at h
        split at h
        · cases h
        · rename_i q
          obtain ⟨j2, x, e2, h2, c2⟩ := w2 t h
          refine ⟨j2, x, e2, by omega, ?_, c2⟩
          rw [aset hi2, if_neg ?_]
          · exact h2
          · intro q2; subst q2; rw [hn] at h2; cases h2
      · have := hr t u h
        refine ⟨?_, this.2⟩
        rw [aset hi2, if_neg ?_]
        · exact this.1
        · intro q; subst q; rw [hn] at this; cases this.1
    · refine ⟨Ls, by simp [storeLocals, hy, co], rfl, fun t w ht h c => ⟨fun e => ?_, w1 t w h c⟩, fun t ht h => ?_, fun t u ht h _ => hr t u h⟩
      · subst e; have := w1 t w h c; rw [hy] at this; cases this
      · obtain ⟨j, w, e, h2, c⟩ := w2 t h
        refine ⟨j, w, e, fun q => ?_, h2, c⟩
        subst q; rw [hy] at h2; cases h2; exact co c
theorem st1_ok {L : List (Option V)} {Ls : Array Slot} (H : LocRel L Ls) {i : Nat} {u : V} (hi : i < L.length) (hu : okV u) (hc : ∀ x, u ≠ vJ x) : ∃ Ls', storeLocals Ls i (rv u) = some Ls' ∧ LocRel (st1 L i u) Ls' := by
  obtain ⟨l1, e1, e2, a1, a2, a3⟩ := stage1 H hi (rv u)
  have hi' : i < l1.size := by have := H.1; omega
  have c1 : (rv u).category ≠ 2 := fun q => by obtain ⟨x, hx⟩ := (cat_rv u).mp q; exact hc x hx
  refine ⟨l1.setIfInBounds i (.val (rv u)), by rw [e1]; simp [storeSelf, setAt, hi', c1], by rw [st1_len]; simp [e2, H.1], ⟨fun t w h c => ?_, fun t h => ?_⟩, fun t w h => ?_⟩
  · rw [aset hi'] at h
    split at h
    · cases h; exact absurd c c1
    · rename_i q
      obtain ⟨b1, b2⟩ := a1 t w q h c
      rw [aset hi', if_neg b1]; exact b2
  · rw [aset hi'] at h
    split at h
    · cases h
    · rename_i q
      obtain ⟨j, w, b1, b2, b3, b4⟩ := a2 t q h
      exact ⟨j, w, b1, by rw [aset hi', if_neg b2]; exact b3, b4⟩
  · rcases st1_get h with ⟨rfl, rfl⟩ | ⟨q1, q2, q3⟩
    · exact ⟨by rw [aset hi', if_pos rfl], hu⟩
    · obtain ⟨b1, b2⟩ := a3 t w q1 q2 q3
      exact ⟨by rw [aset hi', if_neg q1]; exact b1, b2⟩
theorem st2_get {L : List (Option V)} {i : Nat} {x : Int} {t : Nat} {u : V} (h : (st2 L i x)[t]? = some (some u)) : t ≠ i + 1 ∧ ((t = i ∧ u = vJ x) ∨ (t ≠ i ∧ L[t]? = some (some u) ∧ ¬ (t + 1 = i ∧ ∃ x, u = vJ x))) := by
  unfold st2 at h
  rw [List.getElem?_set] at h
  split at h
  · split at h <;> simp at h
  · rename_i q
    exact ⟨fun e => q e.symm, st1_get h⟩
theorem st2_ok {L : List (Option V)} {Ls : Array Slot} (H : LocRel L Ls) {i : Nat} {x : Int} (hi : i + 1 < L.length) (hu : R64 x) : ∃ Ls', storeLocals Ls i (rv (vJ x)) = some Ls' ∧ LocRel (st2 L i x) Ls' := by
  obtain ⟨l1, e1, e2, a1, a2, a3⟩ := stage1 H (by omega : i < L.length) (rv (vJ x))
  have hs : l1.size = L.length := e2.trans H.1
  have hi' : i < l1.size := by omega
  have hi2 : i + 1 < l1.size := by omega
  have hlen : (st2 L i x).length = L.length := by simp [st2, st1_len]
  have c2 : (rv (vJ x)).category = 2 := rfl
  have g1 : (l1.setIfInBounds i (.val (rv (vJ x))))[i + 1]? = l1[i + 1]? := by rw [aset hi', if_neg (by omega)]
  obtain ⟨y, hy⟩ : ∃ y, l1[i + 1]? = some y := ⟨_, Array.getElem?_eq_getElem hi2⟩
  by_cases hb : ∃ w, y = .val w ∧ w.category = 2
  · obtain ⟨w, rfl, cw⟩ := hb
    have hn := (a1 (i + 1) w (by omega) hy cw).2
    have hi3 : i + 1 + 1 < l1.size := (Array.getElem?_eq_some_iff.mp hn).1
    refine ⟨((l1.setIfInBounds i (.val (rv (vJ x)))).setIfInBounds (i + 2) .unset).setIfInBounds (i + 1) .second, ?_, by rw [hlen]; simp [hs], ⟨fun t w2 h c => ?_, fun t h => ?_⟩, fun t w2 h => ?_⟩
    · rw [e1]
      have hi3' : i + 2 < l1.size := hi3
      have hy2 := (Array.getElem?_eq_some_iff.mp hy).2
      simp [storeSelf, setAt, hi', c2, g1, hy2, cw, hi3', hi2]
    · rw [aset (by simp; omega), aset (by simp; omega), aset hi'] at h
      split at h
      · cases h
      · split at h
        · cases h
        · split at h
          · rename_i q1 q2 q3
            subst q3
            rw [aset (by simp; omega), if_pos rfl]
          · rename_i q1 q2 q3
            obtain ⟨b1, b2⟩ := a1 t w2 q3 h c
            rw [aset (by simp; omega), if_neg (by omega), aset (by simp; omega), if_neg (by omega), aset hi', if_neg b1]
            exact b2
    · rw [aset (by simp; omega), aset (by simp; omega), aset hi'] at h
      split at h
      · rename_i q1
        exact ⟨i, rv (vJ x), q1, by rw [aset (by simp; omega), if_neg (by omega), aset (by simp; omega), if_neg (by omega), aset hi', if_pos rfl], c2⟩
      · split at h
        · cases h
        · split at h
          · cases h
          · rename_i q1 q2 q3
            obtain ⟨j, w3, b1, b2, b3, b4⟩ := a2 t q3 h
            refine ⟨j, w3, b1, ?_, b4⟩
            rw [aset (by simp; omega), if_neg (by omega), aset (by simp; omega), if_neg ?_, aset hi', if_neg b2]
            · exact b3
            · intro q; subst q
              have : l1[i + 1 + 1]? = some (.val w3) := b3
              rw [hn] at this; cases this
    · obtain ⟨q0, q⟩ := st2_get h
      rw [aset (by simp; omega), if_neg q0, aset (by simp; omega), aset hi']
      rcases q with ⟨rfl, rfl⟩ | ⟨q1, q2, q3⟩
      · rw [if_neg (by omega), if_pos rfl]; exact ⟨rfl, hu⟩
      · obtain ⟨b1, b2⟩ := a3 t w2 q1 q2 q3
        refine ⟨?_, b2⟩
        rw [if_neg ?_, if_neg q1]
        · exact b1
        · intro q; subst q
          have : l1[i + 1 + 1]? = some (.val (rv w2)) := b1
          rw [hn] at this; cases this
  · refine ⟨(l1.setIfInBounds i (.val (rv (vJ x)))).setIfInBounds (i + 1) .second, ?_, by rw [hlen]; simp [hs], ⟨fun t w2 h c => ?_, fun t h => ?_⟩, fun t w2 h => ?_⟩
    · rw [e1]
      cases y with
      | val w =>
        have cw : w.category ≠ 2 := fun q => hb ⟨w, rfl, q⟩
        have hy2 := (Array.getElem?_eq_some_iff.mp hy).2
        simp [storeSelf, setAt, hi', c2, g1, hy2, cw, hi2]
      | unset => have hy2 := (Array.getElem?_eq_some_iff.mp hy).2; simp [storeSelf, setAt, hi', c2, g1, hy2, hi2]
      | second => have hy2 := (Array.getElem?_eq_some_iff.mp hy).2; simp [storeSelf, setAt, hi', c2, g1, hy2, hi2]
    · rw [aset (by simp; omega), aset hi'] at h
      split at h
      · cases h
      · split at h
        · rename_i q1 q2
          subst q2
          rw [aset (by simp; omega), if_pos rfl]
        · rename_i q1 q2
          obtain ⟨b1, b2⟩ := a1 t w2 q2 h c
          rw [aset (by simp; omega), if_neg (by omega), aset hi', if_neg b1]
          exact b2
    · rw [aset (by simp; omega), aset hi'] at h
      split at h
      · rename_i q1
        exact ⟨i, rv (vJ x), q1, by rw [aset (by simp; omega), if_neg (by omega), aset hi', if_pos rfl], c2⟩
      · split at h
        · cases h
        · rename_i q1 q2
          obtain ⟨j, w3, b1, b2, b3, b4⟩ := a2 t q2 h
          refine ⟨j, w3, b1, ?_, b4⟩
          rw [aset (by simp; omega), if_neg ?_, aset hi', if_neg b2]
          · exact b3
          · intro q; subst q
            rw [hy] at b3; cases b3
            exact hb ⟨w3, rfl, b4⟩
    · obtain ⟨q0, q⟩ := st2_get h
      rw [aset (by simp; omega), if_neg q0, aset hi']
      rcases q with ⟨rfl, rfl⟩ | ⟨q1, q2, q3⟩
      · rw [if_pos rfl]; exact ⟨rfl, hu⟩
      · obtain ⟨b1, b2⟩ := a3 t w2 q1 q2 q3
        exact ⟨by rw [if_neg q1]; exact b1, b2⟩
/-! entry -/
def laid : List V → List (Option V)
  | [] => []
  | .inr (.inl x) :: r => some (vJ x) :: none :: laid r
  | u :: r => some u :: laid r
def ent (as : List V) (maxL : Nat) : List (Option V) := laid as ++ List.replicate (maxL - (laid as).length) none
def mask : List Bool → List (Option V) → List (Option V)
  | true :: bs, u :: r => u :: mask bs r
  | false :: bs, _ :: r => none :: mask bs r
  | _, r => r
theorem mask_len (bs : List Bool) (L : List (Option V)) : (mask bs L).length = L.length := by
  induction L generalizing bs with
  | nil => rcases bs with _ | ⟨_ | _, bs⟩ <;> rfl
  | cons a r ih => rcases bs with _ | ⟨_ | _, bs⟩ <;> simp [mask, ih]
theorem mask_get {bs : List Bool} {L : List (Option V)} {i : Nat} {u : V} (h : (mask bs L)[i]? = some (some u)) : L[i]? = some (some u) := by
  induction L generalizing bs i with
  | nil => cases bs <;> simp [mask] at h
  | cons a r ih =>
    rcases bs with _ | ⟨_ | _, bs⟩
    · exact h
    · cases i with
      | zero => simp [mask] at h
      | succ i => simp only [mask, List.getElem?_cons_succ] at h ⊢; exact ih h
    · cases i with
      | zero => exact h
      | succ i => simp only [mask, List.getElem?_cons_succ] at h ⊢; exact ih h
theorem LocRel.mask {L : List (Option V)} {Ls : Array Slot} (H : LocRel L Ls) (bs : List Bool) : LocRel (mask bs L) Ls := ⟨by rw [mask_len]; exact H.1, H.2.1, fun i u h => H.2.2 i u (mask_get h)⟩
def WFl (Ls : List Slot) : Prop := (∀ (i : Nat) (v : Value), Ls[i]? = some (.val v) → v.category = 2 → Ls[i + 1]? = some .second) ∧ (∀ i : Nat, Ls[i]? = some .second → ∃ (j : Nat) (v : Value), i = j + 1 ∧ Ls[j]? = some (.val v) ∧ v.category = 2)
theorem wfl_rep (n : Nat) : WFl (List.replicate n .unset) := by
  refine ⟨fun i v h => ?_, fun i h => ?_⟩ <;> (rw [List.getElem?_replicate] at h; split at h <;> simp at h)
theorem wfl_cons1 {a : Value} {r : List Slot} (H : WFl r) (c : a.category ≠ 2) : WFl (.val a :: r) := by
  refine ⟨fun i v h cv => ?_, fun i h => ?_⟩
  · cases i with
    | zero => simp at h; subst h; exact absurd cv c
    | succ i => simp only [List.getElem?_cons_succ] at h ⊢; exact H.1 i v h cv
  · cases i with
    | zero => simp at h
    | succ i =>
      simp only [List.getElem?_cons_succ] at h
      obtain ⟨j, v, e, h2, c2⟩ := H.2 i h
      exact ⟨j + 1, v, by omega, by simpa using h2, c2⟩
theorem wfl_cons2 {a : Value} {r : List Slot} (H : WFl r) (c : a.category = 2) : WFl (.val a :: .second :: r) := by
  refine ⟨fun i v h cv => ?_, fun i h => ?_⟩
  · rcases i with _ | _ | i
    · rfl
    · simp at h
    · simp only [List.getElem?_cons_succ] at h ⊢; exact H.1 i v h cv
  · rcases i with _ | _ | i
    · simp at h
    · exact ⟨0, a, rfl, rfl, c⟩
    · simp only [List.getElem?_cons_succ] at h
      obtain ⟨j, v, e, h2, c2⟩ := H.2 i h
      exact ⟨j + 2, v, by omega, by simpa using h2, c2⟩
theorem laid_ok (n : Nat) : ∀ as : List V, okS as → (laid as).length = (Jvm.Sym.laidSlots (as.map rv)).length ∧ WFl (Jvm.Sym.laidSlots (as.map rv) ++ List.replicate n .unset) ∧ ∀ (i : Nat) (u : V), (laid as)[i]? = some (some u) → (Jvm.Sym.laidSlots (as.map rv))[i]? = some (.val (rv u)) ∧ okV u
  | [], _ => ⟨rfl, by simpa [Jvm.Sym.laidSlots] using wfl_rep n, fun i u h => by simp [laid] at h⟩
  | .inl x :: r, ho => by
    obtain ⟨h1, h2, h3⟩ := laid_ok n r (fun u hu => ho u (List.mem_cons_of_mem _ hu))
    refine ⟨by simp [laid, Jvm.Sym.laidSlots, rv, Value.category, h1], ?_, fun i u h => ?_⟩
    · exact wfl_cons1 (a := rv (vI x)) h2 (by simp [rv, Value.category])
    · cases i with
      | zero => simp [laid] at h; subst h; exact ⟨rfl, ho _ (List.mem_cons_self ..)⟩
      | succ i => simp only [laid, List.getElem?_cons_succ] at h; exact h3 i u h
  | .inr (.inr x) :: r, ho => by
    obtain ⟨h1, h2, h3⟩ := laid_ok n r (fun u hu => ho u (List.mem_cons_of_mem _ hu))
    refine ⟨by simp [laid, Jvm.Sym.laidSlots, rv, Value.category, h1], ?_, fun i u h => ?_⟩
    · exact wfl_cons1 (a := rv (vR x)) h2 (by simp [rv, Value.category])
    · cases i with
      | zero => simp [laid] at h; subst h; exact ⟨rfl, ho _ (List.mem_cons_self ..)⟩
      | succ i => simp only [laid, List.getElem?_cons_succ] at h; exact h3 i u h
  | .inr (.inl x) :: r, ho => by
    obtain ⟨h1, h2, h3⟩ := laid_ok n r (fun u hu => ho u (List.mem_cons_of_mem _ hu))
    refine ⟨by simp [laid, Jvm.Sym.laidSlots, rv, Value.category, h1], ?_, fun i u h => ?_⟩
    · exact wfl_cons2 (a := rv (vJ x)) h2 rfl
    · rcases i with _ | _ | i
      · simp [laid] at h; subst h; exact ⟨rfl, ho _ (List.mem_cons_self ..)⟩
      · simp [laid] at h
      · simp only [laid, List.getElem?_cons_succ] at h; exact h3 i u h
theorem ent_ok {as : List V} {maxL : Nat} (ho : okS as) (hl : (laid as).length ≤ maxL) : LocRel (ent as maxL) (argsToLocals (as.map rv).toArray maxL) := by
  have e : (argsToLocals (as.map rv).toArray maxL).toList = Jvm.Sym.laidSlots (as.map rv) ++ List.replicate (maxL - (Jvm.Sym.laidSlots (as.map rv)).length) .unset := by rw [Jvm.Sym.argsToLocals_toList]
  obtain ⟨h1, h2, h3⟩ := laid_ok (maxL - (Jvm.Sym.laidSlots (as.map rv)).length) as ho
  have g : ∀ i, (argsToLocals (as.map rv).toArray maxL)[i]? = (Jvm.Sym.laidSlots (as.map rv) ++ List.replicate (maxL - (Jvm.Sym.laidSlots (as.map rv)).length) .unset)[i]? := fun i => by rw [← e, Array.getElem?_toList]
  refine ⟨?_, ⟨fun i v h c => ?_, fun i h => ?_⟩, fun i u h => ?_⟩
  · rw [← Array.length_toList, e]; simp [ent, h1]
  · rw [g] at h ⊢; exact h2.1 i v h c
  · rw [g] at h
    obtain ⟨j, v, q1, q2, q3⟩ := h2.2 i h
    exact ⟨j, v, q1, by rw [g]; exact q2, q3⟩
  · rw [g]
    unfold ent at h
    by_cases q : i < (laid as).length
    · rw [List.getElem?_append_left q] at h
      rw [List.getElem?_append_left (by omega)]
      exact h3 i u h
    · rw [List.getElem?_append_right (by omega), List.getElem?_replicate] at h
      split at h <;> simp at h
/-! the heap: objects of one class, each with its arrays laid right behind it -/
def fv : FieldType → Int → Value
  | .long, x => .long (Int64.ofInt x)
  | _, x => .int (Int32.ofInt x)
def tv : FieldType → Int → V
  | .long, x => vJ x
  | _, x => vI x
def okT : FieldType → Int → Prop
  | .long, x => R64 x
  | .boolean, x => x = 0 ∨ x = 1
  | .byte, x => -128 ≤ x ∧ x < 128
  | _, x => R32 x
def norm : FieldType → Int → Int
  | .boolean, x => x % 2
  | .byte, x => w8 x
  | _, x => x
def pt (t : FieldType) : Prop := t = .int ∨ t = .boolean ∨ t = .byte ∨ t = .long
theorem rv_tv (t : FieldType) (x : Int) : rv (tv t x) = fv t x := by cases t <;> rfl
theorem okV_tv {t : FieldType} {x : Int} (h : okT t x) : okV (tv t x) := by
  cases t <;> simp only [okT, tv, okV, R32, R64] at * <;> omega
theorem dflt_fv {t : FieldType} (h : pt t) : defaultValue t = fv t 0 := by rcases h with rfl | rfl | rfl | rfl <;> rfl
theorem okT0 {t : FieldType} (h : pt t) : okT t 0 := by rcases h with rfl | rfl | rfl | rfl <;> simp [okT, R32, R64]
theorem norm_ok {t : FieldType} {x : Int} (h : pt t) (hx : okV (tv t x)) : narrow t (fv t x) = fv t (norm t x) ∧ fits t (fv t (norm t x)) = true ∧ okT t (norm t x) := by
  rcases h with rfl | rfl | rfl | rfl
  · exact ⟨rfl, rfl, hx⟩
  · refine ⟨?_, ?_, ?_⟩
    · show Value.int (Int32.ofInt x &&& 1) = _; rw [and1_o]; rfl
    · have := fits_nar_bool (Int32.ofInt x)
      rw [show nar .boolean (Int32.ofInt x) = Int32.ofInt x &&& 1 from rfl, and1_o] at this
      exact this
    · simp only [okT, norm]; omega
  · refine ⟨?_, ?_, ?_⟩
    · show Value.int ((Int32.ofInt x).toInt8.toInt32) = _; rw [i2b_o]; rfl
    · have := fits_nar_byte (Int32.ofInt x)
      rw [i2b_o] at this
      exact this
    · exact r8 x
  · exact ⟨rfl, rfl, hx⟩
abbrev OB := Nat × Nat × Mo
/-- the class: its name, its plain fields (number, name, descriptor, type), its arrays (name, descriptor, component type, length) -/
abbrev Cls := String × List (Nat × String × String × FieldType) × List (String × String × FieldType × Nat)
abbrev Cls.C (D : Cls) : String := D.1
abbrev Cls.FS (D : Cls) : List (Nat × String × String × FieldType) := D.2.1
abbrev Cls.AS (D : Cls) : List (String × String × FieldType × Nat) := D.2.2
def Obj (Z : State) (D : Cls) (b k : Nat) (O : Mo) (h : Heap) : Prop :=
  Exa Z h b D.C ∧ (∀ (i : Nat) (n d : String) (t : FieldType), (i, n, d, t) ∈ D.FS → Fld Z h b D.C n d (fv t (O 0 i)) ∧ okT t (O 0 i)) ∧
  (∀ (j : Nat) (n d : String) (t : FieldType) (len : Nat), D.AS[j]? = some (n, d, t, len) → Fld Z h b D.C n d (if j < k then .ref (b + j + 1) else .null)) ∧
  (∀ (j : Nat) (n d : String) (t : FieldType) (len : Nat), D.AS[j]? = some (n, d, t, len) → j < k → ∃ c : Cell, Arr Z h (b + j + 1) c t ∧ c.slots.size = len ∧ ∀ i : Nat, i < len → c.slots[i]? = some (fv t (O (j + 1) i)) ∧ okT t (O (j + 1) i))
def StB (D : Cls) (b : Nat) (P : Heap → Prop) : Prop := ∀ (h h' : Heap) (a sl : Nat) (v : Value), b ≤ a → a ≤ b + D.AS.length → Wr h h' a sl v → P h → P h'
def StE (P : Heap → Prop) : Prop := ∀ h h' : Heap, Ext h h' → P h → P h'
def HS (Z : State) (D : Cls) (n0 : Nat) (P : Heap → Prop) (os : List OB) (sz : Nat) (h : Heap) : Prop :=
  h.size = sz ∧ n0 ≤ sz ∧ (∀ (q b k : Nat) (O : Mo), os[q]? = some (b, k, O) → Obj Z D b k O h ∧ n0 ≤ b ∧ StB D b P) ∧
  (∀ (q q' b k : Nat) (O : Mo) (b' k' : Nat) (O' : Mo), os[q]? = some (b, k, O) → os[q']? = some (b', k', O') → q ≠ q' → b + D.AS.length < b' ∨ b' + D.AS.length < b) ∧ StE P ∧ P h
/-- what the sheet's words say of the class -/
def CW (Z : State) (a0 : Array Value) (D : Cls) : Prop :=
  (∀ (i : Nat) (n d : String) (t : FieldType), (i, n, d, t) ∈ D.FS → Laid Z a0 D.C D.C n d ∧ parseFieldDescriptor d = some t ∧ pt t) ∧
  (∀ (j : Nat) (n d : String) (t : FieldType) (len : Nat), D.AS[j]? = some (n, d, t, len) → Laid Z a0 D.C D.C n d ∧ parseFieldDescriptor d = some (.array t) ∧ pt t ∧ len * 8 ≤ 536870912) ∧
  (∀ (i : Nat) (n d : String) (t : FieldType) (i' : Nat) (n' d' : String) (t' : FieldType), (i, n, d, t) ∈ D.FS → (i', n', d', t') ∈ D.FS → (i = i' ∧ n = n' ∧ d = d' ∧ t = t') ∨ (i ≠ i' ∧ n ≠ n')) ∧
  (∀ (i : Nat) (n d : String) (t : FieldType) (j : Nat) (n' d' : String) (t' : FieldType) (len : Nat), (i, n, d, t) ∈ D.FS → D.AS[j]? = some (n', d', t', len) → n ≠ n') ∧
  (∀ (j : Nat) (n d : String) (t : FieldType) (len j' : Nat) (n' d' : String) (t' : FieldType) (len' : Nat), D.AS[j]? = some (n, d, t, len) → D.AS[j']? = some (n', d', t', len') → j ≠ j' → n ≠ n')
theorem nne {x y : Nat} (h : ¬ x = y) : @Ne Addr x y := h
section Heaps
variable {Z : State} {a0 : Array Value} {D : Cls} {n0 : Nat} {P : Heap → Prop} {b k : Nat} {O : Mo} {h h' : Heap} {os : List OB} {sz q : Nat}
theorem Obj.putf (cw : CW Z a0 D) (H : Obj Z D b k O h) {i : Nat} {n d : String} {t : FieldType} {x : Int} (hf : (i, n, d, t) ∈ D.FS) (W : Wr h h' b (Jvm.RoadKit.slotOf Z D.C n d) (fv t x)) (hx : okT t x) : Obj Z D b k (upd O 0 i x) h' := by
  obtain ⟨h1, h2, h3, h4⟩ := H
  obtain ⟨c1, c2, c3, c4, c5⟩ := cw
  obtain ⟨l1, p1, t1⟩ := c1 _ _ _ _ hf
  refine ⟨h1.wr W, fun i' n' d' t' hf' => ?_, fun j n' d' t' len ha => ?_, fun j n' d' t' len ha hj => ?_⟩
  · obtain ⟨f1, f2⟩ := h2 _ _ _ _ hf'
    rcases c3 _ _ _ _ _ _ _ _ hf hf' with ⟨rfl, rfl, rfl, rfl⟩ | ⟨ne, nn⟩
    · rw [upd_same]; exact ⟨f1.same W, hx⟩
    · rw [upd_ne (fun q => ne q.2.symm)]
      obtain ⟨l2, p2, _⟩ := c1 _ _ _ _ hf'
      exact ⟨f1.other W (Or.inr (slot_ne l2 l1 (fun e => nn e.symm) p2 p1)), f2⟩
  · have f1 := h3 _ _ _ _ _ ha
    obtain ⟨l2, p2, _⟩ := c2 _ _ _ _ _ ha
    exact f1.other W (Or.inr (slot_ne l2 l1 (fun e => c4 _ _ _ _ _ _ _ _ _ hf ha e.symm) p2 p1))
  · obtain ⟨c, A, s, g⟩ := h4 _ _ _ _ _ ha hj
    refine ⟨c, A.other W (nne (by omega)), s, fun i' hi' => ?_⟩
    rw [upd_ne (by omega)]; exact g i' hi'
theorem Obj.puta (H : Obj Z D b k O h) {j i len : Nat} {n d : String} {t : FieldType} {x : Int} (ha : D.AS[j]? = some (n, d, t, len)) (hj : j < k) (hi : i < len) (W : Wr h h' (b + j + 1) i (fv t x)) (hx : okT t x) : Obj Z D b k (upd O (j + 1) i x) h' := by
  obtain ⟨h1, h2, h3, h4⟩ := H
  refine ⟨h1.wr W, fun i' n' d' t' hf' => ?_, fun j' n' d' t' len' ha' => ?_, fun j' n' d' t' len' ha' hj' => ?_⟩
  · obtain ⟨f1, f2⟩ := h2 _ _ _ _ hf'
    rw [upd_ne (by omega)]
    exact ⟨f1.other W (Or.inl (nne (by omega))), f2⟩
  · exact (h3 _ _ _ _ _ ha').other W (Or.inl (nne (by omega)))
  · obtain ⟨c, A, s, g⟩ := h4 _ _ _ _ _ ha' hj'
    by_cases e : j' = j
    · subst e
      cases ha.symm.trans ha'
      refine ⟨_, A.same W, by rw [sz_set]; exact s, fun i' hi' => ?_⟩
      by_cases e2 : i' = i
      · subst e2
        rw [upd_same]
        exact ⟨by simp [Cell.setSlot, s, hi'], hx⟩
      · rw [upd_ne (fun q => e2 q.2)]
        refine ⟨?_, (g i' hi').2⟩
        have := (g i' hi').1
        simp only [Cell.setSlot]
        rw [Array.getElem?_setIfInBounds_ne (fun q => e2 q.symm)]
        exact this
    · refine ⟨c, A.other W (nne (by omega)), s, fun i' hi' => ?_⟩
      rw [upd_ne (by omega)]; exact g i' hi'
theorem Obj.other (H : Obj Z D b k O h) {a sl : Nat} {v : Value} (W : Wr h h' a sl v) (hne : a < b ∨ b + D.AS.length < a) : Obj Z D b k O h' := by
  obtain ⟨h1, h2, h3, h4⟩ := H
  refine ⟨h1.wr W, fun i' n' d' t' hf' => ⟨(h2 _ _ _ _ hf').1.other W (Or.inl (nne (by omega))), (h2 _ _ _ _ hf').2⟩, fun j' n' d' t' len' ha' => (h3 _ _ _ _ _ ha').other W (Or.inl (nne (by omega))), fun j' n' d' t' len' ha' hj' => ?_⟩
  obtain ⟨c, A, s, g⟩ := h4 _ _ _ _ _ ha' hj'
  have hl : j' < D.AS.length := (List.getElem?_eq_some_iff.mp ha').1
  exact ⟨c, A.other W (nne (by omega)), s, g⟩
theorem Obj.ext (H : Obj Z D b k O h) (E : Ext h h') : Obj Z D b k O h' := by
  obtain ⟨h1, h2, h3, h4⟩ := H
  refine ⟨h1.ext E, fun i' n' d' t' hf' => ⟨(h2 _ _ _ _ hf').1.ext E, (h2 _ _ _ _ hf').2⟩, fun j' n' d' t' len' ha' => (h3 _ _ _ _ _ ha').ext E, fun j' n' d' t' len' ha' hj' => ?_⟩
  obtain ⟨c, A, s, g⟩ := h4 _ _ _ _ _ ha' hj'
  exact ⟨c, A.ext E, s, g⟩
theorem Obj.top (H : Obj Z D b k O h) (hk : k = D.AS.length) : b + D.AS.length < h.size := by
  obtain ⟨h1, h2, h3, h4⟩ := H
  by_cases z : D.AS.length = 0
  · have : b < h.size := h1.lt
    omega
  · obtain ⟨⟨n, d, t, len⟩, hx⟩ : ∃ y, D.AS[D.AS.length - 1]? = some y := ⟨_, List.getElem?_eq_getElem (by omega)⟩
    obtain ⟨c, A, -⟩ := h4 _ _ _ _ _ hx (by omega)
    have : b + (D.AS.length - 1) + 1 < h.size := A.lt
    omega
theorem Obj.mkArr (cw : CW Z a0 D) (H : Obj Z D b k O h) {n d : String} {t : FieldType} {len : Nat} {h1 h2 : Heap} {cA : ClassId} (ha : D.AS[k]? = some (n, d, t, len)) (E : Ext h h1) (A : Arr Z h1 (b + k + 1) (newA cA t (Int32.ofInt len)) t)
    (W : Wr h1 h2 b (Jvm.RoadKit.slotOf Z D.C n d) (.ref (b + k + 1))) (hO : ∀ i, O (k + 1) i = 0) : Obj Z D b (k + 1) O h2 := by
  have H1 := H.ext E
  obtain ⟨g1, g2, g3, g4⟩ := H1
  obtain ⟨c1, c2, c3, c4, c5⟩ := cw
  obtain ⟨l1, p1, t1, b1⟩ := c2 _ _ _ _ _ ha
  refine ⟨g1.wr W, fun i' n' d' t' hf' => ?_, fun j n' d' t' len' ha' => ?_, fun j n' d' t' len' ha' hj => ?_⟩
  · obtain ⟨f1, f2⟩ := g2 _ _ _ _ hf'
    obtain ⟨l2, p2, _⟩ := c1 _ _ _ _ hf'
    exact ⟨f1.other W (Or.inr (slot_ne l2 l1 (fun e => c4 _ _ _ _ _ _ _ _ _ hf' ha e) p2 p1)), f2⟩
  · by_cases e : j = k
    · subst e
      cases ha.symm.trans ha'
      rw [if_pos (by omega)]
      exact (g3 _ _ _ _ _ ha).same W
    · have f1 := g3 _ _ _ _ _ ha'
      obtain ⟨l2, p2, _⟩ := c2 _ _ _ _ _ ha'
      have e3 : (j < k + 1) = (j < k) := propext ⟨fun q => by omega, fun q => by omega⟩
      simp only [e3]
      exact f1.other W (Or.inr (slot_ne l2 l1 (fun e2 => c5 _ _ _ _ _ _ _ _ _ _ ha' ha e e2) p2 p1))
  · by_cases e : j = k
    · subst e
      cases ha.symm.trans ha'
      have e32 : (Int32.ofInt (len : Int)).toNatClampNeg = len := by
        unfold Int32.toNatClampNeg
        rw [ti32 ⟨by omega, by omega⟩]; simp
      refine ⟨_, A.other W (nne (by omega)), by rw [sz_new, e32], fun i hi => ?_⟩
      rw [hO]
      refine ⟨?_, okT0 t1⟩
      simp [newA, e32, hi, dflt_fv t1]
    · obtain ⟨c, A', s, g⟩ := g4 _ _ _ _ _ ha' (by omega)
      exact ⟨c, A'.other W (nne (by omega)), s, g⟩
theorem HS.wr (H : HS Z D n0 P os sz h) (hq : os[q]? = some (b, k, O)) {a sl : Nat} {v : Value} {k' : Nat} {O' : Mo} (h1 : b ≤ a) (h2 : a ≤ b + D.AS.length) (W : Wr h h' a sl v) (hO : Obj Z D b k' O' h') : HS Z D n0 P (os.set q (b, k', O')) sz h' := by
  obtain ⟨g1, g2, g3, g4, g5, g6⟩ := H
  have hlt : q < os.length := (List.getElem?_eq_some_iff.mp hq).1
  have key : ∀ q2 b2 k2 O2, (os.set q (b, k', O'))[q2]? = some (b2, k2, O2) → (q2 = q ∧ b2 = b ∧ k2 = k' ∧ O2 = O') ∨ (q2 ≠ q ∧ os[q2]? = some (b2, k2, O2)) := fun q2 b2 k2 O2 e => by
    rw [List.getElem?_set] at e
    split at e
    · rename_i e2; subst e2
      cases e; exact Or.inl ⟨rfl, rfl, rfl, rfl⟩
    · rename_i e2; exact Or.inr ⟨fun e3 => e2 e3.symm, e⟩
  refine ⟨by rw [W.size]; exact g1, g2, fun q2 b2 k2 O2 e => ?_, fun q2 q3 b2 k2 O2 b3 k3 O3 e2 e3 ne => ?_, g5, (g3 _ _ _ _ hq).2.2 h h' a sl v h1 h2 W g6⟩
  · rcases key _ _ _ _ e with ⟨rfl, rfl, rfl, rfl⟩ | ⟨ne, e⟩
    · exact ⟨hO, (g3 _ _ _ _ hq).2⟩
    · obtain ⟨m1, m2⟩ := g3 _ _ _ _ e
      refine ⟨m1.other W ?_, m2⟩
      have := g4 _ _ _ _ _ _ _ _ e hq ne
      omega
  · rcases key _ _ _ _ e2 with ⟨rfl, rfl, rfl, rfl⟩ | ⟨ne2, f2⟩
    · rcases key _ _ _ _ e3 with ⟨rfl, rfl, rfl, rfl⟩ | ⟨ne3, f3⟩
      · exact absurd rfl ne
      · exact g4 _ _ _ _ _ _ _ _ hq f3 ne
    · rcases key _ _ _ _ e3 with ⟨rfl, rfl, rfl, rfl⟩ | ⟨ne3, f3⟩
      · exact g4 _ _ _ _ _ _ _ _ f2 hq ne
      · exact g4 _ _ _ _ _ _ _ _ f2 f3 ne
theorem HS.ext (H : HS Z D n0 P os sz h) (E : Ext h h') : HS Z D n0 P os h'.size h' := by
  obtain ⟨g1, g2, g3, g4, g5, g6⟩ := H
  exact ⟨rfl, by have := E.1; omega, fun q2 b2 k2 O2 e => ⟨(g3 _ _ _ _ e).1.ext E, (g3 _ _ _ _ e).2⟩, g4, g5, g5 _ _ E g6⟩
theorem HS.new (cw : CW Z a0 D) (H : HS Z D n0 P os sz h) (hk : ∀ o ∈ os, o.2.1 = D.AS.length) (hP : ∀ b, n0 ≤ b → StB D b P) (E : Ext h h') (hs : h'.size = sz + 1) (A : Exa Z h' h.size D.C)
    (F : ∀ {O nm d : String} {ty : FieldType}, Laid Z a0 D.C O nm d → parseFieldDescriptor d = some ty → Fld Z h' h.size O nm d (defaultValue ty)) : HS Z D n0 P (os ++ [(sz, 0, zM)]) (sz + 1) h' := by
  obtain ⟨g1, g2, g3, g4, g5, g6⟩ := H
  subst g1
  obtain ⟨c1, c2, c3, c4, c5⟩ := cw
  have key : ∀ q2 b2 k2 O2, (os ++ [(h.size, 0, zM)])[q2]? = some (b2, k2, O2) → (q2 < os.length ∧ os[q2]? = some (b2, k2, O2)) ∨ (q2 = os.length ∧ b2 = h.size ∧ k2 = 0 ∧ O2 = zM) := fun q2 b2 k2 O2 e => by
    by_cases l : q2 < os.length
    · rw [List.getElem?_append_left l] at e; exact Or.inl ⟨l, e⟩
    · rw [List.getElem?_append_right (by omega)] at e
      have : q2 - os.length = 0 := by have := (List.getElem?_eq_some_iff.mp e).1; simp at this; omega
      rw [this] at e
      simp at e
      exact Or.inr ⟨by omega, e.1.symm, e.2.1.symm, e.2.2.symm⟩
  have low : ∀ q2 b2 k2 O2, os[q2]? = some (b2, k2, O2) → b2 + D.AS.length < h.size := fun q2 b2 k2 O2 e => (g3 _ _ _ _ e).1.top (hk _ (List.mem_of_getElem? e))
  refine ⟨hs, by omega, fun q2 b2 k2 O2 e => ?_, fun q2 q3 b2 k2 O2 b3 k3 O3 e2 e3 ne => ?_, g5, g5 _ _ E g6⟩
  · rcases key _ _ _ _ e with ⟨-, e⟩ | ⟨-, rfl, rfl, rfl⟩
    · exact ⟨(g3 _ _ _ _ e).1.ext E, (g3 _ _ _ _ e).2⟩
    · refine ⟨⟨A, fun i n d t hf => ?_, fun j n d t len ha => ?_, fun j n d t len ha hj => absurd hj (by omega)⟩, by omega, hP _ (by omega)⟩
      · obtain ⟨l1, p1, t1⟩ := c1 _ _ _ _ hf
        have := F l1 p1
        rw [dflt_fv t1] at this
        exact ⟨this, okT0 t1⟩
      · obtain ⟨l1, p1, t1, -⟩ := c2 _ _ _ _ _ ha
        have := F l1 p1
        rw [if_neg (by omega)]
        exact this
  · rcases key _ _ _ _ e2 with ⟨-, e2⟩ | ⟨n2, rfl, rfl, rfl⟩ <;> rcases key _ _ _ _ e3 with ⟨-, e3⟩ | ⟨n3, rfl, rfl, rfl⟩
    · exact g4 _ _ _ _ _ _ _ _ e2 e3 ne
    · exact Or.inl (low _ _ _ _ e2)
    · exact Or.inr (low _ _ _ _ e3)
    · omega
/-- all objects but the q-th, with P: what a call on the q-th keeps -/
def Rest (Z : State) (D : Cls) (P : Heap → Prop) (os : List OB) (q : Nat) (h : Heap) : Prop := P h ∧ ∀ (q' b k : Nat) (O : Mo), q' ≠ q → os[q']? = some (b, k, O) → Obj Z D b k O h
theorem HS.split (H : HS Z D n0 P os sz h) (hq : os[q]? = some (b, k, O)) : HS Z D n0 (Rest Z D P os q) [(b, k, O)] sz h := by
  obtain ⟨g1, g2, g3, g4, g5, g6⟩ := H
  refine ⟨g1, g2, fun q2 b2 k2 O2 e => ?_, fun q2 q3 b2 k2 O2 b3 k3 O3 e2 e3 ne => ?_, fun x x' E hx => ⟨g5 _ _ E hx.1, fun q' b' k' O' n e => (hx.2 _ _ _ _ n e).ext E⟩, g6, fun q' b' k' O' n e => (g3 _ _ _ _ e).1⟩
  · have : q2 = 0 := by have := (List.getElem?_eq_some_iff.mp e).1; simp at this; omega
    subst this
    simp at e
    obtain ⟨rfl, rfl, rfl⟩ := e
    refine ⟨(g3 _ _ _ _ hq).1, (g3 _ _ _ _ hq).2.1, fun x x' a sl v l1 l2 W hx => ⟨(g3 _ _ _ _ hq).2.2 x x' a sl v l1 l2 W hx.1, fun q' b' k' O' n e => (hx.2 _ _ _ _ n e).other W ?_⟩⟩
    have := g4 _ _ _ _ _ _ _ _ e hq n
    omega
  · have h2 : q2 = 0 := by have := (List.getElem?_eq_some_iff.mp e2).1; simp at this; omega
    have h3 : q3 = 0 := by have := (List.getElem?_eq_some_iff.mp e3).1; simp at this; omega
    omega
theorem HS.merge (H : HS Z D n0 P os sz h) (hq : os[q]? = some (b, k, O)) {k' : Nat} {O' : Mo} {sz' : Nat} (M : HS Z D n0 (Rest Z D P os q) [(b, k', O')] sz' h') : HS Z D n0 P (os.set q (b, k', O')) sz' h' := by
  obtain ⟨g1, g2, g3, g4, g5, g6⟩ := H
  obtain ⟨m1, m2, m3, m4, m5, m6⟩ := M
  have hlt : q < os.length := (List.getElem?_eq_some_iff.mp hq).1
  have key : ∀ q2 b2 k2 O2, (os.set q (b, k', O'))[q2]? = some (b2, k2, O2) → (q2 = q ∧ b2 = b ∧ k2 = k' ∧ O2 = O') ∨ (q2 ≠ q ∧ os[q2]? = some (b2, k2, O2)) := fun q2 b2 k2 O2 e => by
    rw [List.getElem?_set] at e
    split at e
    · rename_i e2; subst e2
      cases e; exact Or.inl ⟨rfl, rfl, rfl, rfl⟩
    · rename_i e2; exact Or.inr ⟨fun e3 => e2 e3.symm, e⟩
  refine ⟨m1, m2, fun q2 b2 k2 O2 e => ?_, fun q2 q3 b2 k2 O2 b3 k3 O3 e2 e3 ne => ?_, g5, m6.1⟩
  · rcases key _ _ _ _ e with ⟨rfl, rfl, rfl, rfl⟩ | ⟨ne, e⟩
    · exact ⟨(m3 0 _ _ _ rfl).1, (g3 _ _ _ _ hq).2⟩
    · exact ⟨m6.2 _ _ _ _ ne e, (g3 _ _ _ _ e).2⟩
  · rcases key _ _ _ _ e2 with ⟨rfl, rfl, rfl, rfl⟩ | ⟨ne2, f2⟩
    · rcases key _ _ _ _ e3 with ⟨rfl, rfl, rfl, rfl⟩ | ⟨ne3, f3⟩
      · exact absurd rfl ne
      · exact g4 _ _ _ _ _ _ _ _ hq f3 ne
    · rcases key _ _ _ _ e3 with ⟨rfl, rfl, rfl, rfl⟩ | ⟨ne3, f3⟩
      · exact g4 _ _ _ _ _ _ _ _ f2 hq ne
      · exact g4 _ _ _ _ _ _ _ _ f2 f3 ne
def RestA (Z : State) (D : Cls) (P : Heap → Prop) (os : List OB) (h : Heap) : Prop := P h ∧ ∀ (q' b k : Nat) (O : Mo), os[q']? = some (b, k, O) → Obj Z D b k O h
theorem HS.split0 (H : HS Z D n0 P os sz h) : HS Z D n0 (RestA Z D P os) [] sz h := by
  obtain ⟨g1, g2, g3, g4, g5, g6⟩ := H
  exact ⟨g1, g2, fun q2 b2 k2 O2 e => by simp at e, fun q2 q3 b2 k2 O2 b3 k3 O3 e2 e3 ne => by simp at e2, fun x x' E hx => ⟨g5 _ _ E hx.1, fun q' b' k' O' e => (hx.2 _ _ _ _ e).ext E⟩, g6, fun q' b' k' O' e => (g3 _ _ _ _ e).1⟩
theorem HS.merge0 (H : HS Z D n0 P os sz h) {sz' : Nat} (M : HS Z D n0 (RestA Z D P os) [] sz' h') : HS Z D n0 P os sz' h' := by
  obtain ⟨g1, g2, g3, g4, g5, g6⟩ := H
  obtain ⟨m1, m2, m3, m4, m5, m6⟩ := M
  exact ⟨m1, m2, fun q2 b2 k2 O2 e => ⟨m6.2 _ _ _ _ e, (g3 _ _ _ _ e).2⟩, g4, g5, m6.1⟩
end Heaps
section Runs
def Cx (Z : State) (y : MethodName) (bytes : ByteArray) (maxL : Nat) (ret : Option FieldType) (p : Program) (s : State) (m : MethodId) (meth : Method) (c : Code) : Prop :=
  p.tables.exec = Jvm.exec ∧ c.code = bytes ∧ c.maxLocals = maxL ∧ meth.sig.returnType = ret ∧ s.vm.findClass y.cls = some m.cls ∧ meth.name = y.name ∧ Z.Warmed39 s.vm ∧ meth.locks = false
/-- from here the method returns v, and leaves the objects os' -/
def Go (l : Launch) (Z : State) (D : Cls) (n0 : Nat) (P : Heap → Prop) (y : MethodName) (bytes : ByteArray) (maxL : Nat) (ret : Option FieldType) (R : Room)
    (pc : Nat) (L : List (Option V)) (S : List V) (os : List OB) (sz cu su : Nat) (Q : Option V → Heap → Prop) : Prop :=
  ∀ (p : Program) (e : Env) (s : State) (m : MethodId) (args : Array Value) (below : List Frame) (meth : Method) (c : Code), Cx Z y bytes maxL ret p s m meth c →
  ∀ (T : State) (locs : List Loc), Stand p l e R s m args below meth c T locs cu su → HS Z D n0 P os sz T.heap → sz = s.heap.size + cu → Fr n0 locs → ∀ Ls : Array Slot, Ls.size = maxL → LocRel L Ls → okS S →
  ∃ (s₂ : State) (locs' : List Loc) (cu' su' : Nat) (v : Option V), Steps p.tables e below (T.setTop (mkF m pc Ls (S.map rv))) s₂ ∧ s₂.status = .running ∧ Ended s₂ below (.returned (v.map rv)) ∧ s.WarmedH s₂.vm ∧
    s.sameButNew ({ s₂ with vm := s.vm } : State) locs' cu' su' ∧ cu' ≤ R.cells ∧ su' ≤ R.slots ∧ Q v s₂.heap ∧ Fr n0 locs' ∧ (∀ w, v = some w → okV w)
variable {l : Launch} {Z : State} {a0 : Array Value} {D : Cls} {n0 : Nat} {P : Heap → Prop} {y : MethodName} {bytes : ByteArray} {maxL : Nat} {ret : Option FieldType} {R : Room} {pc pc2 pc3 : Nat} {L L2 : List (Option V)} {S S2 : List V} {os os2 os' : List OB} {sz sz2 sz' cu cu2 su su2 : Nat} {v : Option V} {Q : Option V → Heap → Prop}
theorem okS_cons {u : V} (h : okV u) (hS : okS S) : okS (u :: S) := fun w hw => (List.mem_cons.mp hw).elim (fun e => e ▸ h) (hS w)
theorem okS_tail {u : V} (hS : okS (u :: S)) : okS S := fun w hw => hS w (List.mem_cons_of_mem _ hw)
theorem okS_head {u : V} (hS : okS (u :: S)) : okV u := hS u (List.mem_cons_self ..)
theorem Go.step (h : Go l Z D n0 P y bytes maxL ret R pc2 L2 S2 os2 sz2 cu2 su2 Q)
    (hs : ∀ (p : Program) (e : Env) (s : State) (m : MethodId) (args : Array Value) (below : List Frame) (meth : Method) (c : Code), Cx Z y bytes maxL ret p s m meth c →
      ∀ (T : State) (locs : List Loc), Stand p l e R s m args below meth c T locs cu su → HS Z D n0 P os sz T.heap → sz = s.heap.size + cu → Fr n0 locs → ∀ Ls : Array Slot, Ls.size = maxL → LocRel L Ls → okS S →
      ∃ (T2 : State) (locs2 : List Loc) (Ls2 : Array Slot), Stand p l e R s m args below meth c T2 locs2 cu2 su2 ∧ HS Z D n0 P os2 sz2 T2.heap ∧ sz2 = s.heap.size + cu2 ∧ Fr n0 locs2 ∧ Ls2.size = maxL ∧ LocRel L2 Ls2 ∧ okS S2 ∧
        ∀ target, Steps p.tables e below (T2.setTop (mkF m pc2 Ls2 (S2.map rv))) target → Steps p.tables e below (T.setTop (mkF m pc Ls (S.map rv))) target) :
    Go l Z D n0 P y bytes maxL ret R pc L S os sz cu su Q := by
  intro p e s m args below meth c hc T locs X H hz hF Ls hl hL hS
  obtain ⟨T2, locs2, Ls2, X2, H2, hz2, hF2, hl2, hL2, hS2, st⟩ := hs p e s m args below meth c hc T locs X H hz hF Ls hl hL hS
  obtain ⟨s2, locs', cu', su', v, g, r⟩ := h p e s m args below meth c hc T2 locs2 X2 H2 hz2 hF2 Ls2 hl2 hL2 hS2
  exact ⟨s2, locs', cu', su', v, st _ g, r⟩
theorem Go.pure (h : Go l Z D n0 P y bytes maxL ret R pc2 L S2 os sz cu su Q)
    (hok : ∀ Ls, LocRel L Ls → okS S → okS S2)
    (hs : ∀ (p : Program) (e : Env) (s : State) (m : MethodId) (args : Array Value) (below : List Frame) (meth : Method) (c : Code), Cx Z y bytes maxL ret p s m meth c →
      ∀ (T : State) (locs : List Loc), Stand p l e R s m args below meth c T locs cu su → HS Z D n0 P os sz T.heap → ∀ Ls : Array Slot, Ls.size = maxL → LocRel L Ls → okS S →
        ∀ target, Steps p.tables e below (T.setTop (mkF m pc2 Ls (S2.map rv))) target → Steps p.tables e below (T.setTop (mkF m pc Ls (S.map rv))) target) :
    Go l Z D n0 P y bytes maxL ret R pc L S os sz cu su Q :=
  Go.step h fun p e s m args below meth c hc T locs X H hz hF Ls hl hL hS => ⟨T, locs, Ls, X, H, hz, hF, hl, hL, hok Ls hL hS, hs p e s m args below meth c hc T locs X H Ls hl hL hS⟩
theorem Go.mask (bs : List Bool) (h : Go l Z D n0 P y bytes maxL ret R pc (mask bs L) S os sz cu su Q) : Go l Z D n0 P y bytes maxL ret R pc L S os sz cu su Q :=
  Go.step h fun p e s m args below meth c hc T locs X H hz hF Ls hl hL hS => ⟨T, locs, Ls, X, H, hz, hF, hl, hL.mask bs, hS, fun _ k => k⟩

theorem Go.iloadN {k : Fin 4} {x : Int} (hd : decode bytes pc = .ok (.iload_n k, 1)) (hp : pc + 1 = pc2) (hx : L[k.val]? = some (some (vI x))) (h : Go l Z D n0 P y bytes maxL ret R pc2 L (vI x :: S) os sz cu su Q) : Go l Z D n0 P y bytes maxL ret R pc L S os sz cu su Q := by
  subst hp
  refine Go.pure h (fun Ls hL hS => okS_cons (hL.2.2 _ _ hx).2 hS) (fun p e s m args below meth c hc T locs X H Ls hl hL hS target hr => ?_)
  exact XS.iloadN X.here hc.1 rfl (hb hc.2.1 hd) (hL.2.2 _ _ hx).1 hr
theorem Go.iload {k : Nat} {x : Int} (hd : decode bytes pc = .ok (.iload k, 2)) (hp : pc + 2 = pc2) (hx : L[k]? = some (some (vI x))) (h : Go l Z D n0 P y bytes maxL ret R pc2 L (vI x :: S) os sz cu su Q) : Go l Z D n0 P y bytes maxL ret R pc L S os sz cu su Q := by
  subst hp
  refine Go.pure h (fun Ls hL hS => okS_cons (hL.2.2 _ _ hx).2 hS) (fun p e s m args below meth c hc T locs X H Ls hl hL hS target hr => ?_)
  exact XS.iload X.here hc.1 rfl (hb hc.2.1 hd) (hL.2.2 _ _ hx).1 hr
theorem Go.lloadN {k : Fin 4} {x : Int} (hd : decode bytes pc = .ok (.lload_n k, 1)) (hp : pc + 1 = pc2) (hx : L[k.val]? = some (some (vJ x))) (h : Go l Z D n0 P y bytes maxL ret R pc2 L (vJ x :: S) os sz cu su Q) : Go l Z D n0 P y bytes maxL ret R pc L S os sz cu su Q := by
  subst hp
  refine Go.pure h (fun Ls hL hS => okS_cons (hL.2.2 _ _ hx).2 hS) (fun p e s m args below meth c hc T locs X H Ls hl hL hS target hr => ?_)
  exact XT.lloadN X.here hc.1 rfl (hb hc.2.1 hd) (hL.2.2 _ _ hx).1 hr
theorem Go.lload {k : Nat} {x : Int} (hd : decode bytes pc = .ok (.lload k, 2)) (hp : pc + 2 = pc2) (hx : L[k]? = some (some (vJ x))) (h : Go l Z D n0 P y bytes maxL ret R pc2 L (vJ x :: S) os sz cu su Q) : Go l Z D n0 P y bytes maxL ret R pc L S os sz cu su Q := by
  subst hp
  refine Go.pure h (fun Ls hL hS => okS_cons (hL.2.2 _ _ hx).2 hS) (fun p e s m args below meth c hc T locs X H Ls hl hL hS target hr => ?_)
  exact XT.lload X.here hc.1 rfl (hb hc.2.1 hd) (hL.2.2 _ _ hx).1 hr
theorem Go.aloadN {k : Fin 4} {x : Nat} (hd : decode bytes pc = .ok (.aload_n k, 1)) (hp : pc + 1 = pc2) (hx : L[k.val]? = some (some (vR x))) (h : Go l Z D n0 P y bytes maxL ret R pc2 L (vR x :: S) os sz cu su Q) : Go l Z D n0 P y bytes maxL ret R pc L S os sz cu su Q := by
  subst hp
  refine Go.pure h (fun Ls hL hS => okS_cons (hL.2.2 _ _ hx).2 hS) (fun p e s m args below meth c hc T locs X H Ls hl hL hS target hr => ?_)
  exact XS.aloadN X.here hc.1 rfl (hb hc.2.1 hd) (hL.2.2 _ _ hx).1 rfl hr
theorem Go.aload {k : Nat} {x : Nat} (hd : decode bytes pc = .ok (.aload k, 2)) (hp : pc + 2 = pc2) (hx : L[k]? = some (some (vR x))) (h : Go l Z D n0 P y bytes maxL ret R pc2 L (vR x :: S) os sz cu su Q) : Go l Z D n0 P y bytes maxL ret R pc L S os sz cu su Q := by
  subst hp
  refine Go.pure h (fun Ls hL hS => okS_cons (hL.2.2 _ _ hx).2 hS) (fun p e s m args below meth c hc T locs X H Ls hl hL hS target hr => ?_)
  exact XS.aload X.here hc.1 rfl (hb hc.2.1 hd) (hL.2.2 _ _ hx).1 rfl hr
theorem Go.istoreN {k : Fin 4} {x : Int} (hd : decode bytes pc = .ok (.istore_n k, 1)) (hp : pc + 1 = pc2) (hk : k.val < L.length) (hL2 : st1 L k.val (vI x) = L2) (h : Go l Z D n0 P y bytes maxL ret R pc2 L2 S os sz cu su Q) : Go l Z D n0 P y bytes maxL ret R pc L (vI x :: S) os sz cu su Q := by
  subst hp hL2
  refine Go.step h fun p e s m args below meth c hc T locs X H hz hF Ls hl hL hS => ?_
  obtain ⟨Ls', e1, e2⟩ := st1_ok hL hk (okS_head hS) (fun _ q => by cases q)
  exact ⟨T, locs, Ls', X, H, hz, hF, by rw [← hl, e2.1, hL.1]; simp [st2, st1_len], e2, okS_tail hS, fun target hr => XS.istoreN X.here hc.1 rfl (hb hc.2.1 hd) rfl e1 hr⟩
theorem Go.istore {k : Nat} {x : Int} (hd : decode bytes pc = .ok (.istore k, 2)) (hp : pc + 2 = pc2) (hk : k < L.length) (hL2 : st1 L k (vI x) = L2) (h : Go l Z D n0 P y bytes maxL ret R pc2 L2 S os sz cu su Q) : Go l Z D n0 P y bytes maxL ret R pc L (vI x :: S) os sz cu su Q := by
  subst hp hL2
  refine Go.step h fun p e s m args below meth c hc T locs X H hz hF Ls hl hL hS => ?_
  obtain ⟨Ls', e1, e2⟩ := st1_ok hL hk (okS_head hS) (fun _ q => by cases q)
  exact ⟨T, locs, Ls', X, H, hz, hF, by rw [← hl, e2.1, hL.1]; simp [st2, st1_len], e2, okS_tail hS, fun target hr => XS.istore X.here hc.1 rfl (hb hc.2.1 hd) rfl e1 hr⟩
theorem Go.astoreN {k : Fin 4} {x : Nat} (hd : decode bytes pc = .ok (.astore_n k, 1)) (hp : pc + 1 = pc2) (hk : k.val < L.length) (hL2 : st1 L k.val (vR x) = L2) (h : Go l Z D n0 P y bytes maxL ret R pc2 L2 S os sz cu su Q) : Go l Z D n0 P y bytes maxL ret R pc L (vR x :: S) os sz cu su Q := by
  subst hp hL2
  refine Go.step h fun p e s m args below meth c hc T locs X H hz hF Ls hl hL hS => ?_
  obtain ⟨Ls', e1, e2⟩ := st1_ok hL hk (okS_head hS) (fun _ q => by cases q)
  exact ⟨T, locs, Ls', X, H, hz, hF, by rw [← hl, e2.1, hL.1]; simp [st2, st1_len], e2, okS_tail hS, fun target hr => XS.astoreN X.here hc.1 rfl (hb hc.2.1 hd) rfl rfl e1 hr⟩
theorem Go.astore {k : Nat} {x : Nat} (hd : decode bytes pc = .ok (.astore k, 2)) (hp : pc + 2 = pc2) (hk : k < L.length) (hL2 : st1 L k (vR x) = L2) (h : Go l Z D n0 P y bytes maxL ret R pc2 L2 S os sz cu su Q) : Go l Z D n0 P y bytes maxL ret R pc L (vR x :: S) os sz cu su Q := by
  subst hp hL2
  refine Go.step h fun p e s m args below meth c hc T locs X H hz hF Ls hl hL hS => ?_
  obtain ⟨Ls', e1, e2⟩ := st1_ok hL hk (okS_head hS) (fun _ q => by cases q)
  exact ⟨T, locs, Ls', X, H, hz, hF, by rw [← hl, e2.1, hL.1]; simp [st2, st1_len], e2, okS_tail hS, fun target hr => XS.astore X.here hc.1 rfl (hb hc.2.1 hd) rfl rfl e1 hr⟩
theorem Go.lstoreN {k : Fin 4} {x : Int} (hd : decode bytes pc = .ok (.lstore_n k, 1)) (hp : pc + 1 = pc2) (hk : k.val + 1 < L.length) (hL2 : st2 L k.val x = L2) (h : Go l Z D n0 P y bytes maxL ret R pc2 L2 S os sz cu su Q) : Go l Z D n0 P y bytes maxL ret R pc L (vJ x :: S) os sz cu su Q := by
  subst hp hL2
  refine Go.step h fun p e s m args below meth c hc T locs X H hz hF Ls hl hL hS => ?_
  obtain ⟨Ls', e1, e2⟩ := st2_ok hL hk (okS_head hS)
  exact ⟨T, locs, Ls', X, H, hz, hF, by rw [← hl, e2.1, hL.1]; simp [st2, st1_len], e2, okS_tail hS, fun target hr => XT.lstoreN X.here hc.1 rfl (hb hc.2.1 hd) rfl e1 hr⟩
theorem Go.lstore {k : Nat} {x : Int} (hd : decode bytes pc = .ok (.lstore k, 2)) (hp : pc + 2 = pc2) (hk : k + 1 < L.length) (hL2 : st2 L k x = L2) (h : Go l Z D n0 P y bytes maxL ret R pc2 L2 S os sz cu su Q) : Go l Z D n0 P y bytes maxL ret R pc L (vJ x :: S) os sz cu su Q := by
  subst hp hL2
  refine Go.step h fun p e s m args below meth c hc T locs X H hz hF Ls hl hL hS => ?_
  obtain ⟨Ls', e1, e2⟩ := st2_ok hL hk (okS_head hS)
  exact ⟨T, locs, Ls', X, H, hz, hF, by rw [← hl, e2.1, hL.1]; simp [st2, st1_len], e2, okS_tail hS, fun target hr => XT.lstore X.here hc.1 rfl (hb hc.2.1 hd) rfl e1 hr⟩
theorem Go.iconst {i : Int} (hd : decode bytes pc = .ok (.iconst i, 1)) (hp : pc + 1 = pc2) (hi : R32 i) (h : Go l Z D n0 P y bytes maxL ret R pc2 L (vI i :: S) os sz cu su Q) : Go l Z D n0 P y bytes maxL ret R pc L S os sz cu su Q := by
  subst hp
  refine Go.pure h (fun Ls hL hS => okS_cons hi hS) (fun p e s m args below meth c hc T locs X H Ls hl hL hS target hr => ?_)
  exact XS.iconst X.here hc.1 rfl (hb hc.2.1 hd) hr
theorem Go.bipush {i : Int} (hd : decode bytes pc = .ok (.bipush i, 2)) (hp : pc + 2 = pc2) (hi : (Int8.ofInt i).toInt32 = Int32.ofInt i ∧ R32 i) (h : Go l Z D n0 P y bytes maxL ret R pc2 L (vI i :: S) os sz cu su Q) : Go l Z D n0 P y bytes maxL ret R pc L S os sz cu su Q := by
  subst hp
  refine Go.pure h (fun Ls hL hS => okS_cons hi.2 hS) (fun p e s m args below meth c hc T locs X H Ls hl hL hS target hr => ?_)
  exact XS.bipush X.here hc.1 rfl (hb hc.2.1 hd) (by rw [hi.1]; exact hr)
theorem Go.sipush {i : Int} (hd : decode bytes pc = .ok (.sipush i, 3)) (hp : pc + 3 = pc2) (hi : (Int16.ofInt i).toInt32 = Int32.ofInt i ∧ R32 i) (h : Go l Z D n0 P y bytes maxL ret R pc2 L (vI i :: S) os sz cu su Q) : Go l Z D n0 P y bytes maxL ret R pc L S os sz cu su Q := by
  subst hp
  refine Go.pure h (fun Ls hL hS => okS_cons hi.2 hS) (fun p e s m args below meth c hc T locs X H Ls hl hL hS target hr => ?_)
  exact XS.sipush X.here hc.1 rfl (hb hc.2.1 hd) (by rw [hi.1]; exact hr)
theorem Go.lconst {k : Fin 2} {i : Int} (hd : decode bytes pc = .ok (.lconst k, 1)) (hp : pc + 1 = pc2) (hi : Int64.ofNat k.val = Int64.ofInt i ∧ R64 i) (h : Go l Z D n0 P y bytes maxL ret R pc2 L (vJ i :: S) os sz cu su Q) : Go l Z D n0 P y bytes maxL ret R pc L S os sz cu su Q := by
  subst hp
  refine Go.pure h (fun Ls hL hS => okS_cons hi.2 hS) (fun p e s m args below meth c hc T locs X H Ls hl hL hS target hr => ?_)
  exact XT.lconst X.here hc.1 rfl (hb hc.2.1 hd) (by rw [hi.1]; exact hr)
theorem Go.ldc {k : Nat} {w : Int32} {i : Int} (hd : decode bytes pc = .ok (.ldc k, 2)) (hp : pc + 2 = pc2) {own : String} (ho : y.cls = own) (wc : (Cond.constant own k w).before a0 Z = true) (hi : w = Int32.ofInt i ∧ R32 i) (h : Go l Z D n0 P y bytes maxL ret R pc2 L (vI i :: S) os sz cu su Q) : Go l Z D n0 P y bytes maxL ret R pc L S os sz cu su Q := by
  subst hp
  refine Go.pure h (fun Ls hL hS => okS_cons hi.2 hS) (fun p e s m args below meth c hc T locs X H Ls hl hL hS target hr => ?_)
  subst ho
  exact X.ldcI hc.1 hc.2.2.2.2.1 (mv hc.2.2.2.2.2.2.1 wc) rfl (hb hc.2.1 hd) (by rw [hi.1]; exact hr)
theorem Go.ldc2 {k : Nat} {w : Int64} {i : Int} (hd : decode bytes pc = .ok (.ldc2_w k, 3)) (hp : pc + 3 = pc2) {own : String} (ho : y.cls = own) (wc : (Cond.constantLong own k w).before a0 Z = true) (hi : w = Int64.ofInt i ∧ R64 i) (h : Go l Z D n0 P y bytes maxL ret R pc2 L (vJ i :: S) os sz cu su Q) : Go l Z D n0 P y bytes maxL ret R pc L S os sz cu su Q := by
  subst hp
  refine Go.pure h (fun Ls hL hS => okS_cons hi.2 hS) (fun p e s m args below meth c hc T locs X H Ls hl hL hS target hr => ?_)
  subst ho
  exact X.ldc2J hc.1 hc.2.2.2.2.1 (mv hc.2.2.2.2.2.2.1 wc) rfl (hb hc.2.1 hd) (by rw [hi.1]; exact hr)
theorem Go.iadd {x y' : Int} (hd : decode bytes pc = .ok (.iadd, 1)) (hp : pc + 1 = pc2) (h : Go l Z D n0 P y bytes maxL ret R pc2 L (vI (w32 (x + y')) :: S) os sz cu su Q) : Go l Z D n0 P y bytes maxL ret R pc L (vI y' :: vI x :: S) os sz cu su Q := by
  subst hp
  refine Go.pure h (fun Ls hL hS => okS_cons (rw32 _) (okS_tail (okS_tail hS))) (fun p e s m args below meth c hc T locs X H Ls hl hL hS target hr => ?_)
  exact XS.iadd X.here hc.1 rfl (hb hc.2.1 hd) rfl (by rw [add32o]; exact hr)
theorem Go.isub {x y' : Int} (hd : decode bytes pc = .ok (.isub, 1)) (hp : pc + 1 = pc2) (h : Go l Z D n0 P y bytes maxL ret R pc2 L (vI (w32 (x - y')) :: S) os sz cu su Q) : Go l Z D n0 P y bytes maxL ret R pc L (vI y' :: vI x :: S) os sz cu su Q := by
  subst hp
  refine Go.pure h (fun Ls hL hS => okS_cons (rw32 _) (okS_tail (okS_tail hS))) (fun p e s m args below meth c hc T locs X H Ls hl hL hS target hr => ?_)
  exact XS.isub X.here hc.1 rfl (hb hc.2.1 hd) rfl (by rw [sub32o]; exact hr)
theorem Go.imul {x y' : Int} (hd : decode bytes pc = .ok (.imul, 1)) (hp : pc + 1 = pc2) (h : Go l Z D n0 P y bytes maxL ret R pc2 L (vI (w32 (x * y')) :: S) os sz cu su Q) : Go l Z D n0 P y bytes maxL ret R pc L (vI y' :: vI x :: S) os sz cu su Q := by
  subst hp
  refine Go.pure h (fun Ls hL hS => okS_cons (rw32 _) (okS_tail (okS_tail hS))) (fun p e s m args below meth c hc T locs X H Ls hl hL hS target hr => ?_)
  exact XS.imul X.here hc.1 rfl (hb hc.2.1 hd) rfl (by rw [mul32o]; exact hr)
theorem Go.iand {x y' : Int} (hd : decode bytes pc = .ok (.iand, 1)) (hp : pc + 1 = pc2) (h : Go l Z D n0 P y bytes maxL ret R pc2 L (vI (and32 x y') :: S) os sz cu su Q) : Go l Z D n0 P y bytes maxL ret R pc L (vI y' :: vI x :: S) os sz cu su Q := by
  subst hp
  refine Go.pure h (fun Ls hL hS => okS_cons (r32t _) (okS_tail (okS_tail hS))) (fun p e s m args below meth c hc T locs X H Ls hl hL hS target hr => ?_)
  exact XS.iand X.here hc.1 rfl (hb hc.2.1 hd) rfl (by rw [← of32 (Int32.ofInt x &&& Int32.ofInt y')]; exact hr)
theorem Go.ior {x y' : Int} (hd : decode bytes pc = .ok (.ior, 1)) (hp : pc + 1 = pc2) (h : Go l Z D n0 P y bytes maxL ret R pc2 L (vI (or32 x y') :: S) os sz cu su Q) : Go l Z D n0 P y bytes maxL ret R pc L (vI y' :: vI x :: S) os sz cu su Q := by
  subst hp
  refine Go.pure h (fun Ls hL hS => okS_cons (r32t _) (okS_tail (okS_tail hS))) (fun p e s m args below meth c hc T locs X H Ls hl hL hS target hr => ?_)
  exact XT.ior X.here hc.1 rfl (hb hc.2.1 hd) rfl (by rw [← of32 (Int32.ofInt x ||| Int32.ofInt y')]; exact hr)
theorem Go.ixor {x y' : Int} (hd : decode bytes pc = .ok (.ixor, 1)) (hp : pc + 1 = pc2) (h : Go l Z D n0 P y bytes maxL ret R pc2 L (vI (xor32 x y') :: S) os sz cu su Q) : Go l Z D n0 P y bytes maxL ret R pc L (vI y' :: vI x :: S) os sz cu su Q := by
  subst hp
  refine Go.pure h (fun Ls hL hS => okS_cons (r32t _) (okS_tail (okS_tail hS))) (fun p e s m args below meth c hc T locs X H Ls hl hL hS target hr => ?_)
  exact XT.ixor X.here hc.1 rfl (hb hc.2.1 hd) rfl (by rw [← of32 (Int32.ofInt x ^^^ Int32.ofInt y')]; exact hr)
theorem Go.ishl {x y' : Int} (hd : decode bytes pc = .ok (.ishl, 1)) (hp : pc + 1 = pc2) (h : Go l Z D n0 P y bytes maxL ret R pc2 L (vI (shl32 x y') :: S) os sz cu su Q) : Go l Z D n0 P y bytes maxL ret R pc L (vI y' :: vI x :: S) os sz cu su Q := by
  subst hp
  refine Go.pure h (fun Ls hL hS => okS_cons (r32t _) (okS_tail (okS_tail hS))) (fun p e s m args below meth c hc T locs X H Ls hl hL hS target hr => ?_)
  exact XT.ishl X.here hc.1 rfl (hb hc.2.1 hd) rfl (by rw [← of32 (Int32.ofInt x <<< (Int32.ofInt y' &&& 31))]; exact hr)
theorem Go.ishr {x y' : Int} (hd : decode bytes pc = .ok (.ishr, 1)) (hp : pc + 1 = pc2) (h : Go l Z D n0 P y bytes maxL ret R pc2 L (vI (shr32 x y') :: S) os sz cu su Q) : Go l Z D n0 P y bytes maxL ret R pc L (vI y' :: vI x :: S) os sz cu su Q := by
  subst hp
  refine Go.pure h (fun Ls hL hS => okS_cons (r32t _) (okS_tail (okS_tail hS))) (fun p e s m args below meth c hc T locs X H Ls hl hL hS target hr => ?_)
  exact XT.ishr X.here hc.1 rfl (hb hc.2.1 hd) rfl (by rw [← of32 (Int32.ofInt x >>> (Int32.ofInt y' &&& 31))]; exact hr)
theorem Go.iushr {x y' : Int} (hd : decode bytes pc = .ok (.iushr, 1)) (hp : pc + 1 = pc2) (h : Go l Z D n0 P y bytes maxL ret R pc2 L (vI (ushr32 x y') :: S) os sz cu su Q) : Go l Z D n0 P y bytes maxL ret R pc L (vI y' :: vI x :: S) os sz cu su Q := by
  subst hp
  refine Go.pure h (fun Ls hL hS => okS_cons (r32t _) (okS_tail (okS_tail hS))) (fun p e s m args below meth c hc T locs X H Ls hl hL hS target hr => ?_)
  exact XT.iushr X.here hc.1 rfl (hb hc.2.1 hd) rfl (by rw [← of32 (XT.ushr (Int32.ofInt x) (Int32.ofInt y'))]; exact hr)
theorem Go.ladd {x y' : Int} (hd : decode bytes pc = .ok (.ladd, 1)) (hp : pc + 1 = pc2) (h : Go l Z D n0 P y bytes maxL ret R pc2 L (vJ (w64 (x + y')) :: S) os sz cu su Q) : Go l Z D n0 P y bytes maxL ret R pc L (vJ y' :: vJ x :: S) os sz cu su Q := by
  subst hp
  refine Go.pure h (fun Ls hL hS => okS_cons (rw64 _) (okS_tail (okS_tail hS))) (fun p e s m args below meth c hc T locs X H Ls hl hL hS target hr => ?_)
  exact XT.ladd X.here hc.1 rfl (hb hc.2.1 hd) rfl (by rw [add64o]; exact hr)
theorem Go.lsub {x y' : Int} (hd : decode bytes pc = .ok (.lsub, 1)) (hp : pc + 1 = pc2) (h : Go l Z D n0 P y bytes maxL ret R pc2 L (vJ (w64 (x - y')) :: S) os sz cu su Q) : Go l Z D n0 P y bytes maxL ret R pc L (vJ y' :: vJ x :: S) os sz cu su Q := by
  subst hp
  refine Go.pure h (fun Ls hL hS => okS_cons (rw64 _) (okS_tail (okS_tail hS))) (fun p e s m args below meth c hc T locs X H Ls hl hL hS target hr => ?_)
  exact XT.lsub X.here hc.1 rfl (hb hc.2.1 hd) rfl (by rw [sub64o]; exact hr)
theorem Go.lmul {x y' : Int} (hd : decode bytes pc = .ok (.lmul, 1)) (hp : pc + 1 = pc2) (h : Go l Z D n0 P y bytes maxL ret R pc2 L (vJ (w64 (x * y')) :: S) os sz cu su Q) : Go l Z D n0 P y bytes maxL ret R pc L (vJ y' :: vJ x :: S) os sz cu su Q := by
  subst hp
  refine Go.pure h (fun Ls hL hS => okS_cons (rw64 _) (okS_tail (okS_tail hS))) (fun p e s m args below meth c hc T locs X H Ls hl hL hS target hr => ?_)
  exact XT.lmul X.here hc.1 rfl (hb hc.2.1 hd) rfl (by rw [mul64o]; exact hr)
theorem Go.land {x y' : Int} (hd : decode bytes pc = .ok (.land, 1)) (hp : pc + 1 = pc2) (h : Go l Z D n0 P y bytes maxL ret R pc2 L (vJ (and64 x y') :: S) os sz cu su Q) : Go l Z D n0 P y bytes maxL ret R pc L (vJ y' :: vJ x :: S) os sz cu su Q := by
  subst hp
  refine Go.pure h (fun Ls hL hS => okS_cons (r64t _) (okS_tail (okS_tail hS))) (fun p e s m args below meth c hc T locs X H Ls hl hL hS target hr => ?_)
  exact XT.land X.here hc.1 rfl (hb hc.2.1 hd) rfl (by rw [← of64 (Int64.ofInt x &&& Int64.ofInt y')]; exact hr)
theorem Go.lor {x y' : Int} (hd : decode bytes pc = .ok (.lor, 1)) (hp : pc + 1 = pc2) (h : Go l Z D n0 P y bytes maxL ret R pc2 L (vJ (or64 x y') :: S) os sz cu su Q) : Go l Z D n0 P y bytes maxL ret R pc L (vJ y' :: vJ x :: S) os sz cu su Q := by
  subst hp
  refine Go.pure h (fun Ls hL hS => okS_cons (r64t _) (okS_tail (okS_tail hS))) (fun p e s m args below meth c hc T locs X H Ls hl hL hS target hr => ?_)
  exact XT.lor X.here hc.1 rfl (hb hc.2.1 hd) rfl (by rw [← of64 (Int64.ofInt x ||| Int64.ofInt y')]; exact hr)
theorem Go.lxor {x y' : Int} (hd : decode bytes pc = .ok (.lxor, 1)) (hp : pc + 1 = pc2) (h : Go l Z D n0 P y bytes maxL ret R pc2 L (vJ (xor64 x y') :: S) os sz cu su Q) : Go l Z D n0 P y bytes maxL ret R pc L (vJ y' :: vJ x :: S) os sz cu su Q := by
  subst hp
  refine Go.pure h (fun Ls hL hS => okS_cons (r64t _) (okS_tail (okS_tail hS))) (fun p e s m args below meth c hc T locs X H Ls hl hL hS target hr => ?_)
  exact XT.lxor X.here hc.1 rfl (hb hc.2.1 hd) rfl (by rw [← of64 (Int64.ofInt x ^^^ Int64.ofInt y')]; exact hr)
theorem Go.idiv {x y' : Int} (hd : decode bytes pc = .ok (.idiv, 1)) (hp : pc + 1 = pc2) (hy : y' ≠ 0) (h : Go l Z D n0 P y bytes maxL ret R pc2 L (vI (w32 (x.tdiv y')) :: S) os sz cu su Q) : Go l Z D n0 P y bytes maxL ret R pc L (vI y' :: vI x :: S) os sz cu su Q := by
  subst hp
  refine Go.pure h (fun Ls hL hS => okS_cons (rw32 _) (okS_tail (okS_tail hS))) (fun p e s m args below meth c hc T locs X H Ls hl hL hS target hr => ?_)
  exact XS.idiv X.here hc.1 rfl (hb hc.2.1 hd) rfl (fun q => hy ((eq32 (okS_head hS) (by decide)).mp (q.trans rfl))) (by rw [div32o (okS_head (okS_tail hS)) (okS_head hS)]; exact hr)
theorem Go.irem {x y' : Int} (hd : decode bytes pc = .ok (.irem, 1)) (hp : pc + 1 = pc2) (hy : y' ≠ 0) (h : Go l Z D n0 P y bytes maxL ret R pc2 L (vI (w32 (x.tmod y')) :: S) os sz cu su Q) : Go l Z D n0 P y bytes maxL ret R pc L (vI y' :: vI x :: S) os sz cu su Q := by
  subst hp
  refine Go.pure h (fun Ls hL hS => okS_cons (rw32 _) (okS_tail (okS_tail hS))) (fun p e s m args below meth c hc T locs X H Ls hl hL hS target hr => ?_)
  exact XS.irem X.here hc.1 rfl (hb hc.2.1 hd) rfl (fun q => hy ((eq32 (okS_head hS) (by decide)).mp (q.trans rfl))) (by rw [rem32o (okS_head (okS_tail hS)) (okS_head hS)]; exact hr)
theorem Go.ldiv {x y' : Int} (hd : decode bytes pc = .ok (.ldiv, 1)) (hp : pc + 1 = pc2) (hy : y' ≠ 0) (h : Go l Z D n0 P y bytes maxL ret R pc2 L (vJ (w64 (x.tdiv y')) :: S) os sz cu su Q) : Go l Z D n0 P y bytes maxL ret R pc L (vJ y' :: vJ x :: S) os sz cu su Q := by
  subst hp
  refine Go.pure h (fun Ls hL hS => okS_cons (rw64 _) (okS_tail (okS_tail hS))) (fun p e s m args below meth c hc T locs X H Ls hl hL hS target hr => ?_)
  exact XT.ldiv X.here hc.1 rfl (hb hc.2.1 hd) rfl (fun q => hy ((eq64 (okS_head hS) (by decide)).mp (q.trans rfl))) (by rw [div64o (okS_head (okS_tail hS)) (okS_head hS)]; exact hr)
theorem Go.lrem {x y' : Int} (hd : decode bytes pc = .ok (.lrem, 1)) (hp : pc + 1 = pc2) (hy : y' ≠ 0) (h : Go l Z D n0 P y bytes maxL ret R pc2 L (vJ (w64 (x.tmod y')) :: S) os sz cu su Q) : Go l Z D n0 P y bytes maxL ret R pc L (vJ y' :: vJ x :: S) os sz cu su Q := by
  subst hp
  refine Go.pure h (fun Ls hL hS => okS_cons (rw64 _) (okS_tail (okS_tail hS))) (fun p e s m args below meth c hc T locs X H Ls hl hL hS target hr => ?_)
  exact XT.lrem X.here hc.1 rfl (hb hc.2.1 hd) rfl (fun q => hy ((eq64 (okS_head hS) (by decide)).mp (q.trans rfl))) (by rw [rem64o (okS_head (okS_tail hS)) (okS_head hS)]; exact hr)
theorem Go.lshl {x y' : Int} (hd : decode bytes pc = .ok (.lshl, 1)) (hp : pc + 1 = pc2) (h : Go l Z D n0 P y bytes maxL ret R pc2 L (vJ (shl64 x y') :: S) os sz cu su Q) : Go l Z D n0 P y bytes maxL ret R pc L (vI y' :: vJ x :: S) os sz cu su Q := by
  subst hp
  refine Go.pure h (fun Ls hL hS => okS_cons (r64t _) (okS_tail (okS_tail hS))) (fun p e s m args below meth c hc T locs X H Ls hl hL hS target hr => ?_)
  exact XT.lshl X.here hc.1 rfl (hb hc.2.1 hd) rfl (by rw [← of64 (Int64.ofInt x <<< ((Int32.ofInt y').toInt64 &&& 63))]; exact hr)
theorem Go.lshr {x y' : Int} (hd : decode bytes pc = .ok (.lshr, 1)) (hp : pc + 1 = pc2) (h : Go l Z D n0 P y bytes maxL ret R pc2 L (vJ (shr64 x y') :: S) os sz cu su Q) : Go l Z D n0 P y bytes maxL ret R pc L (vI y' :: vJ x :: S) os sz cu su Q := by
  subst hp
  refine Go.pure h (fun Ls hL hS => okS_cons (r64t _) (okS_tail (okS_tail hS))) (fun p e s m args below meth c hc T locs X H Ls hl hL hS target hr => ?_)
  exact XT.lshr X.here hc.1 rfl (hb hc.2.1 hd) rfl (by rw [← of64 (Int64.ofInt x >>> ((Int32.ofInt y').toInt64 &&& 63))]; exact hr)
theorem Go.lushr {x y' : Int} (hd : decode bytes pc = .ok (.lushr, 1)) (hp : pc + 1 = pc2) (h : Go l Z D n0 P y bytes maxL ret R pc2 L (vJ (ushr64 x y') :: S) os sz cu su Q) : Go l Z D n0 P y bytes maxL ret R pc L (vI y' :: vJ x :: S) os sz cu su Q := by
  subst hp
  refine Go.pure h (fun Ls hL hS => okS_cons (r64t _) (okS_tail (okS_tail hS))) (fun p e s m args below meth c hc T locs X H Ls hl hL hS target hr => ?_)
  exact XT.lushr X.here hc.1 rfl (hb hc.2.1 hd) rfl (by rw [← of64 (XT.ushrL (Int64.ofInt x) (Int32.ofInt y'))]; exact hr)
theorem Go.ineg {x : Int} (hd : decode bytes pc = .ok (.ineg, 1)) (hp : pc + 1 = pc2) (h : Go l Z D n0 P y bytes maxL ret R pc2 L (vI (w32 (-x)) :: S) os sz cu su Q) : Go l Z D n0 P y bytes maxL ret R pc L (vI x :: S) os sz cu su Q := by
  subst hp
  refine Go.pure h (fun Ls hL hS => okS_cons (rw32 _) (okS_tail hS)) (fun p e s m args below meth c hc T locs X H Ls hl hL hS target hr => ?_)
  exact XS.ineg X.here hc.1 rfl (hb hc.2.1 hd) rfl (by rw [neg32o]; exact hr)
theorem Go.lneg {x : Int} (hd : decode bytes pc = .ok (.lneg, 1)) (hp : pc + 1 = pc2) (h : Go l Z D n0 P y bytes maxL ret R pc2 L (vJ (w64 (-x)) :: S) os sz cu su Q) : Go l Z D n0 P y bytes maxL ret R pc L (vJ x :: S) os sz cu su Q := by
  subst hp
  refine Go.pure h (fun Ls hL hS => okS_cons (rw64 _) (okS_tail hS)) (fun p e s m args below meth c hc T locs X H Ls hl hL hS target hr => ?_)
  exact XT.lneg X.here hc.1 rfl (hb hc.2.1 hd) rfl (by rw [neg64o]; exact hr)
theorem Go.i2l {x : Int} (hd : decode bytes pc = .ok (.i2l, 1)) (hp : pc + 1 = pc2) (h : Go l Z D n0 P y bytes maxL ret R pc2 L (vJ x :: S) os sz cu su Q) : Go l Z D n0 P y bytes maxL ret R pc L (vI x :: S) os sz cu su Q := by
  subst hp
  refine Go.pure h (fun Ls hL hS => okS_cons (show R64 x from ⟨by have := (okS_head hS).1; omega, by have := (okS_head hS).2; omega⟩) (okS_tail hS)) (fun p e s m args below meth c hc T locs X H Ls hl hL hS target hr => ?_)
  exact XT.i2l X.here hc.1 rfl (hb hc.2.1 hd) rfl (by rw [i2l_o (okS_head hS)]; exact hr)
theorem Go.l2i {x : Int} (hd : decode bytes pc = .ok (.l2i, 1)) (hp : pc + 1 = pc2) (h : Go l Z D n0 P y bytes maxL ret R pc2 L (vI (w32 x) :: S) os sz cu su Q) : Go l Z D n0 P y bytes maxL ret R pc L (vJ x :: S) os sz cu su Q := by
  subst hp
  refine Go.pure h (fun Ls hL hS => okS_cons (rw32 _) (okS_tail hS)) (fun p e s m args below meth c hc T locs X H Ls hl hL hS target hr => ?_)
  exact XT.l2i X.here hc.1 rfl (hb hc.2.1 hd) rfl (by rw [l2i_o]; exact hr)
theorem Go.i2b {x : Int} (hd : decode bytes pc = .ok (.i2b, 1)) (hp : pc + 1 = pc2) (h : Go l Z D n0 P y bytes maxL ret R pc2 L (vI (w8 x) :: S) os sz cu su Q) : Go l Z D n0 P y bytes maxL ret R pc L (vI x :: S) os sz cu su Q := by
  subst hp
  refine Go.pure h (fun Ls hL hS => okS_cons (show R32 (w8 x) from ⟨by have := r8 x; omega, by have := r8 x; omega⟩) (okS_tail hS)) (fun p e s m args below meth c hc T locs X H Ls hl hL hS target hr => ?_)
  exact XT.i2b X.here hc.1 rfl (hb hc.2.1 hd) rfl (by rw [i2b_o]; exact hr)
theorem Go.dup {u : V} (hd : decode bytes pc = .ok (.dup, 1)) (hp : pc + 1 = pc2) (hu : (rv u).category = 1) (h : Go l Z D n0 P y bytes maxL ret R pc2 L (u :: u :: S) os sz cu su Q) : Go l Z D n0 P y bytes maxL ret R pc L (u :: S) os sz cu su Q := by
  subst hp
  refine Go.pure h (fun Ls hL hS => okS_cons (okS_head hS) hS) (fun p e s m args below meth c hc T locs X H Ls hl hL hS target hr => ?_)
  exact XS.dup X.here hc.1 rfl (hb hc.2.1 hd) rfl hu hr
theorem Go.pop {u : V} (hd : decode bytes pc = .ok (.pop, 1)) (hp : pc + 1 = pc2) (hu : (rv u).category = 1) (h : Go l Z D n0 P y bytes maxL ret R pc2 L S os sz cu su Q) : Go l Z D n0 P y bytes maxL ret R pc L (u :: S) os sz cu su Q := by
  subst hp
  refine Go.pure h (fun Ls hL hS => okS_tail hS) (fun p e s m args below meth c hc T locs X H Ls hl hL hS target hr => ?_)
  exact XT.pop X.here hc.1 rfl (hb hc.2.1 hd) rfl hu hr
theorem Go.dup2 {u w : V} (hd : decode bytes pc = .ok (.dup2, 1)) (hp : pc + 1 = pc2) (hu : (rv u).category = 1) (hw : (rv w).category = 1) (h : Go l Z D n0 P y bytes maxL ret R pc2 L (u :: w :: u :: w :: S) os sz cu su Q) : Go l Z D n0 P y bytes maxL ret R pc L (u :: w :: S) os sz cu su Q := by
  subst hp
  refine Go.pure h (fun Ls hL hS => okS_cons (okS_head hS) (okS_cons (okS_head (okS_tail hS)) hS)) (fun p e s m args below meth c hc T locs X H Ls hl hL hS target hr => ?_)
  exact XT.dup2 X.here hc.1 rfl (hb hc.2.1 hd) rfl hu hw hr
theorem Go.iinc {k : Nat} {i x : Int} (hd : decode bytes pc = .ok (.iinc k i, 3)) (hp : pc + 3 = pc2) (hx : L[k]? = some (some (vI x))) (hL2 : st1 L k (vI (w32 (x + i))) = L2) (h : Go l Z D n0 P y bytes maxL ret R pc2 L2 S os sz cu su Q) : Go l Z D n0 P y bytes maxL ret R pc L S os sz cu su Q := by
  subst hp hL2
  refine Go.step h fun p e s m args below meth c hc T locs X H hz hF Ls hl hL hS => ?_
  obtain ⟨Ls', e1, e2⟩ := st1_ok (u := vI (w32 (x + i))) hL (List.getElem?_eq_some_iff.mp hx).1 (rw32 _) (fun _ q => by cases q)
  exact ⟨T, locs, Ls', X, H, hz, hF, by rw [← hl, e2.1, hL.1]; simp [st1_len], e2, hS, fun target hr => XS.iinc X.here hc.1 rfl (hb hc.2.1 hd) (hL.2.2 _ _ hx).1 (by rw [add32o]; exact e1) hr⟩
def cmp : ClassFile.Cond → Int → Int → Prop
  | .eq, x, y => x = y
  | .ne, x, y => ¬ x = y
  | .lt, x, y => x < y
  | .ge, x, y => y ≤ x
  | .gt, x, y => y < x
  | .le, x, y => x ≤ y
theorem cmp_icmp {cd : ClassFile.Cond} {x y : Int} (hx : R32 x) (hy : R32 y) : if_icmp.holds cd (Int32.ofInt x) (Int32.ofInt y) = true ↔ cmp cd x y := by
  cases cd <;> simp [if_icmp.holds, cmp, eq32 hx hy, lt32 hx hy, lt32 hy hx, Int32.le_iff_toInt_le, ti32 hx, ti32 hy]
theorem cmp_if {cd : ClassFile.Cond} {x : Int} (hx : R32 x) : ifCond.holds cd (Int32.ofInt x) = true ↔ cmp cd x 0 := by
  have h0 : R32 0 := by decide
  have e0 : (0 : Int32) = Int32.ofInt 0 := rfl
  have e1 : (Int32.ofInt 0).toInt = 0 := rfl
  cases cd <;> simp only [ifCond.holds, cmp, e0, beq_iff_eq, bne_iff_ne, ne_eq, decide_eq_true_eq, gt_iff_lt, ge_iff_le, eq32 hx h0, lt32 hx h0, lt32 h0 hx, Int32.le_iff_toInt_le, ti32 hx, e1]
theorem cmp_l {cd : ClassFile.Cond} {x y : Int} (hx : R64 x) (hy : R64 y) : ifCond.holds cd (XT.cmpL (Int64.ofInt x) (Int64.ofInt y)) = true ↔ cmp cd x y := by
  have key : XT.cmpL (Int64.ofInt x) (Int64.ofInt y) = if y < x then 1 else if x = y then 0 else -1 := by
    unfold XT.cmpL; simp only [lt64 hy hx, eq64 hx hy]
  rw [key]
  by_cases a : y < x
  · rw [if_pos a]; cases cd <;> simp [ifCond.holds, cmp] <;> omega
  · rw [if_neg a]
    by_cases b : x = y
    · rw [if_pos b]; cases cd <;> simp [ifCond.holds, cmp] <;> omega
    · rw [if_neg b]; cases cd <;> simp [ifCond.holds, cmp] <;> omega
theorem Go.icmpT {cd : ClassFile.Cond} {o x y' : Int} (hd : decode bytes pc = .ok (.if_icmp cd o, 3)) (hc' : cmp cd x y') (ho : 0 ≤ (pc : Int) + o) (hp : ((pc : Int) + o).toNat = pc2) (h : Go l Z D n0 P y bytes maxL ret R pc2 L S os sz cu su Q) : Go l Z D n0 P y bytes maxL ret R pc L (vI y' :: vI x :: S) os sz cu su Q :=
  Go.pure h (fun Ls hL hS => okS_tail (okS_tail hS)) fun p e s m args below meth c hc T locs X H Ls hl hL hS target hr => XS.icmpYes X.here hc.1 rfl rfl (hb hc.2.1 hd) rfl ((cmp_icmp (okS_head (okS_tail hS)) (okS_head hS)).mpr hc') ho hp hr
theorem Go.icmpF {cd : ClassFile.Cond} {o x y' : Int} (hd : decode bytes pc = .ok (.if_icmp cd o, 3)) (hc' : ¬ cmp cd x y') (hp : pc + 3 = pc2) (h : Go l Z D n0 P y bytes maxL ret R pc2 L S os sz cu su Q) : Go l Z D n0 P y bytes maxL ret R pc L (vI y' :: vI x :: S) os sz cu su Q := by
  subst hp
  exact Go.pure h (fun Ls hL hS => okS_tail (okS_tail hS)) fun p e s m args below meth c hc T locs X H Ls hl hL hS target hr => XS.icmpNo X.here hc.1 rfl (hb hc.2.1 hd) rfl (Bool.eq_false_iff.mpr fun q => hc' ((cmp_icmp (okS_head (okS_tail hS)) (okS_head hS)).mp q)) hr
theorem Go.ifT {cd : ClassFile.Cond} {o x : Int} (hd : decode bytes pc = .ok (.ifCond cd o, 3)) (hc' : cmp cd x 0) (ho : 0 ≤ (pc : Int) + o) (hp : ((pc : Int) + o).toNat = pc2) (h : Go l Z D n0 P y bytes maxL ret R pc2 L S os sz cu su Q) : Go l Z D n0 P y bytes maxL ret R pc L (vI x :: S) os sz cu su Q :=
  Go.pure h (fun Ls hL hS => okS_tail hS) fun p e s m args below meth c hc T locs X H Ls hl hL hS target hr => XS.ifYes X.here hc.1 rfl rfl (hb hc.2.1 hd) rfl ((cmp_if (okS_head hS)).mpr hc') ho hp hr
theorem Go.ifF {cd : ClassFile.Cond} {o x : Int} (hd : decode bytes pc = .ok (.ifCond cd o, 3)) (hc' : ¬ cmp cd x 0) (hp : pc + 3 = pc2) (h : Go l Z D n0 P y bytes maxL ret R pc2 L S os sz cu su Q) : Go l Z D n0 P y bytes maxL ret R pc L (vI x :: S) os sz cu su Q := by
  subst hp
  exact Go.pure h (fun Ls hL hS => okS_tail hS) fun p e s m args below meth c hc T locs X H Ls hl hL hS target hr => XS.ifNo X.here hc.1 rfl (hb hc.2.1 hd) rfl (Bool.eq_false_iff.mpr fun q => hc' ((cmp_if (okS_head hS)).mp q)) hr
theorem Go.lcmpT {cd : ClassFile.Cond} {o x y' : Int} (hd : decode bytes pc = .ok (.lcmp, 1)) (hd2 : decode bytes pc3 = .ok (.ifCond cd o, 3)) (hp3 : pc + 1 = pc3) (hc' : cmp cd x y') (ho : 0 ≤ (pc3 : Int) + o) (hp : ((pc3 : Int) + o).toNat = pc2) (h : Go l Z D n0 P y bytes maxL ret R pc2 L S os sz cu su Q) : Go l Z D n0 P y bytes maxL ret R pc L (vJ y' :: vJ x :: S) os sz cu su Q := by
  subst hp3
  exact Go.pure h (fun Ls hL hS => okS_tail (okS_tail hS)) fun p e s m args below meth c hc T locs X H Ls hl hL hS target hr => XT.lcmp X.here hc.1 rfl (hb hc.2.1 hd) rfl (XS.ifYes X.here hc.1 rfl (pc0 := pc + 1) rfl (hb hc.2.1 hd2) rfl ((cmp_l (okS_head (okS_tail hS)) (okS_head hS)).mpr hc') ho hp hr)
theorem Go.lcmpF {cd : ClassFile.Cond} {o x y' : Int} (hd : decode bytes pc = .ok (.lcmp, 1)) (hd2 : decode bytes pc3 = .ok (.ifCond cd o, 3)) (hp3 : pc + 1 = pc3) (hc' : ¬ cmp cd x y') (hp : pc3 + 3 = pc2) (h : Go l Z D n0 P y bytes maxL ret R pc2 L S os sz cu su Q) : Go l Z D n0 P y bytes maxL ret R pc L (vJ y' :: vJ x :: S) os sz cu su Q := by
  subst hp3 hp
  exact Go.pure h (fun Ls hL hS => okS_tail (okS_tail hS)) fun p e s m args below meth c hc T locs X H Ls hl hL hS target hr => XT.lcmp X.here hc.1 rfl (hb hc.2.1 hd) rfl (XS.ifNo X.here hc.1 rfl (hb hc.2.1 hd2) rfl (Bool.eq_false_iff.mpr fun q => hc' ((cmp_l (okS_head (okS_tail hS)) (okS_head hS)).mp q)) hr)
theorem Go.goto {o : Int} (hd : decode bytes pc = .ok (.goto o, 3)) (ho : 0 ≤ (pc : Int) + o) (hp : ((pc : Int) + o).toNat = pc2) (h : Go l Z D n0 P y bytes maxL ret R pc2 L S os sz cu su Q) : Go l Z D n0 P y bytes maxL ret R pc L S os sz cu su Q :=
  Go.pure h (fun Ls hL hS => hS) fun p e s m args below meth c hc T locs X H Ls hl hL hS target hr => XS.goto X.here hc.1 rfl rfl (hb hc.2.1 hd) ho hp hr
theorem Go.getf {k q b kk i : Nat} {O : Mo} {n d : String} {t : FieldType} {x : Int} (hd : decode bytes pc = .ok (.getfield k, 3)) (hp : pc + 3 = pc2) {own C : String} (ho : y.cls = own) (hC : D.C = C) (w : (Cond.fieldLink own k C n d).before a0 Z = true) (hq : os[q]? = some (b, kk, O)) {u : V} (hf : (i, n, d, t) ∈ D.FS) (hx : O 0 i = x) (hu : tv t x = u)
    (h : Go l Z D n0 P y bytes maxL ret R pc2 L (u :: S) os sz cu su Q) : Go l Z D n0 P y bytes maxL ret R pc L (vR b :: S) os sz cu su Q := by
  subst hp hx hu ho hC
  refine Go.step h fun p e s m args below meth c hc T locs X H hz hF Ls hl hL hS => ?_
  obtain ⟨f1, f2⟩ := (H.2.2.1 _ _ _ _ hq).1.2.1 _ _ _ _ hf
  obtain ⟨T', X', eT, st⟩ := getF X hc.1 hc.2.2.2.2.2.2.1 hc.2.2.2.2.1 (host := "") (Or.inl w) Via.refl rfl f1 (g := mkF m pc Ls (rv (vR b) :: S.map rv)) rfl rfl (hb hc.2.1 hd)
  exact ⟨T', locs, Ls, X', by rw [eT]; exact H, hz, hF, hl, hL, okS_cons (okV_tv f2) (okS_tail hS), fun target hr => st _ (by rw [List.map_cons, rv_tv] at hr; exact hr)⟩
theorem Go.geta {k q b kk j len : Nat} {O : Mo} {n d : String} {t : FieldType} {a : Nat} (hd : decode bytes pc = .ok (.getfield k, 3)) (hp : pc + 3 = pc2) {own C : String} (ho : y.cls = own) (hC : D.C = C) (w : (Cond.fieldLink own k C n d).before a0 Z = true) (hq : os[q]? = some (b, kk, O)) (ha : D.AS[j]? = some (n, d, t, len)) (hj : j < kk) (hx : b + j + 1 = a)
    (h : Go l Z D n0 P y bytes maxL ret R pc2 L (vR a :: S) os sz cu su Q) : Go l Z D n0 P y bytes maxL ret R pc L (vR b :: S) os sz cu su Q := by
  subst hp hx ho hC
  refine Go.step h fun p e s m args below meth c hc T locs X H hz hF Ls hl hL hS => ?_
  have f1 := (H.2.2.1 _ _ _ _ hq).1.2.2.1 _ _ _ _ _ ha
  rw [if_pos hj] at f1
  obtain ⟨T', X', eT, st⟩ := getF X hc.1 hc.2.2.2.2.2.2.1 hc.2.2.2.2.1 (host := "") (Or.inl w) Via.refl rfl f1 (g := mkF m pc Ls (rv (vR b) :: S.map rv)) rfl rfl (hb hc.2.1 hd)
  exact ⟨T', locs, Ls, X', by rw [eT]; exact H, hz, hF, hl, hL, okS_cons trivial (okS_tail hS), fun target hr => st _ hr⟩
theorem Go.putf {k q b kk i kx : Nat} {O : Mo} {n d : String} {t : FieldType} {x x' : Int} (cw : CW Z a0 D) (hd : decode bytes pc = .ok (.putfield k, 3)) (hp : pc + 3 = pc2) {own C : String} (ho : y.cls = own) (hC : D.C = C) (w : (Cond.fieldLink own k C n d).before a0 Z = true) (wl : (Cond.lays C C n d).before a0 Z = true ∨ ((Cond.laysFinal C C n d).before a0 Z = true ∧ own = C ∧ y.name = "<init>")) (wi : (Cond.instantiable C kx).before a0 Z = true) (hq : os[q]? = some (b, kk, O)) {u : V} (hf : (i, n, d, t) ∈ D.FS) (hu : tv t x = u) (hx : norm t x = x') (hos : os.set q (b, kk, upd O 0 i x') = os2)
    (h : Go l Z D n0 P y bytes maxL ret R pc2 L S os2 sz cu su Q) : Go l Z D n0 P y bytes maxL ret R pc L (u :: vR b :: S) os sz cu su Q := by
  subst hp hx hos hu ho hC
  refine Go.step h fun p e s m args below meth c hc T locs X H hz hF Ls hl hL hS => ?_
  have HO := (H.2.2.1 _ _ _ _ hq).1
  obtain ⟨f1, f2⟩ := HO.2.1 _ _ _ _ hf
  obtain ⟨-, p1, t1⟩ := cw.1 _ _ _ _ hf
  obtain ⟨m1, m2, m3⟩ := norm_ok t1 (okS_head hS)
  obtain ⟨T', h', X', eT, W, st⟩ := putFN X hc.1 hc.2.2.2.2.2.2.1 hc.2.2.2.2.1 w Via.refl rfl f1 HO.1 (wl.imp id fun q => ⟨q.1, q.2.1, hc.2.2.2.2.2.1.trans q.2.2⟩) wi p1 m1 m2 (g := mkF m pc Ls (fv t x :: rv (vR b) :: S.map rv)) rfl rfl (hb hc.2.1 hd)
  subst eT
  exact ⟨T', _, Ls, X', H.wr hq (Nat.le_refl _) (Nat.le_add_right _ _) W (HO.putf cw hf W m3), hz, Fr.snoc X' hF (H.2.2.1 _ _ _ _ hq).2.1, hl, hL, okS_tail (okS_tail hS), fun target hr => by rw [List.map_cons, rv_tv]; exact st _ hr⟩
theorem Go.mkarr {k q b kk len kx : Nat} {O : Mo} {n d : String} {aty : ArrayType} {x : Int} (cw : CW Z a0 D) (hd : decode bytes pc = .ok (.newarray aty, 2)) (hd2 : decode bytes pc3 = .ok (.putfield k, 3)) (hp3 : pc + 2 = pc3) (hp : pc3 + 3 = pc2) (wa : (Cond.arrayClass (newarray.typeOf aty)).before a0 Z = true) {own C : String} (ho : y.cls = own) (hC : D.C = C) (w : (Cond.fieldLink own k C n d).before a0 Z = true) (wl : (Cond.lays C C n d).before a0 Z = true ∨ ((Cond.laysFinal C C n d).before a0 Z = true ∧ own = C ∧ y.name = "<init>")) (wi : (Cond.instantiable C kx).before a0 Z = true)
    (hq : os[q]? = some (b, kk, O)) (ha : D.AS[kk]? = some (n, d, newarray.typeOf aty, len)) (hx : x = (len : Int)) (hO : ∀ i, O (kk + 1) i = 0) (hsz : sz = b + kk + 1) (hcu : cu + 1 ≤ R.cells) (hsu : su + len ≤ R.slots) (hos : os.set q (b, kk + 1, O) = os2) (hs2 : sz + 1 = sz2) (hcu2 : cu + 1 = cu2) (hsu2 : su + len = su2)
    (h : Go l Z D n0 P y bytes maxL ret R pc2 L S os2 sz2 cu2 su2 Q) : Go l Z D n0 P y bytes maxL ret R pc L (vI x :: vR b :: S) os sz cu su Q := by
  subst hp hp3 hx hos hs2 hcu2 hsu2 hsz ho hC
  refine Go.step h fun p e s m args below meth c hc T locs X H hz hF Ls hl hL hS => ?_
  have HO := (H.2.2.1 _ _ _ _ hq).1
  obtain ⟨-, p1, t1, lb⟩ := cw.2.1 _ _ _ _ _ ha
  have hr32 : R32 (len : Int) := ⟨by omega, by omega⟩
  have en : (Int32.ofInt (len : Int)).toNatClampNeg = len := by unfold Int32.toNatClampNeg; rw [ti32 hr32]; simp
  obtain ⟨T1, h1, cA, X1, e1, E1, A1, st1'⟩ := newP X hc.1 hc.2.2.2.2.2.2.1 wa rfl (g := mkF m pc Ls (rv (vI (len : Int)) :: rv (vR b) :: S.map rv)) rfl (hb hc.2.1 hd) rfl (by rw [show (0 : Int32) = Int32.ofInt 0 from rfl, lt32 hr32 (by decide)]; omega) (cap := len) (Nat.le_of_eq en) lb hcu hsu
  have hsz1 : T.heap.size = b + kk + 1 := H.1
  rw [hsz1] at A1 st1'
  subst e1
  have H1 := H.ext E1
  have f1 := (HO.ext E1).2.2.1 _ _ _ _ _ ha
  have hs1 : T1.heap.size = b + kk + 1 + 1 := by
    have u1 := X1.heapSize
    have u2 : b + kk + 1 < T1.heap.size := A1.lt
    have u3 : T1.heap.size ≤ s.heap.size + (cu + 1) := u1
    have u4 : b + kk + 1 = s.heap.size + cu := hz
    omega
  obtain ⟨T', h', X', eT, W, st⟩ := putFN X1 hc.1 hc.2.2.2.2.2.2.1 hc.2.2.2.2.1 w Via.refl rfl f1 (HO.ext E1).1 (wl.imp id fun q => ⟨q.1, q.2.1, hc.2.2.2.2.2.1.trans q.2.2⟩) wi p1 (v := .ref (b + kk + 1)) (v' := .ref (b + kk + 1)) rfl rfl (g := mkF m (pc + 2) Ls (.ref (b + kk + 1) :: rv (vR b) :: S.map rv)) rfl rfl (hb hc.2.1 hd2)
  subst eT
  have hlt : kk < D.AS.length := (List.getElem?_eq_some_iff.mp ha).1
  rw [hs1] at H1
  exact ⟨T', _, Ls, X', H1.wr hq (Nat.le_refl _) (Nat.le_add_right _ _) W (HO.mkArr cw ha E1 A1 W hO), by omega, Fr.snoc X' hF (H.2.2.1 _ _ _ _ hq).2.1, hl, hL, okS_tail (okS_tail hS), fun target hr => st1' _ (st _ hr)⟩
theorem idx_ok {x : Int} {len : Nat} (hx : R32 x) (h : 0 ≤ x ∧ x < (len : Int)) : ¬ (Int32.ofInt x < 0 ∨ len ≤ (Int32.ofInt x).toNatClampNeg) ∧ (Int32.ofInt x).toNatClampNeg = x.toNat := by
  have e : (Int32.ofInt x).toNatClampNeg = x.toNat := by unfold Int32.toNatClampNeg; rw [ti32 hx]
  refine ⟨?_, e⟩
  rw [e, show (0 : Int32) = Int32.ofInt 0 from rfl, lt32 hx (by decide)]
  omega
theorem Go.iald {q b kk j len a : Nat} {O : Mo} {n d : String} {x z : Int} (hd : decode bytes pc = .ok (.iaload, 1)) (hp : pc + 1 = pc2) (hq : os[q]? = some (b, kk, O)) (ha : D.AS[j]? = some (n, d, .int, len)) (hj : j < kk) (hadr : b + j + 1 = a) (hx : 0 ≤ x ∧ x < (len : Int)) (hz : O (j + 1) x.toNat = z)
    (h : Go l Z D n0 P y bytes maxL ret R pc2 L (vI z :: S) os sz cu su Q) : Go l Z D n0 P y bytes maxL ret R pc L (vI x :: vR a :: S) os sz cu su Q := by
  subst hp hz hadr
  refine Go.step h fun p e s m args below meth c hc T locs X H hz hF Ls hl hL hS => ?_
  obtain ⟨cl, A, hs, g⟩ := (H.2.2.1 _ _ _ _ hq).1.2.2.2 _ _ _ _ _ ha hj
  obtain ⟨i1, i2⟩ := idx_ok (okS_head hS) hx
  obtain ⟨g1, g2⟩ := g x.toNat (by omega)
  exact ⟨T, locs, Ls, X, H, hz, hF, hl, hL, okS_cons (okV_tv (t := .int) g2) (okS_tail (okS_tail hS)), fun target hr => X.iaload hc.1 A.1 (State.isArrayOf_alike hc.2.2.2.2.2.2.1.alike A.2.1) A.2.2 (by rw [hs]; exact i1) (by rw [i2]; exact g1) (g := mkF m pc Ls (rv (vI x) :: rv (vR (b + j + 1)) :: S.map rv)) rfl rfl (hb hc.2.1 hd) _ hr⟩
theorem Go.lald {q b kk j len a : Nat} {O : Mo} {n d : String} {x z : Int} (hd : decode bytes pc = .ok (.laload, 1)) (hp : pc + 1 = pc2) (hq : os[q]? = some (b, kk, O)) (ha : D.AS[j]? = some (n, d, .long, len)) (hj : j < kk) (hadr : b + j + 1 = a) (hx : 0 ≤ x ∧ x < (len : Int)) (hz : O (j + 1) x.toNat = z)
    (h : Go l Z D n0 P y bytes maxL ret R pc2 L (vJ z :: S) os sz cu su Q) : Go l Z D n0 P y bytes maxL ret R pc L (vI x :: vR a :: S) os sz cu su Q := by
  subst hp hz hadr
  refine Go.step h fun p e s m args below meth c hc T locs X H hz hF Ls hl hL hS => ?_
  obtain ⟨cl, A, hs, g⟩ := (H.2.2.1 _ _ _ _ hq).1.2.2.2 _ _ _ _ _ ha hj
  obtain ⟨i1, i2⟩ := idx_ok (okS_head hS) hx
  obtain ⟨g1, g2⟩ := g x.toNat (by omega)
  exact ⟨T, locs, Ls, X, H, hz, hF, hl, hL, okS_cons (okV_tv (t := .long) g2) (okS_tail (okS_tail hS)), fun target hr => X.laload hc.1 A.1 (State.isArrayOf_alike hc.2.2.2.2.2.2.1.alike A.2.1) A.2.2 (by rw [hs]; exact i1) (by rw [i2]; exact g1) (g := mkF m pc Ls (rv (vI x) :: rv (vR (b + j + 1)) :: S.map rv)) rfl rfl (hb hc.2.1 hd) _ hr⟩
theorem Go.bald {q b kk j len a : Nat} {O : Mo} {n d : String} {x z : Int} (hd : decode bytes pc = .ok (.baload, 1)) (hp : pc + 1 = pc2) (hq : os[q]? = some (b, kk, O)) (ha : D.AS[j]? = some (n, d, .byte, len)) (hj : j < kk) (hadr : b + j + 1 = a) (hx : 0 ≤ x ∧ x < (len : Int)) (hz : O (j + 1) x.toNat = z)
    (h : Go l Z D n0 P y bytes maxL ret R pc2 L (vI z :: S) os sz cu su Q) : Go l Z D n0 P y bytes maxL ret R pc L (vI x :: vR a :: S) os sz cu su Q := by
  subst hp hz hadr
  refine Go.step h fun p e s m args below meth c hc T locs X H hz hF Ls hl hL hS => ?_
  obtain ⟨cl, A, hs, g⟩ := (H.2.2.1 _ _ _ _ hq).1.2.2.2 _ _ _ _ _ ha hj
  obtain ⟨i1, i2⟩ := idx_ok (okS_head hS) hx
  obtain ⟨g1, g2⟩ := g x.toNat (by omega)
  exact ⟨T, locs, Ls, X, H, hz, hF, hl, hL, okS_cons (okV_tv (t := .byte) g2) (okS_tail (okS_tail hS)), fun target hr => X.baloadBytes hc.1 A.1 (State.isArrayOf_alike hc.2.2.2.2.2.2.1.alike A.2.1) A.2.2 (by rw [hs]; exact i1) (by rw [i2]; exact g1) (g := mkF m pc Ls (rv (vI x) :: rv (vR (b + j + 1)) :: S.map rv)) rfl rfl (hb hc.2.1 hd) _ hr⟩
theorem Go.zald {q b kk j len a : Nat} {O : Mo} {n d : String} {x z : Int} (hd : decode bytes pc = .ok (.baload, 1)) (hp : pc + 1 = pc2) (hq : os[q]? = some (b, kk, O)) (ha : D.AS[j]? = some (n, d, .boolean, len)) (hj : j < kk) (hadr : b + j + 1 = a) (hx : 0 ≤ x ∧ x < (len : Int)) (hz : O (j + 1) x.toNat = z)
    (h : Go l Z D n0 P y bytes maxL ret R pc2 L (vI z :: S) os sz cu su Q) : Go l Z D n0 P y bytes maxL ret R pc L (vI x :: vR a :: S) os sz cu su Q := by
  subst hp hz hadr
  refine Go.step h fun p e s m args below meth c hc T locs X H hz hF Ls hl hL hS => ?_
  obtain ⟨cl, A, hs, g⟩ := (H.2.2.1 _ _ _ _ hq).1.2.2.2 _ _ _ _ _ ha hj
  obtain ⟨i1, i2⟩ := idx_ok (okS_head hS) hx
  obtain ⟨g1, g2⟩ := g x.toNat (by omega)
  exact ⟨T, locs, Ls, X, H, hz, hF, hl, hL, okS_cons (okV_tv (t := .boolean) g2) (okS_tail (okS_tail hS)), fun target hr => X.baloadBooleans hc.1 A.1 (State.isArrayOf_alike hc.2.2.2.2.2.2.1.alike A.2.1) A.2.2 (by rw [hs]; exact i1) (by rw [i2]; exact g1) (g := mkF m pc Ls (rv (vI x) :: rv (vR (b + j + 1)) :: S.map rv)) rfl rfl (hb hc.2.1 hd) _ hr⟩
theorem Go.iast {q b kk j len a : Nat} {O : Mo} {n d : String} {x z z' : Int} (hd : decode bytes pc = .ok (.iastore, 1)) (hp : pc + 1 = pc2) (hq : os[q]? = some (b, kk, O)) (ha : D.AS[j]? = some (n, d, .int, len)) (hj : j < kk) (hadr : b + j + 1 = a) (hx : 0 ≤ x ∧ x < (len : Int)) (hz : norm .int z = z') (hos : os.set q (b, kk, upd O (j + 1) x.toNat z') = os2)
    (h : Go l Z D n0 P y bytes maxL ret R pc2 L S os2 sz cu su Q) : Go l Z D n0 P y bytes maxL ret R pc L (vI z :: vI x :: vR a :: S) os sz cu su Q := by
  subst hp hz hadr hos
  refine Go.step h fun p e s m args below meth c hc T locs X H hz hF Ls hl hL hS => ?_
  have HO := (H.2.2.1 _ _ _ _ hq).1
  obtain ⟨cl, A, hs, g⟩ := HO.2.2.2 _ _ _ _ _ ha hj
  obtain ⟨i1, i2⟩ := idx_ok (okS_head (okS_tail hS)) hx
  have m3 := (norm_ok (t := .int) (x := z) (by simp [pt]) (okS_head hS)).2.2
  obtain ⟨T', h', X', eT, W, st⟩ := stI X hc.1 hc.2.2.2.2.2.2.1 rfl A (by rw [hs]; exact i1) (g := mkF m pc Ls (rv (vI z) :: rv (vI x) :: rv (vR (b + j + 1)) :: S.map rv)) rfl rfl (hb hc.2.1 hd)
  subst eT
  have hlt : j < D.AS.length := (List.getElem?_eq_some_iff.mp ha).1
  have W2 := W
  rw [i2] at W2
  exact ⟨T', _, Ls, X', H.wr hq (by omega) (by omega) W2 (HO.puta ha hj (by omega) W2 m3), hz, Fr.snoc X' hF (by have := (H.2.2.1 _ _ _ _ hq).2.1; omega), hl, hL, okS_tail (okS_tail (okS_tail hS)), fun target hr => st _ hr⟩
theorem Go.last {q b kk j len a : Nat} {O : Mo} {n d : String} {x z z' : Int} (hd : decode bytes pc = .ok (.lastore, 1)) (hp : pc + 1 = pc2) (hq : os[q]? = some (b, kk, O)) (ha : D.AS[j]? = some (n, d, .long, len)) (hj : j < kk) (hadr : b + j + 1 = a) (hx : 0 ≤ x ∧ x < (len : Int)) (hz : norm .long z = z') (hos : os.set q (b, kk, upd O (j + 1) x.toNat z') = os2)
    (h : Go l Z D n0 P y bytes maxL ret R pc2 L S os2 sz cu su Q) : Go l Z D n0 P y bytes maxL ret R pc L (vJ z :: vI x :: vR a :: S) os sz cu su Q := by
  subst hp hz hadr hos
  refine Go.step h fun p e s m args below meth c hc T locs X H hz hF Ls hl hL hS => ?_
  have HO := (H.2.2.1 _ _ _ _ hq).1
  obtain ⟨cl, A, hs, g⟩ := HO.2.2.2 _ _ _ _ _ ha hj
  obtain ⟨i1, i2⟩ := idx_ok (okS_head (okS_tail hS)) hx
  have m3 := (norm_ok (t := .long) (x := z) (by simp [pt]) (okS_head hS)).2.2
  obtain ⟨T', h', X', eT, W, st⟩ := stJ X hc.1 hc.2.2.2.2.2.2.1 rfl A (by rw [hs]; exact i1) (g := mkF m pc Ls (rv (vJ z) :: rv (vI x) :: rv (vR (b + j + 1)) :: S.map rv)) rfl rfl (hb hc.2.1 hd)
  subst eT
  have hlt : j < D.AS.length := (List.getElem?_eq_some_iff.mp ha).1
  have W2 := W
  rw [i2] at W2
  exact ⟨T', _, Ls, X', H.wr hq (by omega) (by omega) W2 (HO.puta ha hj (by omega) W2 m3), hz, Fr.snoc X' hF (by have := (H.2.2.1 _ _ _ _ hq).2.1; omega), hl, hL, okS_tail (okS_tail (okS_tail hS)), fun target hr => st _ hr⟩
theorem Go.bast {q b kk j len a : Nat} {O : Mo} {n d : String} {x z z' : Int} (hd : decode bytes pc = .ok (.bastore, 1)) (hp : pc + 1 = pc2) (hq : os[q]? = some (b, kk, O)) (ha : D.AS[j]? = some (n, d, .byte, len)) (hj : j < kk) (hadr : b + j + 1 = a) (hx : 0 ≤ x ∧ x < (len : Int)) (hz : norm .byte z = z') (hos : os.set q (b, kk, upd O (j + 1) x.toNat z') = os2)
    (h : Go l Z D n0 P y bytes maxL ret R pc2 L S os2 sz cu su Q) : Go l Z D n0 P y bytes maxL ret R pc L (vI z :: vI x :: vR a :: S) os sz cu su Q := by
  subst hp hz hadr hos
  refine Go.step h fun p e s m args below meth c hc T locs X H hz hF Ls hl hL hS => ?_
  have HO := (H.2.2.1 _ _ _ _ hq).1
  obtain ⟨cl, A, hs, g⟩ := HO.2.2.2 _ _ _ _ _ ha hj
  obtain ⟨i1, i2⟩ := idx_ok (okS_head (okS_tail hS)) hx
  have m3 := (norm_ok (t := .byte) (x := z) (by simp [pt]) (okS_head hS)).2.2
  obtain ⟨T', h', X', eT, W, st⟩ := stB X hc.1 hc.2.2.2.2.2.2.1 rfl A (by rw [hs]; exact i1) (g := mkF m pc Ls (rv (vI z) :: rv (vI x) :: rv (vR (b + j + 1)) :: S.map rv)) rfl rfl (hb hc.2.1 hd)
  rw [show nar .byte (Int32.ofInt z) = (Int32.ofInt z).toInt8.toInt32 from rfl, i2b_o] at W
  subst eT
  have hlt : j < D.AS.length := (List.getElem?_eq_some_iff.mp ha).1
  have W2 := W
  rw [i2] at W2
  exact ⟨T', _, Ls, X', H.wr hq (by omega) (by omega) W2 (HO.puta ha hj (by omega) W2 m3), hz, Fr.snoc X' hF (by have := (H.2.2.1 _ _ _ _ hq).2.1; omega), hl, hL, okS_tail (okS_tail (okS_tail hS)), fun target hr => st _ hr⟩
theorem Go.zast {q b kk j len a : Nat} {O : Mo} {n d : String} {x z z' : Int} (hd : decode bytes pc = .ok (.bastore, 1)) (hp : pc + 1 = pc2) (hq : os[q]? = some (b, kk, O)) (ha : D.AS[j]? = some (n, d, .boolean, len)) (hj : j < kk) (hadr : b + j + 1 = a) (hx : 0 ≤ x ∧ x < (len : Int)) (hz : norm .boolean z = z') (hos : os.set q (b, kk, upd O (j + 1) x.toNat z') = os2)
    (h : Go l Z D n0 P y bytes maxL ret R pc2 L S os2 sz cu su Q) : Go l Z D n0 P y bytes maxL ret R pc L (vI z :: vI x :: vR a :: S) os sz cu su Q := by
  subst hp hz hadr hos
  refine Go.step h fun p e s m args below meth c hc T locs X H hz hF Ls hl hL hS => ?_
  have HO := (H.2.2.1 _ _ _ _ hq).1
  obtain ⟨cl, A, hs, g⟩ := HO.2.2.2 _ _ _ _ _ ha hj
  obtain ⟨i1, i2⟩ := idx_ok (okS_head (okS_tail hS)) hx
  have m3 := (norm_ok (t := .boolean) (x := z) (by simp [pt]) (okS_head hS)).2.2
  obtain ⟨T', h', X', eT, W, st⟩ := stZ X hc.1 hc.2.2.2.2.2.2.1 rfl A (by rw [hs]; exact i1) (g := mkF m pc Ls (rv (vI z) :: rv (vI x) :: rv (vR (b + j + 1)) :: S.map rv)) rfl rfl (hb hc.2.1 hd)
  rw [show nar .boolean (Int32.ofInt z) = Int32.ofInt z &&& 1 from rfl, and1_o] at W
  subst eT
  have hlt : j < D.AS.length := (List.getElem?_eq_some_iff.mp ha).1
  have W2 := W
  rw [i2] at W2
  exact ⟨T', _, Ls, X', H.wr hq (by omega) (by omega) W2 (HO.puta ha hj (by omega) W2 m3), hz, Fr.snoc X' hF (by have := (H.2.2.1 _ _ _ _ hq).2.1; omega), hl, hL, okS_tail (okS_tail (okS_tail hS)), fun target hr => st _ hr⟩
/-- an int array that was there at the start: read only -/
def Scr (Z : State) (a : Nat) (xs : List Int) (h : Heap) : Prop := ∃ c : Cell, Arr Z h a c .int ∧ c.slots.size = xs.length ∧ ∀ (i : Nat) (x : Int), xs[i]? = some x → c.slots[i]? = some (.int (Int32.ofInt x)) ∧ R32 x
theorem Go.sald {a : Nat} {xs : List Int} {x z : Int} (hd : decode bytes pc = .ok (.iaload, 1)) (hp : pc + 1 = pc2) (hP : ∀ h, P h → Scr Z a xs h) (hx : 0 ≤ x ∧ x < (xs.length : Int)) (hz : xs.getD x.toNat 0 = z)
    (h : Go l Z D n0 P y bytes maxL ret R pc2 L (vI z :: S) os sz cu su Q) : Go l Z D n0 P y bytes maxL ret R pc L (vI x :: vR a :: S) os sz cu su Q := by
  subst hp hz
  refine Go.step h fun p e s m args below meth c hc T locs X H hz hF Ls hl hL hS => ?_
  obtain ⟨cl, A, hs, g⟩ := hP _ H.2.2.2.2.2
  obtain ⟨i1, i2⟩ := idx_ok (okS_head hS) hx
  have hlt : x.toNat < xs.length := by omega
  have e : xs[x.toNat]? = some (xs.getD x.toNat 0) := by simp [List.getD, hlt]
  obtain ⟨g1, g2⟩ := g _ _ e
  exact ⟨T, locs, Ls, X, H, hz, hF, hl, hL, okS_cons g2 (okS_tail (okS_tail hS)), fun target hr => X.iaload hc.1 A.1 (State.isArrayOf_alike hc.2.2.2.2.2.2.1.alike A.2.1) A.2.2 (by rw [hs]; exact i1) (by rw [i2]; exact g1) (g := mkF m pc Ls (rv (vI x) :: rv (vR a) :: S.map rv)) rfl rfl (hb hc.2.1 hd) _ hr⟩
theorem Go.alen {a : Nat} {xs : List Int} (hd : decode bytes pc = .ok (.arraylength, 1)) (hp : pc + 1 = pc2) (hP : ∀ h, P h → Scr Z a xs h) (hb32 : xs.length < 2147483648)
    (h : Go l Z D n0 P y bytes maxL ret R pc2 L (vI (xs.length : Int) :: S) os sz cu su Q) : Go l Z D n0 P y bytes maxL ret R pc L (vR a :: S) os sz cu su Q := by
  subst hp
  refine Go.step h fun p e s m args below meth c hc T locs X H hz hF Ls hl hL hS => ?_
  obtain ⟨cl, A, hs, g⟩ := hP _ H.2.2.2.2.2
  exact ⟨T, locs, Ls, X, H, hz, hF, hl, hL, okS_cons (show R32 (xs.length : Int) from ⟨by omega, by omega⟩) (okS_tail hS), fun target hr => X.arraylength hc.1 A.1 (State.isArrayOf_alike hc.2.2.2.2.2.2.1.alike A.2.1) (g := mkF m pc Ls (rv (vR a) :: S.map rv)) rfl rfl (hb hc.2.1 hd) _ (by rw [hs, show xs.length.toInt32 = Int32.ofInt (xs.length : Int) from rfl]; exact hr)⟩
theorem Go.newo {k kx : Nat} (cw : CW Z a0 D) (hd : decode bytes pc = .ok (.new k, 3)) (hp : pc + 3 = pc2) {own C : String} (ho : y.cls = own) (hC : D.C = C) (w : (Cond.classLink own k C).before a0 Z = true) (wi : (Cond.instantiable C kx).before a0 Z = true) (wz : (Cond.initialized C).before a0 Z = true) (hk : ∀ o ∈ os, o.2.1 = D.AS.length) (hP : ∀ b, n0 ≤ b → StB D b P) (hcu : cu + 1 ≤ R.cells) (hsu : su + kx ≤ R.slots) (hos : os ++ [(sz, 0, zM)] = os2) (hs2 : sz + 1 = sz2) (hcu2 : cu + 1 = cu2) (hsu2 : su + kx = su2)
    (h : Go l Z D n0 P y bytes maxL ret R pc2 L (vR sz :: S) os2 sz2 cu2 su2 Q) : Go l Z D n0 P y bytes maxL ret R pc L S os sz cu su Q := by
  subst hp hos hs2 hcu2 hsu2 ho hC
  refine Go.step h fun p e s m args below meth c hc T locs X H hz hF Ls hl hL hS => ?_
  obtain ⟨T', h', X', eT, E, A, F, -, st⟩ := newO X hc.1 hc.2.2.2.2.2.2.1 hc.2.2.2.2.1 w wi wz rfl (g := mkF m pc Ls (S.map rv)) rfl (hb hc.2.1 hd) hcu hsu
  subst eT
  have hs : T'.heap.size = sz + 1 := by
    have u1 : T'.heap.size ≤ s.heap.size + (cu + 1) := X'.heapSize
    have u2 : T.heap.size < T'.heap.size := A.lt
    have u3 : T.heap.size = sz := H.1
    omega
  refine ⟨T', locs, Ls, X', H.new cw hk hP E hs A F, by omega, hF, hl, hL, okS_cons trivial hS, fun target hr => st _ ?_⟩
  rw [H.1]; exact hr
theorem Go.inito {k b : Nat} (hd : decode bytes pc = .ok (.invokespecial k, 3)) (hp : pc + 3 = pc2) {own : String} (ho : y.cls = own) (w1 : (Cond.methodLink own k Lib.objectInit).before a0 Z = true) (w2 : (Cond.instanceMethod Lib.objectInit).before a0 Z = true) (w3 : (Cond.code Lib.objectInit ⟨#[0xb1]⟩ 1 none).before a0 Z = true) (hf : 1 ≤ R.frames) (hlo : (S.map fun u => (rv u).category).sum + 12 ≤ R.locals)
    (h : Go l Z D n0 P y bytes maxL ret R pc2 L S os sz cu su Q) : Go l Z D n0 P y bytes maxL ret R pc L (vR b :: S) os sz cu su Q := by
  subst hp ho
  refine Go.step h fun p e s m args below meth c hc T locs X H hz hF Ls hl hL hS => ?_
  obtain ⟨T', X', eT, st⟩ := initO X hc.1 hc.2.2.2.2.2.2.1 hc.2.2.2.2.1 w1 w2 w3 rfl (g := mkF m pc Ls (rv (vR b) :: S.map rv)) rfl (hl.trans hc.2.2.1.symm) rfl (hb hc.2.1 hd) hf (W := (S.map fun u => (rv u).category).sum) (by rw [List.map_map]; show 2 * 0 + _ ≤ _; exact Nat.le_of_eq (Nat.zero_add _)) hlo
  exact ⟨T', locs, Ls, X', by rw [eT]; exact H, hz, hF, hl, hL, okS_tail hS, st⟩
theorem Go.reti {x : Int} (hd : decode bytes pc = .ok (.ireturn, 1)) (hret : ret = some .int) (hcu : cu ≤ R.cells) (hsu : su ≤ R.slots) (hq : ∀ h, HS Z D n0 P os sz h → Q (some (vI x)) h) : Go l Z D n0 P y bytes maxL ret R pc L (vI x :: S) os sz cu su Q := by
  intro p e s m args below meth c hc T locs X H hz hF Ls hl hL hS
  have hlk : meth.locks = false := hc.2.2.2.2.2.2.2
  have hr0 : meth.sig.returnType = some .int := hc.2.2.2.1.trans hret
  obtain ⟨fs, hr, hrun, hended, hW, hsame⟩ := X.leave (v := some (rv (vI x))) (fun h => by rw [hr0] at h; cases h) hlk
  exact ⟨_, locs, cu, su, some (vI x), retI X hc.1 hr0 (hb hc.2.1 hd) hr, hrun, hended, hW, hsame, hcu, hsu, hq _ H, hF, fun w hw => by cases hw; exact okS_head hS⟩
theorem Go.retz {x : Int} {x' : Int} (hd : decode bytes pc = .ok (.ireturn, 1)) (hret : ret = some .boolean) (hx : x % 2 = x') (hcu : cu ≤ R.cells) (hsu : su ≤ R.slots) (hq : ∀ h, HS Z D n0 P os sz h → Q (some (vI x')) h) : Go l Z D n0 P y bytes maxL ret R pc L (vI x :: S) os sz cu su Q := by
  intro p e s m args below meth c hc T locs X H hz hF Ls hl hL hS
  have hlk : meth.locks = false := hc.2.2.2.2.2.2.2
  have hr0 : meth.sig.returnType = some .boolean := hc.2.2.2.1.trans hret
  obtain ⟨fs, hr, hrun, hended, hW, hsame⟩ := X.leave (v := some (rv (vI x'))) (fun h => by rw [hr0] at h; cases h) hlk
  subst hx
  exact ⟨_, locs, cu, su, some (vI (x % 2)), retN X hc.1 (t := .boolean) hr0 (by simp) (hb hc.2.1 hd) (by rw [show nar .boolean (Int32.ofInt x) = Int32.ofInt x &&& 1 from rfl, and1_o]; exact hr), hrun, hended, hW, hsame, hcu, hsu, hq _ H, hF, fun w hw => by cases hw; exact ⟨by omega, by omega⟩⟩
theorem Go.retj {x : Int} (hd : decode bytes pc = .ok (.lreturn, 1)) (hret : ret = some .long) (hcu : cu ≤ R.cells) (hsu : su ≤ R.slots) (hq : ∀ h, HS Z D n0 P os sz h → Q (some (vJ x)) h) : Go l Z D n0 P y bytes maxL ret R pc L (vJ x :: S) os sz cu su Q := by
  intro p e s m args below meth c hc T locs X H hz hF Ls hl hL hS
  have hlk : meth.locks = false := hc.2.2.2.2.2.2.2
  have hr0 : meth.sig.returnType = some .long := hc.2.2.2.1.trans hret
  obtain ⟨fs, hr, hrun, hended, hW, hsame⟩ := X.leave (v := some (rv (vJ x))) (fun h => by rw [hr0] at h; cases h) hlk
  exact ⟨_, locs, cu, su, some (vJ x), retOut X hc.1 hr0 rfl (Or.inr (Or.inl ⟨rfl, rfl, _, rfl⟩)) (hb hc.2.1 hd) hr, hrun, hended, hW, hsame, hcu, hsu, hq _ H, hF, fun w hw => by cases hw; exact okS_head hS⟩
theorem Go.retv (hd : decode bytes pc = .ok (.return_, 1)) (hret : ret = none) (hcu : cu ≤ R.cells) (hsu : su ≤ R.slots) (hq : ∀ h, HS Z D n0 P os sz h → Q none h) : Go l Z D n0 P y bytes maxL ret R pc L [] os sz cu su Q := by
  intro p e s m args below meth c hc T locs X H hz hF Ls hl hL hS
  have hlk : meth.locks = false := hc.2.2.2.2.2.2.2
  have hr0 : meth.sig.returnType = none := hc.2.2.2.1.trans hret
  obtain ⟨fs, hr, hrun, hended, hW, hsame⟩ := X.leave (v := none) (fun _ => rfl) hlk
  exact ⟨_, locs, cu, su, none, X.returnOut hc.1 hr0 (hb hc.2.1 hd) hr, hrun, hended, hW, hsame, hcu, hsu, hq _ H, hF, fun w hw => by cases hw⟩
/-- a method's contract -/
def Meth (l : Launch) (Z : State) (D : Cls) (n0 : Nat) (P : Heap → Prop) (y : MethodName) (bytes : ByteArray) (maxL : Nat) (ret : Option FieldType) (R : Room) (as : List V) (os : List OB) (sz : Nat) (Q : Option V → Heap → Prop) : Prop :=
  okS as → ∀ h0, HS Z D n0 P os sz h0 → ∀ ws : List Jvm.Cond, MetFree l y (head1 (Jvm.Cond.code y bytes maxL ret :: ws) R) (fun a U => a = (as.map rv).toArray ∧ Z.Warmed39 U.vm ∧ U.heap = h0) (fun _ _ _ _ _ => True)
    (fun _ U o U' => ∃ v' L, o = .returned v' ∧ (∃ v, v' = Option.map rv v ∧ Q v U'.heap ∧ Fr n0 L ∧ (∀ w, v = some w → okV w)) ∧ FrameEnd U o U' L R.cells R.slots)
theorem Meth.of (hy : plainFor y = true) {as : List V} (hlen : (laid as).length ≤ maxL) (h : Go l Z D n0 P y bytes maxL ret R 0 (ent as maxL) [] os sz 0 0 Q) : Meth l Z D n0 P y bytes maxL ret R as os sz Q := by
  intro hok h0 H ws
  refine MetFree.of_bodySF hy hisR ?_
  intro p e s m args below meth c s₁ Bd hml0 hP hK
  obtain ⟨rfl, hZ, hh⟩ := hP
  have X0 : Stand p l e R s m (as.map rv).toArray below meth c s₁ [] 0 0 := Stand.of_body Bd
  have e0 : s₁.heap = h0 := by rw [← hh, Bd.state]; rfl
  have hE := ent_ok (maxL := maxL) hok hlen
  obtain ⟨s2, locs', cu', su', v, g1, g2, g3, g4, g5, g6, g7, g8, g9, g10⟩ := h p e s m _ below meth c ⟨Bd.exec, Bd.bytes, hml0, Bd.returns, findClass_of_methodNamed Bd.named, (name_of_methodNamed Bd.named Bd.method).1, hZ, Bd.notSynchronized⟩ s₁ [] X0 (by rw [e0]; exact H) (by rw [← H.1, ← hh]; simp) (Fr.nil n0) (argsToLocals (as.map rv).toArray maxL) (by rw [hE.1]; simp [ent]; omega) hE (fun u hu => nomatch hu)
  exact ⟨s2, _, g1, g2, g3, _, locs', rfl, ⟨v, rfl, g8, g9, g10⟩, ⟨_, rfl⟩, g4, g5.mono g6 g7⟩
def QM (Z : State) (D : Cls) (n0 : Nat) (P : Heap → Prop) (v : Option V) (os' : List OB) (sz' : Nat) (w : Option V) (h : Heap) : Prop := w = v ∧ HS Z D n0 P os' sz' h
/-- the caller's side of a call: what the callee's contract must give -/
def Pays (l : Launch) (Z : State) (D : Cls) (n0 : Nat) (P : Heap → Prop) (z : MethodName) (zb : ByteArray) (zl : Nat) (zr : Option FieldType) (rm : Room) (as : List V) (os : List OB) (sz : Nat) (v : Option V) (os' : List OB) (sz' : Nat) : Prop :=
  ∃ P' os1 os1', (∀ h, HS Z D n0 P os sz h → HS Z D n0 P' os1 sz h) ∧ (∀ h h', HS Z D n0 P os sz h → HS Z D n0 P' os1' sz' h' → HS Z D n0 P os' sz' h') ∧ Meth l Z D n0 P' z zb zl zr rm as os1 sz (QM Z D n0 P' v os1' sz')
theorem Pays.one {z : MethodName} {zb : ByteArray} {zl : Nat} {zr : Option FieldType} {rm : Room} {as : List V} {w : Option V} {q b k k' : Nat} {O O' : Mo} (hq : os[q]? = some (b, k, O)) (hos : os.set q (b, k', O') = os2) (hm : ∀ P' : Heap → Prop, (∀ h, P' h → P h) → Meth l Z D n0 P' z zb zl zr rm as [(b, k, O)] sz (QM Z D n0 P' w [(b, k', O')] sz2)) : Pays l Z D n0 P z zb zl zr rm as os sz w os2 sz2 := by
  subst hos
  exact ⟨Rest Z D P os q, _, _, fun h H => H.split hq, fun h h' H M => H.merge hq M, hm _ fun h q => q.1⟩
theorem Pays.zero {z : MethodName} {zb : ByteArray} {zl : Nat} {zr : Option FieldType} {rm : Room} {as : List V} {w : Option V} (hm : ∀ P' : Heap → Prop, (∀ h, P' h → P h) → Meth l Z D n0 P' z zb zl zr rm as [] sz (QM Z D n0 P' w [] sz2)) : Pays l Z D n0 P z zb zl zr rm as os sz w os sz2 :=
  ⟨RestA Z D P os, _, _, fun h H => H.split0, fun h h' H M => H.merge0 M, hm _ fun h q => q.1⟩
theorem Pays.all {z : MethodName} {zb : ByteArray} {zl : Nat} {zr : Option FieldType} {rm : Room} {as : List V} {w : Option V} (hm : ∀ P' : Heap → Prop, (∀ h, P' h → P h) → Meth l Z D n0 P' z zb zl zr rm as os sz (QM Z D n0 P' w os2 sz2)) : Pays l Z D n0 P z zb zl zr rm as os sz w os2 sz2 :=
  ⟨P, _, _, fun h H => H, fun h h' H M => M, hm _ fun h q => q⟩
theorem Go.callv {k : Nat} {z : MethodName} {zb : ByteArray} {zl : Nat} {zr : Option FieldType} {rm : Room} {as : List V} {w : Option V} {ps : List FieldType} {rt : Option FieldType} (hd : decode bytes pc = .ok (.invokevirtual k, 3)) (hp : pc + 3 = pc2) {own : String} (ho : y.cls = own) (w1 : (Cond.methodLink own k z).before a0 Z = true) (w2 : (Cond.declares z).before a0 Z = true) {C : String} (hC : D.C = C) (w3 : (Cond.selects C z z).before a0 Z = true) (w4 : (Cond.instanceMethod z).before a0 Z = true) (w5 : (Cond.code z zb zl zr).before a0 Z = true) {zc : String} (hzc : z.cls = zc) (w6 : (Cond.initialized zc).before a0 Z = true) {b q kq : Nat} {O : Mo} (hq : os[q]? = some (b, kq, O)) (hy : z.cls ≠ "java/lang/invoke/MethodHandle" ∧ z.cls ≠ "java/lang/invoke/VarHandle") (hpd : parseMethodDescriptor z.desc = some ⟨ps, rt⟩) (hf : rm.frames + 1 ≤ R.frames) (hlo : (S.map fun u => (rv u).category).sum + (zl + 11) + rm.locals ≤ R.locals) (hcu : cu + rm.cells ≤ R.cells) (hsu : su + rm.slots ≤ R.slots) {nc ns : Nat} (hnc : rm.cells = nc) (hns : rm.slots = ns) (hsz : sz + nc = sz2) (hcu2 : cu + nc = cu2) (hsu2 : su + ns = su2) (hlen : as.length = ps.length) (hpay : Pays l Z D n0 P z zb zl zr rm (vR b :: as) os sz w os2 sz2) (hS2 : w.toList ++ S = S2)
    (h : Go l Z D n0 P y bytes maxL ret R pc2 L S2 os2 sz2 cu2 su2 Q) : Go l Z D n0 P y bytes maxL ret R pc L (as.reverse ++ vR b :: S) os sz cu su Q := by
  subst hp hS2 ho hzc hnc hns hcu2 hsu2 hC
  refine Go.step h fun p e s m args below meth c hc T locs X H hz hF Ls hl hL hS => ?_
  obtain ⟨P', os1, os1', hsp, hmg, hm⟩ := hpay
  have okA : okS (vR b :: as) := fun u hu => hS u (by simp only [List.mem_append, List.mem_reverse, List.mem_cons] at hu ⊢; rcases hu with hu | hu <;> simp [hu])
  have okR : okS S := fun u hu => hS u (by simp [hu])
  have M := hm okA T.heap (hsp _ H) []
  have E := (H.2.2.1 _ _ _ _ hq).1.1
  obtain ⟨cq, kq', qa, qb, qc⟩ := isOf hc.2.2.2.2.2.2.1 rfl E
  obtain ⟨_, _, ⟨T2, L2, k2, n2⟩, -, X2, ⟨Lc, hQ, l2, y2, z2⟩, st⟩ := X.virtualBack hc.1 (y := z) (z := z) hc.2.2.2.2.1 (mvT hc.2.2.2.2.2.2.1 w1) (mvT hc.2.2.2.2.2.2.1 w2) (notFace_of_selects (args := #[]) (mvT hc.2.2.2.2.2.2.1 w3)) (mvT hc.2.2.2.2.2.2.1 w3) (mvT hc.2.2.2.2.2.2.1 w4) hy (backOf (W := (S.map fun u => (rv u).category).sum) (Q := fun v' h L => ∃ v, v' = Option.map rv v ∧ QM Z D n0 P' w os1' sz2 v h ∧ Fr n0 L ∧ ∀ w, v = some w → okV w) M hc.2.2.2.2.2.2.1 w5 w6 hf hlo) qa qc (g := mkF m pc Ls ((as.reverse ++ vR b :: S).map rv)) rfl (hl.trans hc.2.2.1.symm) (Steps.refl _) (argsL := as.map rv) (rest := S.map rv) (lenOf hpd (by rw [List.length_map]; exact hlen)) (by simp [rv]) (by rw [List.map_map]; show 2 * 0 + _ ≤ _; exact Nat.le_of_eq (Nat.zero_add _)) (hb hc.2.1 hd) (fun _ _ => ⟨by simp [rv], rfl, hcu, hsu⟩)
  dsimp only [Pt.U, Pt.locs, Pt.cells, Pt.slots] at X2 l2 y2 z2 st hQ
  subst l2 y2 z2
  obtain ⟨w9, rfl, ⟨e9, H2⟩, F2, ok2⟩ := hQ
  subst e9
  refine ⟨T2, _, Ls, X2, hmg _ _ H H2, by omega, Fr.app hF F2, hl, hL, fun u hu => ?_, fun target hr => ?_⟩
  · rcases List.mem_append.mp hu with hu | hu
    · exact ok2 u (Option.mem_toList.mp hu)
    · exact okR u hu
  · rw [List.map_append] at hr
    refine st.trans ?_
    cases w9 <;> exact hr
theorem Go.callp {k : Nat} {z : MethodName} {zb : ByteArray} {zl : Nat} {zr : Option FieldType} {rm : Room} {as : List V} {w : Option V} {ps : List FieldType} {rt : Option FieldType} (hd : decode bytes pc = .ok (.invokevirtual k, 3)) (hp : pc + 3 = pc2) {own : String} (ho : y.cls = own) (w1 : (Cond.methodLink own k z).before a0 Z = true) (w3 : (Cond.privateMethod z).before a0 Z = true) (w4 : (Cond.instanceMethod z).before a0 Z = true) (w5 : (Cond.code z zb zl zr).before a0 Z = true) {zc : String} (hzc : z.cls = zc) (w6 : (Cond.initialized zc).before a0 Z = true) {kx : Nat} (wi : (Cond.instantiable zc kx).before a0 Z = true) {b q kq : Nat} {O : Mo} (hq : os[q]? = some (b, kq, O)) (hy : z.cls ≠ "java/lang/invoke/MethodHandle" ∧ z.cls ≠ "java/lang/invoke/VarHandle") (hpd : parseMethodDescriptor z.desc = some ⟨ps, rt⟩) (hf : rm.frames + 1 ≤ R.frames) (hlo : (S.map fun u => (rv u).category).sum + (zl + 11) + rm.locals ≤ R.locals) (hcu : cu + rm.cells ≤ R.cells) (hsu : su + rm.slots ≤ R.slots) {nc ns : Nat} (hnc : rm.cells = nc) (hns : rm.slots = ns) (hsz : sz + nc = sz2) (hcu2 : cu + nc = cu2) (hsu2 : su + ns = su2) (hlen : as.length = ps.length) (hpay : Pays l Z D n0 P z zb zl zr rm (vR b :: as) os sz w os2 sz2) (hS2 : w.toList ++ S = S2)
    (h : Go l Z D n0 P y bytes maxL ret R pc2 L S2 os2 sz2 cu2 su2 Q) : Go l Z D n0 P y bytes maxL ret R pc L (as.reverse ++ vR b :: S) os sz cu su Q := by
  subst hp hS2 ho hzc hnc hns hcu2 hsu2
  refine Go.step h fun p e s m args below meth c hc T locs X H hz hF Ls hl hL hS => ?_
  obtain ⟨P', os1, os1', hsp, hmg, hm⟩ := hpay
  have okA : okS (vR b :: as) := fun u hu => hS u (by simp only [List.mem_append, List.mem_reverse, List.mem_cons] at hu ⊢; rcases hu with hu | hu <;> simp [hu])
  have okR : okS S := fun u hu => hS u (by simp [hu])
  have M := hm okA T.heap (hsp _ H) []
  have E := (H.2.2.1 _ _ _ _ hq).1.1
  obtain ⟨cq, q4, q4'⟩ := E.cell
  have wi' : (Cond.instantiable z.cls kx).before args s = true := mv hc.2.2.2.2.2.2.1 wi
  obtain ⟨c9, k9, i1, i2, i3, i4, -⟩ := Cond.instantiable_spec wi'
  have hpr : s.PrivateAt z := Cond.privateMethod_at (mvP hc.2.2.2.2.2.2.1 w3 (args := #[]))
  have hin : (Cond.instanceMethod z).before args s = true := mvT hc.2.2.2.2.2.2.1 w4
  have hsel := selects_self_of_private i1 i2 (by simp at i4; exact i4.1) hpr hin hy
  obtain ⟨_, _, ⟨T2, L2, k2, n2⟩, -, X2, ⟨Lc, hQ, l2, y2, z2⟩, st⟩ := X.privateBack hc.1 (y := z) hc.2.2.2.2.1 (mvT hc.2.2.2.2.2.2.1 w1) hin hsel hpr (mvT hc.2.2.2.2.2.2.1 w5) hy (backOf (W := (S.map fun u => (rv u).category).sum) (Q := fun v' h L => ∃ v, v' = Option.map rv v ∧ QM Z D n0 P' w os1' sz2 v h ∧ Fr n0 L ∧ ∀ w, v = some w → okV w) M hc.2.2.2.2.2.2.1 w5 w6 hf hlo) (g := mkF m pc Ls ((as.reverse ++ vR b :: S).map rv)) rfl (hl.trans hc.2.2.1.symm) (Steps.refl _) (a := b) q4 q4' (argsL := as.map rv) (rest := S.map rv) (lenOf hpd (by rw [List.length_map]; exact hlen)) (by simp [rv]) (by rw [List.map_map]; show 2 * 0 + _ ≤ _; exact Nat.le_of_eq (Nat.zero_add _)) (hb hc.2.1 hd) (fun _ _ => ⟨by simp [rv], rfl, hcu, hsu⟩)
  dsimp only [Pt.U, Pt.locs, Pt.cells, Pt.slots] at X2 l2 y2 z2 st hQ
  subst l2 y2 z2
  obtain ⟨w9, rfl, ⟨e9, H2⟩, F2, ok2⟩ := hQ
  subst e9
  refine ⟨T2, _, Ls, X2, hmg _ _ H H2, by omega, Fr.app hF F2, hl, hL, fun u hu => ?_, fun target hr => ?_⟩
  · rcases List.mem_append.mp hu with hu | hu
    · exact ok2 u (Option.mem_toList.mp hu)
    · exact okR u hu
  · rw [List.map_append] at hr
    refine st.trans ?_
    cases w9 <;> exact hr
theorem Go.callc {k : Nat} {z : MethodName} {zb : ByteArray} {zl : Nat} {zr : Option FieldType} {rm : Room} {as : List V} {w : Option V} {ps : List FieldType} {rt : Option FieldType} (hd : decode bytes pc = .ok (.invokespecial k, 3)) (hp : pc + 3 = pc2) (hn : z.name = "<init>") (hzr : zr = none) {own : String} (ho : y.cls = own) (w1 : (Cond.methodLink own k z).before a0 Z = true) (w4 : (Cond.instanceMethod z).before a0 Z = true) (w5 : (Cond.code z zb zl zr).before a0 Z = true) {zc : String} (hzc : z.cls = zc) (w6 : (Cond.initialized zc).before a0 Z = true) {b : Nat} (hy : z.cls ≠ "java/lang/invoke/MethodHandle" ∧ z.cls ≠ "java/lang/invoke/VarHandle") (hpd : parseMethodDescriptor z.desc = some ⟨ps, rt⟩) (hf : rm.frames + 1 ≤ R.frames) (hlo : (S.map fun u => (rv u).category).sum + (zl + 11) + rm.locals ≤ R.locals) (hcu : cu + rm.cells ≤ R.cells) (hsu : su + rm.slots ≤ R.slots) {nc ns : Nat} (hnc : rm.cells = nc) (hns : rm.slots = ns) (hsz : sz + nc = sz2) (hcu2 : cu + nc = cu2) (hsu2 : su + ns = su2) (hlen : as.length = ps.length) (hpay : Pays l Z D n0 P z zb zl zr rm (vR b :: as) os sz w os2 sz2) (hS2 : w.toList ++ S = S2)
    (h : Go l Z D n0 P y bytes maxL ret R pc2 L S2 os2 sz2 cu2 su2 Q) : Go l Z D n0 P y bytes maxL ret R pc L (as.reverse ++ vR b :: S) os sz cu su Q := by
  subst hp hS2 ho hzc hnc hns hcu2 hsu2
  refine Go.step h fun p e s m args below meth c hc T locs X H hz hF Ls hl hL hS => ?_
  obtain ⟨P', os1, os1', hsp, hmg, hm⟩ := hpay
  have okA : okS (vR b :: as) := fun u hu => hS u (by simp only [List.mem_append, List.mem_reverse, List.mem_cons] at hu ⊢; rcases hu with hu | hu <;> simp [hu])
  have okR : okS S := fun u hu => hS u (by simp [hu])
  have M := hm okA T.heap (hsp _ H) []
  subst hzr
  obtain ⟨_, _, ⟨T2, L2, k2, n2⟩, -, X2, ⟨Lc, hQ, l2, y2, z2⟩, st⟩ := X.specialBack hc.1 (y := z) hn hc.2.2.2.2.1 (mvT hc.2.2.2.2.2.2.1 w1) (mvT hc.2.2.2.2.2.2.1 w4) (mvT hc.2.2.2.2.2.2.1 w5) hy (backOf (W := (S.map fun u => (rv u).category).sum) (Q := fun v' h L => ∃ v, v' = Option.map rv v ∧ QM Z D n0 P' w os1' sz2 v h ∧ Fr n0 L ∧ ∀ w, v = some w → okV w) M hc.2.2.2.2.2.2.1 w5 w6 hf hlo) (g := mkF m pc Ls ((as.reverse ++ vR b :: S).map rv)) rfl (hl.trans hc.2.2.1.symm) (Steps.refl _) (a := b) (argsL := as.map rv) (rest := S.map rv) (lenOf hpd (by rw [List.length_map]; exact hlen)) (by simp [rv]) (by rw [List.map_map]; show 2 * 0 + _ ≤ _; exact Nat.le_of_eq (Nat.zero_add _)) (hb hc.2.1 hd) (fun _ _ => ⟨by simp [rv], rfl, hcu, hsu⟩)
  dsimp only [Pt.U, Pt.locs, Pt.cells, Pt.slots] at X2 l2 y2 z2 st hQ
  subst l2 y2 z2
  obtain ⟨w9, rfl, ⟨e9, H2⟩, F2, ok2⟩ := hQ
  subst e9
  refine ⟨T2, _, Ls, X2, hmg _ _ H H2, by omega, Fr.app hF F2, hl, hL, fun u hu => ?_, fun target hr => ?_⟩
  · rcases List.mem_append.mp hu with hu | hu
    · exact ok2 u (Option.mem_toList.mp hu)
    · exact okR u hu
  · rw [List.map_append] at hr
    refine st.trans ?_
    cases w9 <;> exact hr
theorem Go.calls {k : Nat} {z : MethodName} {zb : ByteArray} {zl : Nat} {zr : Option FieldType} {rm : Room} {as : List V} {w : Option V} {ps : List FieldType} {rt : Option FieldType} (hd : decode bytes pc = .ok (.invokestatic k, 3)) (hp : pc + 3 = pc2) {own : String} (ho : y.cls = own) (w1 : (Cond.methodLink own k z).before a0 Z = true) (w2 : (Cond.static z).before a0 Z = true) (w5 : (Cond.code z zb zl zr).before a0 Z = true) {zc : String} (hzc : z.cls = zc) (w6 : (Cond.initialized zc).before a0 Z = true) (hy : z.cls ≠ "java/lang/invoke/MethodHandle" ∧ z.cls ≠ "java/lang/invoke/VarHandle") (hpd : parseMethodDescriptor z.desc = some ⟨ps, rt⟩) (hf : rm.frames + 1 ≤ R.frames) (hlo : (S.map fun u => (rv u).category).sum + (zl + 11) + rm.locals ≤ R.locals) (hcu : cu + rm.cells ≤ R.cells) (hsu : su + rm.slots ≤ R.slots) {nc ns : Nat} (hnc : rm.cells = nc) (hns : rm.slots = ns) (hsz : sz + nc = sz2) (hcu2 : cu + nc = cu2) (hsu2 : su + ns = su2) (hlen : as.length = ps.length) (hpay : Pays l Z D n0 P z zb zl zr rm as os sz w os2 sz2) (hS2 : w.toList ++ S = S2)
    (h : Go l Z D n0 P y bytes maxL ret R pc2 L S2 os2 sz2 cu2 su2 Q) : Go l Z D n0 P y bytes maxL ret R pc L (as.reverse ++ S) os sz cu su Q := by
  subst hp hS2 ho hzc hnc hns hcu2 hsu2
  refine Go.step h fun p e s m args below meth c hc T locs X H hz hF Ls hl hL hS => ?_
  obtain ⟨P', os1, os1', hsp, hmg, hm⟩ := hpay
  have okA : okS as := fun u hu => hS u (by simp only [List.mem_append, List.mem_reverse, List.mem_cons] at hu ⊢; exact Or.inl hu)
  have okR : okS S := fun u hu => hS u (by simp [hu])
  have M := hm okA T.heap (hsp _ H) []
  obtain ⟨_, _, ⟨T2, L2, k2, n2⟩, -, X2, ⟨Lc, hQ, l2, y2, z2⟩, st⟩ := Jvm.LawKit.callS X hc.1 (y := z) hc.2.2.2.2.1 (mvT hc.2.2.2.2.2.2.1 w1) (mvT hc.2.2.2.2.2.2.1 w2) (mvT hc.2.2.2.2.2.2.1 w6) (mvT hc.2.2.2.2.2.2.1 w5) hy (backOf (W := (S.map fun u => (rv u).category).sum) (Q := fun v' h L => ∃ v, v' = Option.map rv v ∧ QM Z D n0 P' w os1' sz2 v h ∧ Fr n0 L ∧ ∀ w, v = some w → okV w) M hc.2.2.2.2.2.2.1 w5 w6 hf hlo) (g := mkF m pc Ls ((as.reverse ++ S).map rv)) rfl (hl.trans hc.2.2.1.symm) (argsL := as.map rv) (rest := S.map rv) (lenOf hpd (by rw [List.length_map]; exact hlen)) (by simp) (by rw [List.map_map]; show 2 * 0 + _ ≤ _; exact Nat.le_of_eq (Nat.zero_add _)) (hb hc.2.1 hd) (fun _ _ => ⟨rfl, rfl, hcu, hsu⟩)
  dsimp only [Pt.U, Pt.locs, Pt.cells, Pt.slots] at X2 l2 y2 z2 st hQ
  subst l2 y2 z2
  obtain ⟨w9, rfl, ⟨e9, H2⟩, F2, ok2⟩ := hQ
  subst e9
  refine ⟨T2, _, Ls, X2, hmg _ _ H H2, by omega, Fr.app hF F2, hl, hL, fun u hu => ?_, fun target hr => ?_⟩
  · rcases List.mem_append.mp hu with hu | hu
    · exact ok2 u (Option.mem_toList.mp hu)
    · exact okR u hu
  · rw [List.map_append] at hr
    refine st _ ?_
    cases w9 <;> exact hr
theorem Scr.wr {a : Nat} {xs : List Int} {h h' : Heap} {b sl : Nat} {w : Value} (q : Scr Z a xs h) (W : Wr h h' b sl w) (ne : a ≠ b) : Scr Z a xs h' := by
  obtain ⟨c, A, r⟩ := q; exact ⟨c, A.other W ne, r⟩
theorem Scr.ext {a : Nat} {xs : List Int} {h h' : Heap} (q : Scr Z a xs h) (E : Ext h h') : Scr Z a xs h' := by
  obtain ⟨c, A, r⟩ := q; exact ⟨c, A.ext E, r⟩
theorem fnil {α : Type} {p : α → Prop} : ∀ x ∈ ([] : List α), p x := fun _ h => nomatch h
theorem fcons {α : Type} {p : α → Prop} {a : α} {l : List α} (h : p a) (hl : ∀ x ∈ l, p x) : ∀ x ∈ a :: l, p x := fun x hx => (List.mem_cons.mp hx).elim (fun e => e ▸ h) (hl x)
theorem CW.of (h1 : ∀ f ∈ D.FS, Laid Z a0 D.C D.C f.2.1 f.2.2.1 ∧ parseFieldDescriptor f.2.2.1 = some f.2.2.2 ∧ pt f.2.2.2) (h2 : ∀ f ∈ D.AS, Laid Z a0 D.C D.C f.1 f.2.1 ∧ parseFieldDescriptor f.2.1 = some (.array f.2.2.1) ∧ pt f.2.2.1 ∧ f.2.2.2 * 8 ≤ 536870912)
    (h3 : ∀ f ∈ D.FS, ∀ g ∈ D.FS, f = g ∨ (f.1 ≠ g.1 ∧ f.2.1 ≠ g.2.1)) (h4 : ∀ f ∈ D.FS, ∀ g ∈ D.AS, f.2.1 ≠ g.1) (h5 : ∀ j ∈ List.range D.AS.length, ∀ j' ∈ List.range D.AS.length, j ≠ j' → (D.AS[j]?.map (·.1)) ≠ (D.AS[j']?.map (·.1))) : CW Z a0 D := by
  refine ⟨fun i n d t h => h1 (i, n, d, t) h, fun j n d t len h => h2 (n, d, t, len) (List.mem_of_getElem? h), fun i n d t i' n' d' t' h h' => ?_, fun i n d t j n' d' t' len h h' => h4 (i, n, d, t) h (n', d', t', len) (List.mem_of_getElem? h'), fun j n d t len j' n' d' t' len' h h' ne e => ?_⟩
  · rcases h3 (i, n, d, t) h (i', n', d', t') h' with q | q
    · cases q; exact Or.inl ⟨rfl, rfl, rfl, rfl⟩
    · exact Or.inr q
  · refine h5 j (List.mem_range.mpr (List.getElem?_eq_some_iff.mp h).1) j' (List.mem_range.mpr (List.getElem?_eq_some_iff.mp h').1) ne ?_
    rw [h, h']; exact congrArg some e
theorem scr_start {s : State} {w0 : Value} (hfit : Fit s) (n1 : (Cond.arrayOf (Term.arg 0) .int).value #[w0] s none s [] = some true) (n2 : (Cond.le (Term.length (Term.arg 0)) (Term.int 260)).value #[w0] s none s [] = some true) :
    ∃ aa xs, w0 = .ref aa ∧ aa < s.heap.size ∧ Scr s aa xs s.heap ∧ xs.length ≤ 260 ∧ (∀ x ∈ xs, R32 x) := by
  obtain ⟨aa, ea⟩ := arr_v n1
  obtain rfl : w0 = .ref aa := Option.some.inj ea
  obtain ⟨cl, A⟩ := Arr.start ea n1
  have hl : cl.slots.size ≤ 260 := by
    by_cases h : cl.slots.size < 2 ^ 31
    · have e := len_f (t := Term.arg 0) (idx := []) ea (A.fin (Vm.Alike.refl _)) h
      have e2 : (Term.int 260).eval #[.ref aa] s none [] s = some (.int 260) := rfl
      have n3 := n2
      simp only [Cond.value, e, e2, Option.some.injEq, decide_eq_true_eq] at n3
      rw [Int32.le_iff_toInt_le, show cl.slots.size.toInt32 = Int32.ofInt (cl.slots.size : Int) from rfl, ti32 ⟨by omega, by omega⟩] at n3
      have : (260 : Int32).toInt = 260 := rfl
      omega
    · exfalso
      obtain ⟨x, y, e1, -⟩ := cmp_v (Or.inr (Or.inr n2))
      have q : (Term.length (Term.arg 0)).eval #[.ref aa] s none [] s = none := by
        have := A.fin (Vm.Alike.refl _)
        simp [Term.eval, this, h]
      rw [q] at e1; cases e1
  have key : ∀ i (hi : i < cl.slots.size), ∃ x : Int32, cl.slots[i] = .int x := fun i hi => by
    have q := hfit A.1 hi
    obtain ⟨hs, k, hk, comp, hkind⟩ := A.2.1
    have e : s.slotType? cl.cls cl.vm i = some .int := by
      cases hq : cl.vm <;> first | exact absurd hq (hs _) | simp [State.slotType?, hk, hkind]
    exact fit_I (by simpa [State.fitsSlot, e] using q) (Or.inl rfl)
  refine ⟨aa, cl.slots.toList.map (fun v => match v with | .int x => x.toInt | _ => 0), rfl, A.lt, ⟨cl, A, by simp, fun i x hx => ?_⟩, by simpa using hl, fun x hx => ?_⟩
  · rw [List.getElem?_map, Array.getElem?_toList] at hx
    cases hc : cl.slots[i]? with
    | none => rw [hc] at hx; cases hx
    | some u =>
      obtain ⟨hi, hu⟩ := Array.getElem?_eq_some_iff.mp hc
      obtain ⟨z, hz⟩ := key i hi
      rw [hz] at hu
      subst hu
      rw [hc] at hx
      simp at hx
      subst hx
      exact ⟨by rw [of32], r32t z⟩
  · obtain ⟨u, hu, rfl⟩ := List.mem_map.mp hx
    cases u with
    | int z => exact r32t z
    | _ => exact (show R32 0 by decide)
end Runs

end Jvm.Own

namespace Jvm.Own
-- functions of g-0160x4-1; fields: 0:capacity, 1:range, 2:count, 3:built, 4:hullCount, 5:diam2, 6:diamA, 7:diamB, 8:wNum, 9:wDen, 10:wEdge, 11:wFar, 12:bNum, 13:bDen, 14:bEdge, 15:bFar, 16:bLow, 17:bHigh, 18:eH, 19:eFar, 20:eLo, 21:eLow, 22:eHi, 23:eHigh, 24:c, 25:r, 26:n, 27:m, 28:tx, 29:ty, 30:k, 31:floor, 32:s, 33:top, 34:ux, 35:uy, 36:vx, 37:vy, 38:dx, 39:dy, 40:d, 41:next, 42:wn, 43:bn, 44:wx, 45:wy; arrays: 1:px[32] int, 2:py[32] int, 3:hx[32] int, 4:hy[32] int, 5:work[64] int, 6:stx[64] int, 7:sty[64] int
def j_k_ctor_101 (F : Nat) (O0 : Mo) (v3 v4 : Int) : Option Mo :=
  some ((upd (upd (upd (upd O0 0 0 v3) 0 1 v4) 0 2 0) 0 3 0))
def j_k_ctor_90 (F : Nat) (O0 : Mo) (v3 v4 : Int) : Option Mo :=
  if v4 ≤ 100 then
    j_k_ctor_101 F O0 v3 v4
  else
    j_k_ctor_101 F O0 v3 100
def j_k_ctor_78 (F : Nat) (O0 : Mo) (v2 v3 : Int) : Option Mo :=
  if v2 < 1 then
    j_k_ctor_90 F O0 v3 1
  else
    j_k_ctor_90 F O0 v3 v2
def j_k_ctor_69 (F : Nat) (O0 : Mo) (v2 v3 : Int) : Option Mo :=
  if v3 ≤ 32 then
    j_k_ctor_78 F O0 v2 v3
  else
    j_k_ctor_78 F O0 v2 32
def k_ctor (F : Nat) (v1 v2 : Int) : Option Mo :=
  if v1 < 3 then
    j_k_ctor_69 F zM v2 3
  else
    j_k_ctor_69 F zM v2 v1
def k_inRange (O0 : Mo) (v1 v2 : Int) : Int :=
  if v1 < w32 (-(O0 0 1)) then
    0
  else
    if O0 0 1 < v1 then
      0
    else
      if v2 < w32 (-(O0 0 1)) then
        0
      else
        if O0 0 1 < v2 then
          0
        else
          1
def k_addPoint (F : Nat) (O0 : Mo) (v1 v2 : Int) : Option (Int × Mo) :=
  if k_inRange O0 v1 v2 = 0 then
    some (((-1), O0))
  else
    if O0 0 2 < O0 0 0 then
      if O0 0 2 < 32 then
        if 0 ≤ (O0 0 2) ∧ (O0 0 2) < 32 then
          if 0 ≤ (O0 0 2) ∧ (O0 0 2) < 32 then
            some ((w32 ((w32 ((O0 0 2) + 1)) - 1), (upd (upd (upd (upd O0 1 ((O0 0 2).toNat) v1) 2 ((O0 0 2).toNat) v2) 0 2 (w32 ((O0 0 2) + 1))) 0 3 0)))
          else none
        else none
      else
        some (((-2), O0))
    else
      some (((-2), O0))
def b_k_sortUnique_16 (F : Nat) (c16_1 : Int) (v2 : Int) (O0 : Mo) : Option ((Int × Mo) ⊕ (Mo)) :=
  if v2 < c16_1 then
    if 0 ≤ v2 ∧ v2 < 32 then
      if 0 ≤ v2 ∧ v2 < 64 then
        if 0 ≤ v2 ∧ v2 < 32 then
          if 0 ≤ (w32 (32 + v2)) ∧ (w32 (32 + v2)) < 64 then
            some (Sum.inl ((w32 (v2 + 1), (upd (upd O0 5 (v2.toNat) (O0 1 v2.toNat)) 5 ((w32 (32 + v2)).toNat) ((upd O0 5 (v2.toNat) (O0 1 v2.toNat)) 2 v2.toNat)))))
          else none
        else none
      else none
    else none
  else
    some (Sum.inr O0)
def b_k_sortUnique_56 (F : Nat) (C56_0 : Mo) (c56_1 : Int) (v2 : Int) : Option (Int ⊕ (Unit)) :=
  if v2 < c56_1 then
    if v2 ≤ 0 then
      some (Sum.inl (w32 (v2 + 1)))
    else
      none
  else
    some (Sum.inr (()))
def i_k_sortUnique_153 (F : Nat) (O0 : Mo) (c108_1 v2 v3 : Int) : Option ((Int × Int × Mo) ⊕ ((Int × Mo))) :=
  if 0 ≤ v3 ∧ v3 < 64 then
    if 0 ≤ v2 ∧ v2 < 64 then
      if 0 ≤ (w32 (32 + v3)) ∧ (w32 (32 + v3)) < 64 then
        if 0 ≤ (w32 (32 + v2)) ∧ (w32 (32 + v2)) < 64 then
          some (Sum.inl ((w32 (v2 + 1), w32 (v3 + 1), (upd (upd O0 5 (v2.toNat) (O0 5 v3.toNat)) 5 ((w32 (32 + v2)).toNat) ((upd O0 5 (v2.toNat) (O0 5 v3.toNat)) 5 (w32 (32 + v3)).toNat)))))
        else none
      else none
    else none
  else none
def b_k_sortUnique_108 (F : Nat) (c108_1 : Int) (v2 v3 : Int) (O0 : Mo) : Option ((Int × Int × Mo) ⊕ ((Int × Mo))) :=
  if v3 < c108_1 then
    if 0 ≤ v3 ∧ v3 < 64 then
      if 0 ≤ (w32 (v2 - 1)) ∧ (w32 (v2 - 1)) < 64 then
        if O0 5 v3.toNat = O0 5 (w32 (v2 - 1)).toNat then
          if 0 ≤ (w32 (32 + v3)) ∧ (w32 (32 + v3)) < 64 then
            if 0 ≤ (w32 ((w32 (32 + v2)) - 1)) ∧ (w32 ((w32 (32 + v2)) - 1)) < 64 then
              if O0 5 (w32 (32 + v3)).toNat = O0 5 (w32 ((w32 (32 + v2)) - 1)).toNat then
                some (Sum.inl ((v2, w32 (v3 + 1), O0)))
              else
                i_k_sortUnique_153 F O0 c108_1 v2 v3
            else none
          else none
        else
          i_k_sortUnique_153 F O0 c108_1 v2 v3
      else none
    else none
  else
    some (Sum.inr ((v2, O0)))
def j_k_sortUnique_14 (F : Nat) (O0 : Mo) (v1 : Int) : Option (Int × Mo) :=
  (loop (fun s => b_k_sortUnique_16 F v1 s.1 s.2) F ((0, O0))).bind fun r =>
  (loop (fun s => b_k_sortUnique_56 F r v1 s) F 1).bind fun r_1 =>
  if v1 = 0 then
    some ((0, r))
  else
    (loop (fun s => b_k_sortUnique_108 F v1 s.1 s.2.1 s.2.2) F ((1, 1, r))).bind fun r_2 =>
    some ((r_2.1, r_2.2))
def k_sortUnique (F : Nat) (O0 : Mo) : Option (Int × Mo) :=
  if O0 0 2 ≤ 32 then
    j_k_sortUnique_14 F O0 (O0 0 2)
  else
    j_k_sortUnique_14 F O0 32
def b_k_computeDiameter_55 (F : Nat) (C55_0 : Mo) (c55_1 : Int) (v2 : Int) : Option (Int ⊕ (((Int × Int)) ⊕ Mo)) :=
  if v2 < c55_1 then
    if v2 < 32 then
      if w32 (v2 + 1) < c55_1 then
        if w32 (v2 + 1) < 32 then
          some (Sum.inr (Sum.inl ((v2, w32 (v2 + 1)))))
        else
          some (Sum.inl (w32 (v2 + 1)))
      else
        some (Sum.inl (w32 (v2 + 1)))
    else
      some (Sum.inr (Sum.inr C55_0))
  else
    some (Sum.inr (Sum.inr C55_0))
def k_computeDiameter (F : Nat) (O0 : Mo) : Option Mo :=
  if O0 0 4 = 0 then
    some ((upd (upd (upd O0 0 5 0) 0 6 ((-1))) 0 7 ((-1))))
  else
    if O0 0 4 = 1 then
      some ((upd (upd (upd O0 0 5 0) 0 6 0) 0 7 0))
    else
      (loop (fun s => b_k_computeDiameter_55 F ((upd (upd (upd (upd O0 0 5 0) 0 6 0) 0 7 0) 0 5 ((-1)))) (O0 0 4) s) F 0).bind fun r =>
      Sum.elim (fun r_1 =>
        none)
        (fun r_2 =>
        some r_2) r
def k_computeEdges (F : Nat) (O0 : Mo) : Option Mo :=
  if O0 0 4 < 3 then
    some ((upd (upd (upd (upd (upd (upd (upd (upd (upd (upd O0 0 8 0) 0 9 1) 0 10 ((-1))) 0 11 ((-1))) 0 12 0) 0 13 1) 0 14 ((-1))) 0 15 ((-1))) 0 16 ((-1))) 0 17 ((-1))))
  else
    if 0 < O0 0 4 then
      if (0 : Int) < 32 then
        none
      else
        some ((upd (upd (upd (upd (upd (upd (upd (upd (upd (upd O0 0 8 0) 0 9 1) 0 10 ((-1))) 0 11 ((-1))) 0 12 0) 0 13 1) 0 14 ((-1))) 0 15 ((-1))) 0 16 ((-1))) 0 17 ((-1))))
    else
      some ((upd (upd (upd (upd (upd (upd (upd (upd (upd (upd O0 0 8 0) 0 9 1) 0 10 ((-1))) 0 11 ((-1))) 0 12 0) 0 13 1) 0 14 ((-1))) 0 15 ((-1))) 0 16 ((-1))) 0 17 ((-1))))
def j_k_build_60 (F : Nat) (O0 : Mo) : Option (Int × Mo) :=
  (k_computeDiameter F O0).bind fun r =>
  (k_computeEdges F r).bind fun r_1 =>
  some ((r_1 0 4, (upd r_1 0 3 1)))
def k_build (F : Nat) (O0 : Mo) : Option (Int × Mo) :=
  (k_sortUnique F O0).bind fun r =>
  if r.1 = 0 then
    j_k_build_60 F ((upd r.2 0 4 0))
  else
    if r.1 = 1 then
      j_k_build_60 F ((upd (upd (upd r.2 3 0 (r.2 5 0)) 4 0 (r.2 5 32)) 0 4 1))
    else
      none
def k_hullSize (O0 : Mo) : Int :=
  if O0 0 3 = 0 then
    (-1)
  else
    O0 0 4
def k_hullX (F : Nat) (O0 : Mo) (v1 : Int) : Option Int :=
  if O0 0 3 = 0 then
    some 0
  else
    if v1 < 0 then
      some 0
    else
      if v1 < O0 0 4 then
        if v1 < 32 then
          if 0 ≤ v1 ∧ v1 < 32 then
            some (O0 3 v1.toNat)
          else none
        else
          some 0
      else
        some 0
def k_hullY (F : Nat) (O0 : Mo) (v1 : Int) : Option Int :=
  if O0 0 3 = 0 then
    some 0
  else
    if v1 < 0 then
      some 0
    else
      if v1 < O0 0 4 then
        if v1 < 32 then
          if 0 ≤ v1 ∧ v1 < 32 then
            some (O0 4 v1.toNat)
          else none
        else
          some 0
      else
        some 0
def k_removeLast (F : Nat) (O0 : Mo) : Option (Int × Mo) :=
  if 0 < O0 0 2 then
    some ((1, (upd (upd O0 0 2 (w32 ((O0 0 2) - 1))) 0 3 0)))
  else
    some ((0, O0))
def k_diameter2 (O0 : Mo) : Int :=
  if O0 0 3 = 0 then
    (-1)
  else
    O0 0 5
def k_pointCount (O0 : Mo) : Int :=
  O0 0 2
def j_u_law_252 (F : Nat) (O0 : Mo) (s0 s1 : Int) : Option Int :=
  if s1 = s0 then
    some 1
  else
    some 0
def j_u_law_233 (F : Nat) (O0 : Mo) (v6 v14 s0 s1 : Int) : Option Int :=
  if s1 = s0 then
    if v6 = 0 then
      j_u_law_252 F O0 0 v14
    else
      j_u_law_252 F O0 ((-1)) v14
  else
    some 0
def j_u_law_202 (F : Nat) (O0 : Mo) (v6 v12 v13 v14 v16 s0 s1 : Int) : Option Int :=
  if s1 = s0 then
    if v12 = v6 then
      if v16 = 0 then
        if v6 = 0 then
          j_u_law_233 F O0 v6 v14 0 v13
        else
          j_u_law_233 F O0 v6 v14 ((-1)) v13
      else
        some 0
    else
      some 0
  else
    some 0
def j_u_law_187 (F : Nat) (O0 : Mo) (v3 v6 v11 v12 v13 v14 v16 s0 s1 : Int) : Option Int :=
  if s1 = s0 then
    if v6 = 0 then
      j_u_law_202 F O0 v6 v12 v13 v14 v16 0 v11
    else
      j_u_law_202 F O0 v6 v12 v13 v14 v16 v3 v11
  else
    some 0
def j_u_law_163 (F : Nat) (O0 : Mo) (v2 v3 v6 v8 v9 v10 v11 v12 v13 v14 v16 s0 s1 : Int) : Option Int :=
  if s1 = s0 then
    if v9 = v8 then
      if v6 = 0 then
        j_u_law_187 F O0 v3 v6 v11 v12 v13 v14 v16 0 v10
      else
        j_u_law_187 F O0 v3 v6 v11 v12 v13 v14 v16 v2 v10
    else
      some 0
  else
    some 0
def j_u_law_146 (F : Nat) (O0 : Mo) (v2 v3 v6 v8 v9 v10 v11 v12 v13 v14 v16 s0 s1 : Int) : Option Int :=
  if s1 = s0 then
    if v6 = 0 then
      j_u_law_163 F O0 v2 v3 v6 v8 v9 v10 v11 v12 v13 v14 v16 0 v8
    else
      j_u_law_163 F O0 v2 v3 v6 v8 v9 v10 v11 v12 v13 v14 v16 1 v8
  else
    some 0
def j_u_law_65 (F : Nat) (O0 : Mo) (v2 v3 s0 : Int) : Option Int :=
  (k_addPoint F O0 v2 v3).bind fun r =>
  (k_build F r.2).bind fun r_1 =>
  (k_hullX F r_1.2 0).bind fun r_2 =>
  (k_hullY F r_1.2 0).bind fun r_3 =>
  (k_removeLast F r_1.2).bind fun r_4 =>
  if s0 = 0 then
    j_u_law_146 F r_4.2 v2 v3 s0 r_1.1 (k_hullSize r_1.2) r_2 r_3 r_4.1 (k_hullSize r_4.2) (k_diameter2 r_4.2) (k_pointCount r_4.2) ((-1)) r.1
  else
    j_u_law_146 F r_4.2 v2 v3 s0 r_1.1 (k_hullSize r_1.2) r_2 r_3 r_4.1 (k_hullSize r_4.2) (k_diameter2 r_4.2) (k_pointCount r_4.2) 0 r.1
def j_u_law_32 (F : Nat) (O0 : Mo) (v2 v3 s0 : Int) : Option Int :=
  if v2 < w32 (-s0) then
    j_u_law_65 F O0 v2 v3 0
  else
    if s0 < v2 then
      j_u_law_65 F O0 v2 v3 0
    else
      if v3 < w32 (-s0) then
        j_u_law_65 F O0 v2 v3 0
      else
        if s0 < v3 then
          j_u_law_65 F O0 v2 v3 0
        else
          j_u_law_65 F O0 v2 v3 1
def u_law (F : Nat) (v0 v1 v2 v3 : Int) : Option Int :=
  (k_ctor F v0 v1).bind fun r =>
  if v1 < 1 then
    j_u_law_32 F r v2 v3 1
  else
    if v1 ≤ 100 then
      j_u_law_32 F r v2 v3 v1
    else
      j_u_law_32 F r v2 v3 100
end Jvm.Own

namespace Jvm.Own
theorem t32 {x : Int} (h1 : -2147483648 ≤ x) (h2 : x < 2147483648) : w32 x = x := Int.bmod_eq_of_le (by omega) (by omega)
theorem t64 {x : Int} (h1 : -9223372036854775808 ≤ x) (h2 : x < 9223372036854775808) : w64 x = x := Int.bmod_eq_of_le (by omega) (by omega)
theorem t8 {x : Int} (h1 : -128 ≤ x) (h2 : x < 128) : w8 x = x := Int.bmod_eq_of_le (by omega) (by omega)
theorem w32_ge (x : Int) : -2147483648 ≤ w32 x := by have := Int.le_bmod (x := x) (m := 4294967296) (by decide); simpa [w32] using this
theorem w32_lt (x : Int) : w32 x < 2147483648 := by have := Int.bmod_lt (x := x) (m := 4294967296) (by decide); simpa [w32] using this
theorem loop_inl {σ ρ : Type} {body : σ → Option (σ ⊕ ρ)} {n : Nat} {s s' : σ} (h : body s = some (Sum.inl s')) : loop body (n + 1) s = loop body n s' := by simp [loop, h]
theorem loop_inr {σ ρ : Type} {body : σ → Option (σ ⊕ ρ)} {n : Nat} {s : σ} {r : ρ} (h : body s = some (Sum.inr r)) : loop body (n + 1) s = some r := by simp [loop, h]
theorem lp_spec {σ ρ : Type} {body : σ → Option (σ ⊕ ρ)} (Inv : σ → Prop) (μ : σ → Nat) (Post : ρ → Prop)
    (h : ∀ s, Inv s → ∃ x, body s = some x ∧ Sum.elim (fun s' => Inv s' ∧ μ s' < μ s) Post x) : ∀ n s, Inv s → μ s < n → ∃ r, loop body n s = some r ∧ Post r
  | 0, s, _, hn => absurd hn (Nat.not_lt_zero _)
  | n + 1, s, hi, hn => by
    obtain ⟨x, hx, hr⟩ := h s hi
    cases x with
    | inl s' =>
      have hr' : Inv s' ∧ μ s' < μ s := hr
      obtain ⟨r, e, p⟩ := lp_spec Inv μ Post h n s' hr'.1 (by have := hr'.2; omega)
      exact ⟨r, by simp [loop, hx, e], p⟩
    | inr r => exact ⟨r, by simp [loop, hx], hr⟩
theorem lp_one {σ ρ : Type} {body : σ → Option (σ ⊕ ρ)} {F : Nat} {s : σ} {r : ρ} (hF : 0 < F) (h : body s = some (Sum.inr r)) : loop body F s = some r := by
  cases F with
  | zero => omega
  | succ n => exact loop_inr h
theorem lp_iter_from {σ ρ : Type} {body : σ → Option (σ ⊕ ρ)} (g : Nat → σ) (N : Nat) (r : ρ) (hs : ∀ k, k < N → body (g k) = some (Sum.inl (g (k + 1)))) (he : body (g N) = some (Sum.inr r)) :
    ∀ F k, k ≤ N → N - k < F → loop body F (g k) = some r
  | 0, k, _, h => by omega
  | F + 1, k, hk, h => by
    by_cases e : k = N
    · subst e; exact loop_inr he
    · rw [loop_inl (hs k (by omega))]
      exact lp_iter_from g N r hs he F (k + 1) (by omega) (by omega)
theorem lp_iter {σ ρ : Type} {body : σ → Option (σ ⊕ ρ)} (g : Nat → σ) (N : Nat) (r : ρ) (hs : ∀ k, k < N → body (g k) = some (Sum.inl (g (k + 1)))) (he : body (g N) = some (Sum.inr r)) {F : Nat} (hF : N < F) :
    loop body F (g 0) = some r := lp_iter_from g N r hs he F 0 (by omega) (by omega)
theorem lp_fill {body : Int × Mo → Option ((Int × Mo) ⊕ Mo)} (N : Nat) (Q : Nat → Mo → Prop)
    (hs : ∀ (k : Nat) (O : Mo), k < N → Q k O → ∃ O', body ((k : Int), O) = some (Sum.inl (((k + 1 : Nat) : Int), O')) ∧ Q (k + 1) O') (he : ∀ O, Q N O → body ((N : Int), O) = some (Sum.inr O))
    {F : Nat} (hF : N < F) {O : Mo} (h0 : Q 0 O) : ∃ R, loop body F ((0 : Int), O) = some R ∧ Q N R :=
  lp_spec (body := body) (fun s => ∃ k : Nat, k ≤ N ∧ s.1 = (k : Int) ∧ Q k s.2) (fun s => N - s.1.toNat) (Q N)
    (by
      rintro ⟨i, R⟩ ⟨k, hk, h1, h2⟩
      dsimp only at h1 h2
      subst h1
      by_cases h : k < N
      · obtain ⟨O', e, q⟩ := hs k R h h2
        refine ⟨_, e, ⟨k + 1, by omega, rfl, q⟩, ?_⟩
        dsimp only; omega
      · have : k = N := by omega
        subst this
        exact ⟨_, he R h2, h2⟩) F (0, O) ⟨0, by omega, rfl, h0⟩ (by dsimp only; omega)
theorem t32s {k : Nat} (h : k < 2147483647) : w32 ((k : Int) + 1) = ((k + 1 : Nat) : Int) := by rw [t32 (by omega) (by omega)]; omega
end Jvm.Own

--USES Tools.lean
namespace Jvm.Own
theorem ctor_ok (F : Nat) (v0 v1 : Int) : ∃ r, k_ctor F v0 v1 = some r ∧ r 0 1 = (if v1 < 1 then 1 else if v1 ≤ 100 then v1 else 100) ∧ 1 ≤ r 0 1 ∧ r 0 1 ≤ 100 ∧ 3 ≤ r 0 0 ∧ r 0 2 = 0 ∧ r 0 3 = 0 := by
  simp only [k_ctor, j_k_ctor_69, j_k_ctor_78, j_k_ctor_90, j_k_ctor_101]
  repeat' split
  all_goals refine ⟨_, rfl, ?_, ?_, ?_, ?_, ?_, ?_⟩ <;> simp [upd] <;> omega
theorem inR (O : Mo) (a b : Int) (h1 : 1 ≤ O 0 1 ∧ O 0 1 ≤ 100) : k_inRange O a b = if a < -(O 0 1) ∨ O 0 1 < a ∨ b < -(O 0 1) ∨ O 0 1 < b then 0 else 1 := by
  simp only [k_inRange]; rw [t32 (x := -(O 0 1)) (by omega) (by omega)]
  repeat' split
  all_goals first | (exfalso; omega) | rfl
theorem sort0 (r : Mo) (h : r 0 2 = 0) : k_sortUnique 1000 r = some (0, r) := by
  have l1 : loop (fun s => b_k_sortUnique_16 1000 0 s.1 s.2) 1000 ((0, r)) = some r := lp_one (by omega) (by simp [b_k_sortUnique_16])
  have l2 : loop (fun s => b_k_sortUnique_56 1000 r 0 s) 1000 1 = some () := lp_one (by omega) (by simp [b_k_sortUnique_56])
  simp only [k_sortUnique, h]
  rw [if_pos (by omega)]
  simp only [j_k_sortUnique_14, l1, l2, Option.bind_some, ↓reduceIte]
theorem sort1 (r : Mo) (h : r 0 2 = 1) : k_sortUnique 1000 r = some (1, upd (upd r 5 0 (r 1 0)) 5 32 (r 2 0)) := by
  have l1 : loop (fun s => b_k_sortUnique_16 1000 1 s.1 s.2) 1000 ((0, r)) = some (upd (upd r 5 0 (r 1 0)) 5 32 (r 2 0)) := by
    refine lp_iter (body := fun s : Int × Mo => b_k_sortUnique_16 1000 1 s.1 s.2) (fun k => if k = 0 then (0, r) else (1, upd (upd r 5 0 (r 1 0)) 5 32 (r 2 0))) 1 _ ?_ ?_ (by omega)
    · intro k hk
      have : k = 0 := by omega
      subst this
      have e : w32 (32 + 0) = 32 := rfl
      have e1 : w32 (0 + 1) = 1 := rfl
      simp only [↓reduceIte, b_k_sortUnique_16, e, e1]
      rw [if_pos (by omega), if_pos (by omega), if_pos (by omega), if_pos (by omega), if_pos (by omega)]
      rfl
    · show b_k_sortUnique_16 1000 1 1 _ = _
      simp only [b_k_sortUnique_16]; rw [if_neg (by omega)]; rfl
  have l2 : ∀ Q, loop (fun s => b_k_sortUnique_56 1000 Q 1 s) 1000 1 = some () := fun Q => lp_one (by omega) (by simp [b_k_sortUnique_56])
  have l3 : ∀ Q, loop (fun s => b_k_sortUnique_108 1000 1 s.1 s.2.1 s.2.2) 1000 ((1, 1, Q)) = some (1, Q) := fun Q => lp_one (by omega) (by simp [b_k_sortUnique_108])
  simp only [k_sortUnique, h]
  rw [if_pos (by omega)]
  simp only [j_k_sortUnique_14, l1, l2, l3, Option.bind_some]
  rfl
theorem u_law_ok {v0 v1 v2 v3 : Int} (_ : R32 v0) (_ : R32 v1) (_ : R32 v2) (_ : R32 v3) : u_law 1000 v0 v1 v2 v3 = some 1 := by
  obtain ⟨r, h1, h2, h3, h4, h5, h6, h7⟩ := ctor_ok 1000 v0 v1
  have key : j_u_law_32 1000 r v2 v3 (r 0 1) = some 1 := by
    have hin := inR r v2 v3 ⟨h3, h4⟩
    by_cases hr : v2 < -(r 0 1) ∨ r 0 1 < v2 ∨ v3 < -(r 0 1) ∨ r 0 1 < v3
    · rw [if_pos hr] at hin
      have a : k_addPoint 1000 r v2 v3 = some (-1, r) := by simp [k_addPoint, hin]
      obtain ⟨B, b, b1, b2, b3, b4⟩ : ∃ B, k_build 1000 r = some (0, B) ∧ B 0 3 = 1 ∧ B 0 4 = 0 ∧ B 0 2 = 0 ∧ B 0 5 = 0 := by
        simp only [k_build, sort0 r h6, Option.bind_some, ↓reduceIte, j_k_build_60, k_computeDiameter, k_computeEdges]
        refine ⟨_, rfl, rfl, rfl, ?_, rfl⟩
        simp [upd, h6]
      have x1 : k_hullX 1000 B 0 = some 0 := by simp [k_hullX, b2]
      have x2 : k_hullY 1000 B 0 = some 0 := by simp [k_hullY, b2]
      have x3 : k_removeLast 1000 B = some (0, B) := by simp [k_removeLast, b3]
      have k : j_u_law_65 1000 r v2 v3 0 = some 1 := by
        simp only [j_u_law_65, a, b, x1, x2, x3, Option.bind_some, k_hullSize, k_diameter2, k_pointCount, b1, b2, b3, b4]; rfl
      simp only [j_u_law_32]; rw [t32 (x := -(r 0 1)) (by omega) (by omega)]
      repeat' split
      all_goals first | (exfalso; omega) | exact k
    · rw [if_neg hr] at hin
      have a : k_addPoint 1000 r v2 v3 = some (0, upd (upd (upd (upd r 1 0 v2) 2 0 v3) 0 2 1) 0 3 0) := by
        simp only [k_addPoint, hin, h6]
        rw [if_neg (by decide), if_pos (by omega), if_pos (by omega), if_pos (by omega), if_pos (by omega)]; rfl
      generalize hA : upd (upd (upd (upd r 1 0 v2) 2 0 v3) 0 2 1) 0 3 0 = A at a
      have a1 : A 0 2 = 1 := by rw [← hA]; rfl
      have a2 : A 1 0 = v2 := by rw [← hA]; rfl
      have a3 : A 2 0 = v3 := by rw [← hA]; rfl
      obtain ⟨B, b, b1, b2, b3, b4, b5⟩ : ∃ B, k_build 1000 A = some (1, B) ∧ B 0 3 = 1 ∧ B 0 4 = 1 ∧ B 0 2 = 1 ∧ B 3 0 = v2 ∧ B 4 0 = v3 := by
        simp only [k_build, sort1 A a1, Option.bind_some, j_k_build_60, k_computeDiameter, k_computeEdges]
        refine ⟨_, rfl, rfl, rfl, ?_, ?_, ?_⟩
        · simp [upd, a1]
        · simp [upd, a2]
        · simp [upd, a3]
      have x1 : k_hullX 1000 B 0 = some v2 := by simp [k_hullX, b1, b2, b4]
      have x2 : k_hullY 1000 B 0 = some v3 := by simp [k_hullY, b1, b2, b5]
      have x3 : k_removeLast 1000 B = some (1, upd (upd B 0 2 0) 0 3 0) := by simp [k_removeLast, b3, w32, Int.bmod]
      have k : j_u_law_65 1000 r v2 v3 1 = some 1 := by
        simp only [j_u_law_65, a, b, x1, x2, x3, Option.bind_some, k_hullSize, k_diameter2, k_pointCount, b1, b2, b3]
        simp [upd, j_u_law_146, j_u_law_163, j_u_law_187, j_u_law_202, j_u_law_233, j_u_law_252]
      simp only [j_u_law_32]; rw [t32 (x := -(r 0 1)) (by omega) (by omega)]
      repeat' split
      all_goals first | (exfalso; omega) | exact k
  simp only [u_law, h1, Option.bind_some]
  repeat' split
  all_goals (simp only [*, ↓reduceIte] at h2; rw [h2] at key; exact key)
end Jvm.Own

namespace Jvm.Pilot.@@N@@
open Jvm Jvm.ClassFile Sem Op Lib Jvm.Free Jvm.Stand Jvm.LawKit Jvm.RoadKit Bundle Jvm.Pilot.@@N@@.Jvm.D
open Jvm.Own
def D : Cls := ("CaliperHull", [(0, "capacity", "I", .int), (1, "range", "I", .int), (2, "count", "I", .int), (3, "built", "Z", .boolean), (4, "hullCount", "I", .int), (5, "diam2", "J", .long), (6, "diamA", "I", .int), (7, "diamB", "I", .int), (8, "wNum", "J", .long), (9, "wDen", "J", .long), (10, "wEdge", "I", .int), (11, "wFar", "I", .int), (12, "bNum", "J", .long), (13, "bDen", "J", .long), (14, "bEdge", "I", .int), (15, "bFar", "I", .int), (16, "bLow", "I", .int), (17, "bHigh", "I", .int), (18, "eH", "I", .int), (19, "eFar", "I", .int), (20, "eLo", "I", .int), (21, "eLow", "I", .int), (22, "eHi", "I", .int), (23, "eHigh", "I", .int)], [("px", "[I", .int, 32), ("py", "[I", .int, 32), ("hx", "[I", .int, 32), ("hy", "[I", .int, 32), ("work", "[I", .int, 64), ("stx", "[I", .int, 64), ("sty", "[I", .int, 64)])
theorem D_C : D.C = "CaliperHull" := rfl
theorem xc : x.cls = "CaliperHullL2" := rfl
theorem fs_capacity : (0, "capacity", "I", (.int : FieldType)) ∈ D.FS := List.mem_of_getElem? (i := 0) rfl
theorem fs_range : (1, "range", "I", (.int : FieldType)) ∈ D.FS := List.mem_of_getElem? (i := 1) rfl
theorem fs_count : (2, "count", "I", (.int : FieldType)) ∈ D.FS := List.mem_of_getElem? (i := 2) rfl
theorem fs_built : (3, "built", "Z", (.boolean : FieldType)) ∈ D.FS := List.mem_of_getElem? (i := 3) rfl
theorem fs_hullCount : (4, "hullCount", "I", (.int : FieldType)) ∈ D.FS := List.mem_of_getElem? (i := 4) rfl
theorem fs_diam2 : (5, "diam2", "J", (.long : FieldType)) ∈ D.FS := List.mem_of_getElem? (i := 5) rfl
theorem fs_diamA : (6, "diamA", "I", (.int : FieldType)) ∈ D.FS := List.mem_of_getElem? (i := 6) rfl
theorem fs_diamB : (7, "diamB", "I", (.int : FieldType)) ∈ D.FS := List.mem_of_getElem? (i := 7) rfl
theorem fs_wNum : (8, "wNum", "J", (.long : FieldType)) ∈ D.FS := List.mem_of_getElem? (i := 8) rfl
theorem fs_wDen : (9, "wDen", "J", (.long : FieldType)) ∈ D.FS := List.mem_of_getElem? (i := 9) rfl
theorem fs_wEdge : (10, "wEdge", "I", (.int : FieldType)) ∈ D.FS := List.mem_of_getElem? (i := 10) rfl
theorem fs_wFar : (11, "wFar", "I", (.int : FieldType)) ∈ D.FS := List.mem_of_getElem? (i := 11) rfl
theorem fs_bNum : (12, "bNum", "J", (.long : FieldType)) ∈ D.FS := List.mem_of_getElem? (i := 12) rfl
theorem fs_bDen : (13, "bDen", "J", (.long : FieldType)) ∈ D.FS := List.mem_of_getElem? (i := 13) rfl
theorem fs_bEdge : (14, "bEdge", "I", (.int : FieldType)) ∈ D.FS := List.mem_of_getElem? (i := 14) rfl
theorem fs_bFar : (15, "bFar", "I", (.int : FieldType)) ∈ D.FS := List.mem_of_getElem? (i := 15) rfl
theorem fs_bLow : (16, "bLow", "I", (.int : FieldType)) ∈ D.FS := List.mem_of_getElem? (i := 16) rfl
theorem fs_bHigh : (17, "bHigh", "I", (.int : FieldType)) ∈ D.FS := List.mem_of_getElem? (i := 17) rfl
theorem fs_eH : (18, "eH", "I", (.int : FieldType)) ∈ D.FS := List.mem_of_getElem? (i := 18) rfl
theorem fs_eFar : (19, "eFar", "I", (.int : FieldType)) ∈ D.FS := List.mem_of_getElem? (i := 19) rfl
theorem fs_eLo : (20, "eLo", "I", (.int : FieldType)) ∈ D.FS := List.mem_of_getElem? (i := 20) rfl
theorem fs_eLow : (21, "eLow", "I", (.int : FieldType)) ∈ D.FS := List.mem_of_getElem? (i := 21) rfl
theorem fs_eHi : (22, "eHi", "I", (.int : FieldType)) ∈ D.FS := List.mem_of_getElem? (i := 22) rfl
theorem fs_eHigh : (23, "eHigh", "I", (.int : FieldType)) ∈ D.FS := List.mem_of_getElem? (i := 23) rfl
theorem w_0 {Z : State} {a0 : Array Value} (hw : ∀ d ∈ tables_1, d.before a0 Z = true) : (Jvm.Cond.classLink "CaliperHullL2" 7 "CaliperHull").before a0 Z = true := hw _ (List.mem_of_getElem? (i := 0) rfl)
theorem w_1 {Z : State} {a0 : Array Value} (hw : ∀ d ∈ tables_1, d.before a0 Z = true) : (Jvm.Cond.instantiable "CaliperHull" 31).before a0 Z = true := hw _ (List.mem_of_getElem? (i := 1) rfl)
theorem w_2 {Z : State} {a0 : Array Value} (hw : ∀ d ∈ tables_1, d.before a0 Z = true) : (Jvm.Cond.initialized "CaliperHull").before a0 Z = true := hw _ (List.mem_of_getElem? (i := 2) rfl)
theorem w_3 {Z : State} {a0 : Array Value} (hw : ∀ d ∈ tables_1, d.before a0 Z = true) : (Jvm.Cond.methodLink "CaliperHullL2" 9 ({ cls := "CaliperHull", name := "<init>", desc := "(II)V" } : Jvm.MethodName)).before a0 Z = true := hw _ (List.mem_of_getElem? (i := 3) rfl)
theorem w_4 {Z : State} {a0 : Array Value} (hw : ∀ d ∈ tables_1, d.before a0 Z = true) : (Jvm.Cond.instanceMethod ({ cls := "CaliperHull", name := "<init>", desc := "(II)V" } : Jvm.MethodName)).before a0 Z = true := hw _ (List.mem_of_getElem? (i := 4) rfl)
theorem w_5 {Z : State} {a0 : Array Value} (hw : ∀ d ∈ tables_1, d.before a0 Z = true) : (Jvm.Cond.code ({ cls := "CaliperHull", name := "<init>", desc := "(II)V" } : Jvm.MethodName) prog_1_method_1_code 5 (Option.none : Option Jvm.ClassFile.FieldType)).before a0 Z = true := hw _ (List.mem_of_getElem? (i := 5) rfl)
theorem w_6 {Z : State} {a0 : Array Value} (hw : ∀ d ∈ tables_1, d.before a0 Z = true) : (Jvm.Cond.methodLink "CaliperHull" 1 ({ cls := "java/lang/Object", name := "<init>", desc := "()V" } : Jvm.MethodName)).before a0 Z = true := hw _ (List.mem_of_getElem? (i := 6) rfl)
theorem w_7 {Z : State} {a0 : Array Value} (hw : ∀ d ∈ tables_1, d.before a0 Z = true) : (Jvm.Cond.instanceMethod ({ cls := "java/lang/Object", name := "<init>", desc := "()V" } : Jvm.MethodName)).before a0 Z = true := hw _ (List.mem_of_getElem? (i := 7) rfl)
theorem w_8 {Z : State} {a0 : Array Value} (hw : ∀ d ∈ tables_1, d.before a0 Z = true) : (Jvm.Cond.code ({ cls := "java/lang/Object", name := "<init>", desc := "()V" } : Jvm.MethodName) object_method_1_code 1 (Option.none : Option Jvm.ClassFile.FieldType)).before a0 Z = true := hw _ (List.mem_of_getElem? (i := 8) rfl)
theorem w_9 {Z : State} {a0 : Array Value} (hw : ∀ d ∈ tables_1, d.before a0 Z = true) : (Jvm.Cond.arrayClass Jvm.ClassFile.FieldType.int).before a0 Z = true := hw _ (List.mem_of_getElem? (i := 9) rfl)
theorem w_10 {Z : State} {a0 : Array Value} (hw : ∀ d ∈ tables_1, d.before a0 Z = true) : (Jvm.Cond.fieldLink "CaliperHull" 7 "CaliperHull" "px" "[I").before a0 Z = true := hw _ (List.mem_of_getElem? (i := 10) rfl)
theorem w_11 {Z : State} {a0 : Array Value} (hw : ∀ d ∈ tables_1, d.before a0 Z = true) : (Jvm.Cond.lays "CaliperHull" "CaliperHull" "px" "[I").before a0 Z = true := hw _ (List.mem_of_getElem? (i := 11) rfl)
theorem w_12 {Z : State} {a0 : Array Value} (hw : ∀ d ∈ tables_1, d.before a0 Z = true) : (Jvm.Cond.fieldLink "CaliperHull" 13 "CaliperHull" "py" "[I").before a0 Z = true := hw _ (List.mem_of_getElem? (i := 12) rfl)
theorem w_13 {Z : State} {a0 : Array Value} (hw : ∀ d ∈ tables_1, d.before a0 Z = true) : (Jvm.Cond.lays "CaliperHull" "CaliperHull" "py" "[I").before a0 Z = true := hw _ (List.mem_of_getElem? (i := 13) rfl)
theorem w_14 {Z : State} {a0 : Array Value} (hw : ∀ d ∈ tables_1, d.before a0 Z = true) : (Jvm.Cond.fieldLink "CaliperHull" 16 "CaliperHull" "hx" "[I").before a0 Z = true := hw _ (List.mem_of_getElem? (i := 14) rfl)
theorem w_15 {Z : State} {a0 : Array Value} (hw : ∀ d ∈ tables_1, d.before a0 Z = true) : (Jvm.Cond.lays "CaliperHull" "CaliperHull" "hx" "[I").before a0 Z = true := hw _ (List.mem_of_getElem? (i := 15) rfl)
theorem w_16 {Z : State} {a0 : Array Value} (hw : ∀ d ∈ tables_1, d.before a0 Z = true) : (Jvm.Cond.fieldLink "CaliperHull" 19 "CaliperHull" "hy" "[I").before a0 Z = true := hw _ (List.mem_of_getElem? (i := 16) rfl)
theorem w_17 {Z : State} {a0 : Array Value} (hw : ∀ d ∈ tables_1, d.before a0 Z = true) : (Jvm.Cond.lays "CaliperHull" "CaliperHull" "hy" "[I").before a0 Z = true := hw _ (List.mem_of_getElem? (i := 17) rfl)
theorem w_18 {Z : State} {a0 : Array Value} (hw : ∀ d ∈ tables_1, d.before a0 Z = true) : (Jvm.Cond.fieldLink "CaliperHull" 22 "CaliperHull" "work" "[I").before a0 Z = true := hw _ (List.mem_of_getElem? (i := 18) rfl)
theorem w_19 {Z : State} {a0 : Array Value} (hw : ∀ d ∈ tables_1, d.before a0 Z = true) : (Jvm.Cond.lays "CaliperHull" "CaliperHull" "work" "[I").before a0 Z = true := hw _ (List.mem_of_getElem? (i := 19) rfl)
theorem w_20 {Z : State} {a0 : Array Value} (hw : ∀ d ∈ tables_1, d.before a0 Z = true) : (Jvm.Cond.fieldLink "CaliperHull" 25 "CaliperHull" "stx" "[I").before a0 Z = true := hw _ (List.mem_of_getElem? (i := 20) rfl)
theorem w_21 {Z : State} {a0 : Array Value} (hw : ∀ d ∈ tables_1, d.before a0 Z = true) : (Jvm.Cond.lays "CaliperHull" "CaliperHull" "stx" "[I").before a0 Z = true := hw _ (List.mem_of_getElem? (i := 21) rfl)
theorem w_22 {Z : State} {a0 : Array Value} (hw : ∀ d ∈ tables_1, d.before a0 Z = true) : (Jvm.Cond.fieldLink "CaliperHull" 28 "CaliperHull" "sty" "[I").before a0 Z = true := hw _ (List.mem_of_getElem? (i := 22) rfl)
theorem w_23 {Z : State} {a0 : Array Value} (hw : ∀ d ∈ tables_1, d.before a0 Z = true) : (Jvm.Cond.lays "CaliperHull" "CaliperHull" "sty" "[I").before a0 Z = true := hw _ (List.mem_of_getElem? (i := 23) rfl)
theorem w_24 {Z : State} {a0 : Array Value} (hw : ∀ d ∈ tables_1, d.before a0 Z = true) : (Jvm.Cond.fieldLink "CaliperHull" 31 "CaliperHull" "capacity" "I").before a0 Z = true := hw _ (List.mem_of_getElem? (i := 24) rfl)
theorem w_25 {Z : State} {a0 : Array Value} (hw : ∀ d ∈ tables_1, d.before a0 Z = true) : (Jvm.Cond.lays "CaliperHull" "CaliperHull" "capacity" "I").before a0 Z = true := hw _ (List.mem_of_getElem? (i := 25) rfl)
theorem w_26 {Z : State} {a0 : Array Value} (hw : ∀ d ∈ tables_1, d.before a0 Z = true) : (Jvm.Cond.fieldLink "CaliperHull" 35 "CaliperHull" "range" "I").before a0 Z = true := hw _ (List.mem_of_getElem? (i := 26) rfl)
theorem w_27 {Z : State} {a0 : Array Value} (hw : ∀ d ∈ tables_1, d.before a0 Z = true) : (Jvm.Cond.lays "CaliperHull" "CaliperHull" "range" "I").before a0 Z = true := hw _ (List.mem_of_getElem? (i := 27) rfl)
theorem w_28 {Z : State} {a0 : Array Value} (hw : ∀ d ∈ tables_1, d.before a0 Z = true) : (Jvm.Cond.fieldLink "CaliperHull" 38 "CaliperHull" "count" "I").before a0 Z = true := hw _ (List.mem_of_getElem? (i := 28) rfl)
theorem w_29 {Z : State} {a0 : Array Value} (hw : ∀ d ∈ tables_1, d.before a0 Z = true) : (Jvm.Cond.lays "CaliperHull" "CaliperHull" "count" "I").before a0 Z = true := hw _ (List.mem_of_getElem? (i := 29) rfl)
theorem w_30 {Z : State} {a0 : Array Value} (hw : ∀ d ∈ tables_1, d.before a0 Z = true) : (Jvm.Cond.fieldLink "CaliperHull" 41 "CaliperHull" "built" "Z").before a0 Z = true := hw _ (List.mem_of_getElem? (i := 30) rfl)
theorem w_31 {Z : State} {a0 : Array Value} (hw : ∀ d ∈ tables_1, d.before a0 Z = true) : (Jvm.Cond.lays "CaliperHull" "CaliperHull" "built" "Z").before a0 Z = true := hw _ (List.mem_of_getElem? (i := 31) rfl)
theorem w_32 {Z : State} {a0 : Array Value} (hw : ∀ d ∈ tables_1, d.before a0 Z = true) : (Jvm.Cond.methodLink "CaliperHullL2" 12 ({ cls := "CaliperHull", name := "addPoint", desc := "(II)I" } : Jvm.MethodName)).before a0 Z = true := hw _ (List.mem_of_getElem? (i := 32) rfl)
theorem w_33 {Z : State} {a0 : Array Value} (hw : ∀ d ∈ tables_1, d.before a0 Z = true) : (Jvm.Cond.declares ({ cls := "CaliperHull", name := "addPoint", desc := "(II)I" } : Jvm.MethodName)).before a0 Z = true := hw _ (List.mem_of_getElem? (i := 33) rfl)
theorem w_34 {Z : State} {a0 : Array Value} (hw : ∀ d ∈ tables_1, d.before a0 Z = true) : (Jvm.Cond.instanceMethod ({ cls := "CaliperHull", name := "addPoint", desc := "(II)I" } : Jvm.MethodName)).before a0 Z = true := hw _ (List.mem_of_getElem? (i := 34) rfl)
theorem w_35 {Z : State} {a0 : Array Value} (hw : ∀ d ∈ tables_1, d.before a0 Z = true) : (Jvm.Cond.selects "CaliperHull" ({ cls := "CaliperHull", name := "addPoint", desc := "(II)I" } : Jvm.MethodName) ({ cls := "CaliperHull", name := "addPoint", desc := "(II)I" } : Jvm.MethodName)).before a0 Z = true := hw _ (List.mem_of_getElem? (i := 35) rfl)
theorem w_36 {Z : State} {a0 : Array Value} (hw : ∀ d ∈ tables_1, d.before a0 Z = true) : (Jvm.Cond.code ({ cls := "CaliperHull", name := "addPoint", desc := "(II)I" } : Jvm.MethodName) prog_1_method_2_code 3 (Option.some Jvm.ClassFile.FieldType.int)).before a0 Z = true := hw _ (List.mem_of_getElem? (i := 36) rfl)
theorem w_37 {Z : State} {a0 : Array Value} (hw : ∀ d ∈ tables_1, d.before a0 Z = true) : (Jvm.Cond.methodLink "CaliperHull" 45 ({ cls := "CaliperHull", name := "inRange", desc := "(II)Z" } : Jvm.MethodName)).before a0 Z = true := hw _ (List.mem_of_getElem? (i := 37) rfl)
theorem w_38 {Z : State} {a0 : Array Value} (hw : ∀ d ∈ tables_1, d.before a0 Z = true) : (Jvm.Cond.instanceMethod ({ cls := "CaliperHull", name := "inRange", desc := "(II)Z" } : Jvm.MethodName)).before a0 Z = true := hw _ (List.mem_of_getElem? (i := 38) rfl)
theorem w_39 {Z : State} {a0 : Array Value} (hw : ∀ d ∈ tables_1, d.before a0 Z = true) : (Jvm.Cond.privateMethod ({ cls := "CaliperHull", name := "inRange", desc := "(II)Z" } : Jvm.MethodName)).before a0 Z = true := hw _ (List.mem_of_getElem? (i := 39) rfl)
theorem w_40 {Z : State} {a0 : Array Value} (hw : ∀ d ∈ tables_1, d.before a0 Z = true) : (Jvm.Cond.code ({ cls := "CaliperHull", name := "inRange", desc := "(II)Z" } : Jvm.MethodName) prog_1_method_17_code 3 (Option.some Jvm.ClassFile.FieldType.boolean)).before a0 Z = true := hw _ (List.mem_of_getElem? (i := 40) rfl)
theorem w_41 {Z : State} {a0 : Array Value} (hw : ∀ d ∈ tables_1, d.before a0 Z = true) : (Jvm.Cond.methodLink "CaliperHullL2" 16 ({ cls := "CaliperHull", name := "build", desc := "()I" } : Jvm.MethodName)).before a0 Z = true := hw _ (List.mem_of_getElem? (i := 41) rfl)
theorem w_42 {Z : State} {a0 : Array Value} (hw : ∀ d ∈ tables_1, d.before a0 Z = true) : (Jvm.Cond.declares ({ cls := "CaliperHull", name := "build", desc := "()I" } : Jvm.MethodName)).before a0 Z = true := hw _ (List.mem_of_getElem? (i := 42) rfl)
theorem w_43 {Z : State} {a0 : Array Value} (hw : ∀ d ∈ tables_1, d.before a0 Z = true) : (Jvm.Cond.instanceMethod ({ cls := "CaliperHull", name := "build", desc := "()I" } : Jvm.MethodName)).before a0 Z = true := hw _ (List.mem_of_getElem? (i := 43) rfl)
theorem w_44 {Z : State} {a0 : Array Value} (hw : ∀ d ∈ tables_1, d.before a0 Z = true) : (Jvm.Cond.selects "CaliperHull" ({ cls := "CaliperHull", name := "build", desc := "()I" } : Jvm.MethodName) ({ cls := "CaliperHull", name := "build", desc := "()I" } : Jvm.MethodName)).before a0 Z = true := hw _ (List.mem_of_getElem? (i := 44) rfl)
theorem w_45 {Z : State} {a0 : Array Value} (hw : ∀ d ∈ tables_1, d.before a0 Z = true) : (Jvm.Cond.code ({ cls := "CaliperHull", name := "build", desc := "()I" } : Jvm.MethodName) prog_1_method_8_code 2 (Option.some Jvm.ClassFile.FieldType.int)).before a0 Z = true := hw _ (List.mem_of_getElem? (i := 45) rfl)
theorem w_46 {Z : State} {a0 : Array Value} (hw : ∀ d ∈ tables_1, d.before a0 Z = true) : (Jvm.Cond.methodLink "CaliperHull" 49 ({ cls := "CaliperHull", name := "sortUnique", desc := "()I" } : Jvm.MethodName)).before a0 Z = true := hw _ (List.mem_of_getElem? (i := 46) rfl)
theorem w_47 {Z : State} {a0 : Array Value} (hw : ∀ d ∈ tables_1, d.before a0 Z = true) : (Jvm.Cond.instanceMethod ({ cls := "CaliperHull", name := "sortUnique", desc := "()I" } : Jvm.MethodName)).before a0 Z = true := hw _ (List.mem_of_getElem? (i := 47) rfl)
theorem w_48 {Z : State} {a0 : Array Value} (hw : ∀ d ∈ tables_1, d.before a0 Z = true) : (Jvm.Cond.privateMethod ({ cls := "CaliperHull", name := "sortUnique", desc := "()I" } : Jvm.MethodName)).before a0 Z = true := hw _ (List.mem_of_getElem? (i := 48) rfl)
theorem w_49 {Z : State} {a0 : Array Value} (hw : ∀ d ∈ tables_1, d.before a0 Z = true) : (Jvm.Cond.code ({ cls := "CaliperHull", name := "sortUnique", desc := "()I" } : Jvm.MethodName) prog_1_method_18_code 4 (Option.some Jvm.ClassFile.FieldType.int)).before a0 Z = true := hw _ (List.mem_of_getElem? (i := 49) rfl)
theorem w_50 {Z : State} {a0 : Array Value} (hw : ∀ d ∈ tables_1, d.before a0 Z = true) : (Jvm.Cond.fieldLink "CaliperHull" 53 "CaliperHull" "hullCount" "I").before a0 Z = true := hw _ (List.mem_of_getElem? (i := 50) rfl)
theorem w_51 {Z : State} {a0 : Array Value} (hw : ∀ d ∈ tables_1, d.before a0 Z = true) : (Jvm.Cond.lays "CaliperHull" "CaliperHull" "hullCount" "I").before a0 Z = true := hw _ (List.mem_of_getElem? (i := 51) rfl)
theorem w_52 {Z : State} {a0 : Array Value} (hw : ∀ d ∈ tables_1, d.before a0 Z = true) : (Jvm.Cond.methodLink "CaliperHull" 60 ({ cls := "CaliperHull", name := "computeDiameter", desc := "()V" } : Jvm.MethodName)).before a0 Z = true := hw _ (List.mem_of_getElem? (i := 52) rfl)
theorem w_53 {Z : State} {a0 : Array Value} (hw : ∀ d ∈ tables_1, d.before a0 Z = true) : (Jvm.Cond.instanceMethod ({ cls := "CaliperHull", name := "computeDiameter", desc := "()V" } : Jvm.MethodName)).before a0 Z = true := hw _ (List.mem_of_getElem? (i := 53) rfl)
theorem w_54 {Z : State} {a0 : Array Value} (hw : ∀ d ∈ tables_1, d.before a0 Z = true) : (Jvm.Cond.privateMethod ({ cls := "CaliperHull", name := "computeDiameter", desc := "()V" } : Jvm.MethodName)).before a0 Z = true := hw _ (List.mem_of_getElem? (i := 54) rfl)
theorem w_55 {Z : State} {a0 : Array Value} (hw : ∀ d ∈ tables_1, d.before a0 Z = true) : (Jvm.Cond.code ({ cls := "CaliperHull", name := "computeDiameter", desc := "()V" } : Jvm.MethodName) prog_1_method_25_code 6 (Option.none : Option Jvm.ClassFile.FieldType)).before a0 Z = true := hw _ (List.mem_of_getElem? (i := 55) rfl)
theorem w_56 {Z : State} {a0 : Array Value} (hw : ∀ d ∈ tables_1, d.before a0 Z = true) : (Jvm.Cond.fieldLink "CaliperHull" 68 "CaliperHull" "diam2" "J").before a0 Z = true := hw _ (List.mem_of_getElem? (i := 56) rfl)
theorem w_57 {Z : State} {a0 : Array Value} (hw : ∀ d ∈ tables_1, d.before a0 Z = true) : (Jvm.Cond.lays "CaliperHull" "CaliperHull" "diam2" "J").before a0 Z = true := hw _ (List.mem_of_getElem? (i := 57) rfl)
theorem w_58 {Z : State} {a0 : Array Value} (hw : ∀ d ∈ tables_1, d.before a0 Z = true) : (Jvm.Cond.fieldLink "CaliperHull" 72 "CaliperHull" "diamA" "I").before a0 Z = true := hw _ (List.mem_of_getElem? (i := 58) rfl)
theorem w_59 {Z : State} {a0 : Array Value} (hw : ∀ d ∈ tables_1, d.before a0 Z = true) : (Jvm.Cond.lays "CaliperHull" "CaliperHull" "diamA" "I").before a0 Z = true := hw _ (List.mem_of_getElem? (i := 59) rfl)
theorem w_60 {Z : State} {a0 : Array Value} (hw : ∀ d ∈ tables_1, d.before a0 Z = true) : (Jvm.Cond.fieldLink "CaliperHull" 75 "CaliperHull" "diamB" "I").before a0 Z = true := hw _ (List.mem_of_getElem? (i := 60) rfl)
theorem w_61 {Z : State} {a0 : Array Value} (hw : ∀ d ∈ tables_1, d.before a0 Z = true) : (Jvm.Cond.lays "CaliperHull" "CaliperHull" "diamB" "I").before a0 Z = true := hw _ (List.mem_of_getElem? (i := 61) rfl)
theorem w_62 {Z : State} {a0 : Array Value} (hw : ∀ d ∈ tables_1, d.before a0 Z = true) : (Jvm.Cond.methodLink "CaliperHull" 63 ({ cls := "CaliperHull", name := "computeEdges", desc := "()V" } : Jvm.MethodName)).before a0 Z = true := hw _ (List.mem_of_getElem? (i := 62) rfl)
theorem w_63 {Z : State} {a0 : Array Value} (hw : ∀ d ∈ tables_1, d.before a0 Z = true) : (Jvm.Cond.instanceMethod ({ cls := "CaliperHull", name := "computeEdges", desc := "()V" } : Jvm.MethodName)).before a0 Z = true := hw _ (List.mem_of_getElem? (i := 63) rfl)
theorem w_64 {Z : State} {a0 : Array Value} (hw : ∀ d ∈ tables_1, d.before a0 Z = true) : (Jvm.Cond.privateMethod ({ cls := "CaliperHull", name := "computeEdges", desc := "()V" } : Jvm.MethodName)).before a0 Z = true := hw _ (List.mem_of_getElem? (i := 64) rfl)
theorem w_65 {Z : State} {a0 : Array Value} (hw : ∀ d ∈ tables_1, d.before a0 Z = true) : (Jvm.Cond.code ({ cls := "CaliperHull", name := "computeEdges", desc := "()V" } : Jvm.MethodName) prog_1_method_26_code 10 (Option.none : Option Jvm.ClassFile.FieldType)).before a0 Z = true := hw _ (List.mem_of_getElem? (i := 65) rfl)
theorem w_66 {Z : State} {a0 : Array Value} (hw : ∀ d ∈ tables_1, d.before a0 Z = true) : (Jvm.Cond.fieldLink "CaliperHull" 78 "CaliperHull" "wNum" "J").before a0 Z = true := hw _ (List.mem_of_getElem? (i := 66) rfl)
theorem w_67 {Z : State} {a0 : Array Value} (hw : ∀ d ∈ tables_1, d.before a0 Z = true) : (Jvm.Cond.lays "CaliperHull" "CaliperHull" "wNum" "J").before a0 Z = true := hw _ (List.mem_of_getElem? (i := 67) rfl)
theorem w_68 {Z : State} {a0 : Array Value} (hw : ∀ d ∈ tables_1, d.before a0 Z = true) : (Jvm.Cond.fieldLink "CaliperHull" 81 "CaliperHull" "wDen" "J").before a0 Z = true := hw _ (List.mem_of_getElem? (i := 68) rfl)
theorem w_69 {Z : State} {a0 : Array Value} (hw : ∀ d ∈ tables_1, d.before a0 Z = true) : (Jvm.Cond.lays "CaliperHull" "CaliperHull" "wDen" "J").before a0 Z = true := hw _ (List.mem_of_getElem? (i := 69) rfl)
theorem w_70 {Z : State} {a0 : Array Value} (hw : ∀ d ∈ tables_1, d.before a0 Z = true) : (Jvm.Cond.fieldLink "CaliperHull" 84 "CaliperHull" "wEdge" "I").before a0 Z = true := hw _ (List.mem_of_getElem? (i := 70) rfl)
theorem w_71 {Z : State} {a0 : Array Value} (hw : ∀ d ∈ tables_1, d.before a0 Z = true) : (Jvm.Cond.lays "CaliperHull" "CaliperHull" "wEdge" "I").before a0 Z = true := hw _ (List.mem_of_getElem? (i := 71) rfl)
theorem w_72 {Z : State} {a0 : Array Value} (hw : ∀ d ∈ tables_1, d.before a0 Z = true) : (Jvm.Cond.fieldLink "CaliperHull" 87 "CaliperHull" "wFar" "I").before a0 Z = true := hw _ (List.mem_of_getElem? (i := 72) rfl)
theorem w_73 {Z : State} {a0 : Array Value} (hw : ∀ d ∈ tables_1, d.before a0 Z = true) : (Jvm.Cond.lays "CaliperHull" "CaliperHull" "wFar" "I").before a0 Z = true := hw _ (List.mem_of_getElem? (i := 73) rfl)
theorem w_74 {Z : State} {a0 : Array Value} (hw : ∀ d ∈ tables_1, d.before a0 Z = true) : (Jvm.Cond.fieldLink "CaliperHull" 90 "CaliperHull" "bNum" "J").before a0 Z = true := hw _ (List.mem_of_getElem? (i := 74) rfl)
theorem w_75 {Z : State} {a0 : Array Value} (hw : ∀ d ∈ tables_1, d.before a0 Z = true) : (Jvm.Cond.lays "CaliperHull" "CaliperHull" "bNum" "J").before a0 Z = true := hw _ (List.mem_of_getElem? (i := 75) rfl)
theorem w_76 {Z : State} {a0 : Array Value} (hw : ∀ d ∈ tables_1, d.before a0 Z = true) : (Jvm.Cond.fieldLink "CaliperHull" 93 "CaliperHull" "bDen" "J").before a0 Z = true := hw _ (List.mem_of_getElem? (i := 76) rfl)
theorem w_77 {Z : State} {a0 : Array Value} (hw : ∀ d ∈ tables_1, d.before a0 Z = true) : (Jvm.Cond.lays "CaliperHull" "CaliperHull" "bDen" "J").before a0 Z = true := hw _ (List.mem_of_getElem? (i := 77) rfl)
theorem w_78 {Z : State} {a0 : Array Value} (hw : ∀ d ∈ tables_1, d.before a0 Z = true) : (Jvm.Cond.fieldLink "CaliperHull" 96 "CaliperHull" "bEdge" "I").before a0 Z = true := hw _ (List.mem_of_getElem? (i := 78) rfl)
theorem w_79 {Z : State} {a0 : Array Value} (hw : ∀ d ∈ tables_1, d.before a0 Z = true) : (Jvm.Cond.lays "CaliperHull" "CaliperHull" "bEdge" "I").before a0 Z = true := hw _ (List.mem_of_getElem? (i := 79) rfl)
theorem w_80 {Z : State} {a0 : Array Value} (hw : ∀ d ∈ tables_1, d.before a0 Z = true) : (Jvm.Cond.fieldLink "CaliperHull" 99 "CaliperHull" "bFar" "I").before a0 Z = true := hw _ (List.mem_of_getElem? (i := 80) rfl)
theorem w_81 {Z : State} {a0 : Array Value} (hw : ∀ d ∈ tables_1, d.before a0 Z = true) : (Jvm.Cond.lays "CaliperHull" "CaliperHull" "bFar" "I").before a0 Z = true := hw _ (List.mem_of_getElem? (i := 81) rfl)
theorem w_82 {Z : State} {a0 : Array Value} (hw : ∀ d ∈ tables_1, d.before a0 Z = true) : (Jvm.Cond.fieldLink "CaliperHull" 102 "CaliperHull" "bLow" "I").before a0 Z = true := hw _ (List.mem_of_getElem? (i := 82) rfl)
theorem w_83 {Z : State} {a0 : Array Value} (hw : ∀ d ∈ tables_1, d.before a0 Z = true) : (Jvm.Cond.lays "CaliperHull" "CaliperHull" "bLow" "I").before a0 Z = true := hw _ (List.mem_of_getElem? (i := 83) rfl)
theorem w_84 {Z : State} {a0 : Array Value} (hw : ∀ d ∈ tables_1, d.before a0 Z = true) : (Jvm.Cond.fieldLink "CaliperHull" 105 "CaliperHull" "bHigh" "I").before a0 Z = true := hw _ (List.mem_of_getElem? (i := 84) rfl)
theorem w_85 {Z : State} {a0 : Array Value} (hw : ∀ d ∈ tables_1, d.before a0 Z = true) : (Jvm.Cond.lays "CaliperHull" "CaliperHull" "bHigh" "I").before a0 Z = true := hw _ (List.mem_of_getElem? (i := 85) rfl)
theorem w_86 {Z : State} {a0 : Array Value} (hw : ∀ d ∈ tables_1, d.before a0 Z = true) : (Jvm.Cond.methodLink "CaliperHullL2" 20 ({ cls := "CaliperHull", name := "hullSize", desc := "()I" } : Jvm.MethodName)).before a0 Z = true := hw _ (List.mem_of_getElem? (i := 86) rfl)
theorem w_87 {Z : State} {a0 : Array Value} (hw : ∀ d ∈ tables_1, d.before a0 Z = true) : (Jvm.Cond.declares ({ cls := "CaliperHull", name := "hullSize", desc := "()I" } : Jvm.MethodName)).before a0 Z = true := hw _ (List.mem_of_getElem? (i := 87) rfl)
theorem w_88 {Z : State} {a0 : Array Value} (hw : ∀ d ∈ tables_1, d.before a0 Z = true) : (Jvm.Cond.instanceMethod ({ cls := "CaliperHull", name := "hullSize", desc := "()I" } : Jvm.MethodName)).before a0 Z = true := hw _ (List.mem_of_getElem? (i := 88) rfl)
theorem w_89 {Z : State} {a0 : Array Value} (hw : ∀ d ∈ tables_1, d.before a0 Z = true) : (Jvm.Cond.selects "CaliperHull" ({ cls := "CaliperHull", name := "hullSize", desc := "()I" } : Jvm.MethodName) ({ cls := "CaliperHull", name := "hullSize", desc := "()I" } : Jvm.MethodName)).before a0 Z = true := hw _ (List.mem_of_getElem? (i := 89) rfl)
theorem w_90 {Z : State} {a0 : Array Value} (hw : ∀ d ∈ tables_1, d.before a0 Z = true) : (Jvm.Cond.code ({ cls := "CaliperHull", name := "hullSize", desc := "()I" } : Jvm.MethodName) prog_1_method_9_code 1 (Option.some Jvm.ClassFile.FieldType.int)).before a0 Z = true := hw _ (List.mem_of_getElem? (i := 90) rfl)
theorem w_91 {Z : State} {a0 : Array Value} (hw : ∀ d ∈ tables_1, d.before a0 Z = true) : (Jvm.Cond.methodLink "CaliperHullL2" 23 ({ cls := "CaliperHull", name := "hullX", desc := "(I)I" } : Jvm.MethodName)).before a0 Z = true := hw _ (List.mem_of_getElem? (i := 91) rfl)
theorem w_92 {Z : State} {a0 : Array Value} (hw : ∀ d ∈ tables_1, d.before a0 Z = true) : (Jvm.Cond.declares ({ cls := "CaliperHull", name := "hullX", desc := "(I)I" } : Jvm.MethodName)).before a0 Z = true := hw _ (List.mem_of_getElem? (i := 92) rfl)
theorem w_93 {Z : State} {a0 : Array Value} (hw : ∀ d ∈ tables_1, d.before a0 Z = true) : (Jvm.Cond.instanceMethod ({ cls := "CaliperHull", name := "hullX", desc := "(I)I" } : Jvm.MethodName)).before a0 Z = true := hw _ (List.mem_of_getElem? (i := 93) rfl)
theorem w_94 {Z : State} {a0 : Array Value} (hw : ∀ d ∈ tables_1, d.before a0 Z = true) : (Jvm.Cond.selects "CaliperHull" ({ cls := "CaliperHull", name := "hullX", desc := "(I)I" } : Jvm.MethodName) ({ cls := "CaliperHull", name := "hullX", desc := "(I)I" } : Jvm.MethodName)).before a0 Z = true := hw _ (List.mem_of_getElem? (i := 94) rfl)
theorem w_95 {Z : State} {a0 : Array Value} (hw : ∀ d ∈ tables_1, d.before a0 Z = true) : (Jvm.Cond.code ({ cls := "CaliperHull", name := "hullX", desc := "(I)I" } : Jvm.MethodName) prog_1_method_10_code 2 (Option.some Jvm.ClassFile.FieldType.int)).before a0 Z = true := hw _ (List.mem_of_getElem? (i := 95) rfl)
theorem w_96 {Z : State} {a0 : Array Value} (hw : ∀ d ∈ tables_1, d.before a0 Z = true) : (Jvm.Cond.methodLink "CaliperHullL2" 27 ({ cls := "CaliperHull", name := "hullY", desc := "(I)I" } : Jvm.MethodName)).before a0 Z = true := hw _ (List.mem_of_getElem? (i := 96) rfl)
theorem w_97 {Z : State} {a0 : Array Value} (hw : ∀ d ∈ tables_1, d.before a0 Z = true) : (Jvm.Cond.declares ({ cls := "CaliperHull", name := "hullY", desc := "(I)I" } : Jvm.MethodName)).before a0 Z = true := hw _ (List.mem_of_getElem? (i := 97) rfl)
theorem w_98 {Z : State} {a0 : Array Value} (hw : ∀ d ∈ tables_1, d.before a0 Z = true) : (Jvm.Cond.instanceMethod ({ cls := "CaliperHull", name := "hullY", desc := "(I)I" } : Jvm.MethodName)).before a0 Z = true := hw _ (List.mem_of_getElem? (i := 98) rfl)
theorem w_99 {Z : State} {a0 : Array Value} (hw : ∀ d ∈ tables_1, d.before a0 Z = true) : (Jvm.Cond.selects "CaliperHull" ({ cls := "CaliperHull", name := "hullY", desc := "(I)I" } : Jvm.MethodName) ({ cls := "CaliperHull", name := "hullY", desc := "(I)I" } : Jvm.MethodName)).before a0 Z = true := hw _ (List.mem_of_getElem? (i := 99) rfl)
theorem w_100 {Z : State} {a0 : Array Value} (hw : ∀ d ∈ tables_1, d.before a0 Z = true) : (Jvm.Cond.code ({ cls := "CaliperHull", name := "hullY", desc := "(I)I" } : Jvm.MethodName) prog_1_method_11_code 2 (Option.some Jvm.ClassFile.FieldType.int)).before a0 Z = true := hw _ (List.mem_of_getElem? (i := 100) rfl)
theorem w_101 {Z : State} {a0 : Array Value} (hw : ∀ d ∈ tables_1, d.before a0 Z = true) : (Jvm.Cond.methodLink "CaliperHullL2" 30 ({ cls := "CaliperHull", name := "removeLast", desc := "()Z" } : Jvm.MethodName)).before a0 Z = true := hw _ (List.mem_of_getElem? (i := 101) rfl)
theorem w_102 {Z : State} {a0 : Array Value} (hw : ∀ d ∈ tables_1, d.before a0 Z = true) : (Jvm.Cond.declares ({ cls := "CaliperHull", name := "removeLast", desc := "()Z" } : Jvm.MethodName)).before a0 Z = true := hw _ (List.mem_of_getElem? (i := 102) rfl)
theorem w_103 {Z : State} {a0 : Array Value} (hw : ∀ d ∈ tables_1, d.before a0 Z = true) : (Jvm.Cond.instanceMethod ({ cls := "CaliperHull", name := "removeLast", desc := "()Z" } : Jvm.MethodName)).before a0 Z = true := hw _ (List.mem_of_getElem? (i := 103) rfl)
theorem w_104 {Z : State} {a0 : Array Value} (hw : ∀ d ∈ tables_1, d.before a0 Z = true) : (Jvm.Cond.selects "CaliperHull" ({ cls := "CaliperHull", name := "removeLast", desc := "()Z" } : Jvm.MethodName) ({ cls := "CaliperHull", name := "removeLast", desc := "()Z" } : Jvm.MethodName)).before a0 Z = true := hw _ (List.mem_of_getElem? (i := 104) rfl)
theorem w_105 {Z : State} {a0 : Array Value} (hw : ∀ d ∈ tables_1, d.before a0 Z = true) : (Jvm.Cond.code ({ cls := "CaliperHull", name := "removeLast", desc := "()Z" } : Jvm.MethodName) prog_1_method_3_code 1 (Option.some Jvm.ClassFile.FieldType.boolean)).before a0 Z = true := hw _ (List.mem_of_getElem? (i := 105) rfl)
theorem w_106 {Z : State} {a0 : Array Value} (hw : ∀ d ∈ tables_1, d.before a0 Z = true) : (Jvm.Cond.methodLink "CaliperHullL2" 34 ({ cls := "CaliperHull", name := "diameter2", desc := "()J" } : Jvm.MethodName)).before a0 Z = true := hw _ (List.mem_of_getElem? (i := 106) rfl)
theorem w_107 {Z : State} {a0 : Array Value} (hw : ∀ d ∈ tables_1, d.before a0 Z = true) : (Jvm.Cond.declares ({ cls := "CaliperHull", name := "diameter2", desc := "()J" } : Jvm.MethodName)).before a0 Z = true := hw _ (List.mem_of_getElem? (i := 107) rfl)
theorem w_108 {Z : State} {a0 : Array Value} (hw : ∀ d ∈ tables_1, d.before a0 Z = true) : (Jvm.Cond.instanceMethod ({ cls := "CaliperHull", name := "diameter2", desc := "()J" } : Jvm.MethodName)).before a0 Z = true := hw _ (List.mem_of_getElem? (i := 108) rfl)
theorem w_109 {Z : State} {a0 : Array Value} (hw : ∀ d ∈ tables_1, d.before a0 Z = true) : (Jvm.Cond.selects "CaliperHull" ({ cls := "CaliperHull", name := "diameter2", desc := "()J" } : Jvm.MethodName) ({ cls := "CaliperHull", name := "diameter2", desc := "()J" } : Jvm.MethodName)).before a0 Z = true := hw _ (List.mem_of_getElem? (i := 109) rfl)
theorem w_110 {Z : State} {a0 : Array Value} (hw : ∀ d ∈ tables_1, d.before a0 Z = true) : (Jvm.Cond.code ({ cls := "CaliperHull", name := "diameter2", desc := "()J" } : Jvm.MethodName) prog_1_method_12_code 1 (Option.some Jvm.ClassFile.FieldType.long)).before a0 Z = true := hw _ (List.mem_of_getElem? (i := 110) rfl)
theorem w_111 {Z : State} {a0 : Array Value} (hw : ∀ d ∈ tables_1, d.before a0 Z = true) : (Jvm.Cond.constantLong "CaliperHull" 66 (-1)).before a0 Z = true := hw _ (List.mem_of_getElem? (i := 111) rfl)
theorem w_112 {Z : State} {a0 : Array Value} (hw : ∀ d ∈ tables_1, d.before a0 Z = true) : (Jvm.Cond.methodLink "CaliperHullL2" 38 ({ cls := "CaliperHull", name := "pointCount", desc := "()I" } : Jvm.MethodName)).before a0 Z = true := hw _ (List.mem_of_getElem? (i := 112) rfl)
theorem w_113 {Z : State} {a0 : Array Value} (hw : ∀ d ∈ tables_1, d.before a0 Z = true) : (Jvm.Cond.declares ({ cls := "CaliperHull", name := "pointCount", desc := "()I" } : Jvm.MethodName)).before a0 Z = true := hw _ (List.mem_of_getElem? (i := 113) rfl)
theorem w_114 {Z : State} {a0 : Array Value} (hw : ∀ d ∈ tables_1, d.before a0 Z = true) : (Jvm.Cond.instanceMethod ({ cls := "CaliperHull", name := "pointCount", desc := "()I" } : Jvm.MethodName)).before a0 Z = true := hw _ (List.mem_of_getElem? (i := 114) rfl)
theorem w_115 {Z : State} {a0 : Array Value} (hw : ∀ d ∈ tables_1, d.before a0 Z = true) : (Jvm.Cond.selects "CaliperHull" ({ cls := "CaliperHull", name := "pointCount", desc := "()I" } : Jvm.MethodName) ({ cls := "CaliperHull", name := "pointCount", desc := "()I" } : Jvm.MethodName)).before a0 Z = true := hw _ (List.mem_of_getElem? (i := 115) rfl)
theorem w_116 {Z : State} {a0 : Array Value} (hw : ∀ d ∈ tables_1, d.before a0 Z = true) : (Jvm.Cond.code ({ cls := "CaliperHull", name := "pointCount", desc := "()I" } : Jvm.MethodName) prog_1_method_5_code 1 (Option.some Jvm.ClassFile.FieldType.int)).before a0 Z = true := hw _ (List.mem_of_getElem? (i := 116) rfl)
theorem w_117 {Z : State} {a0 : Array Value} (hw : ∀ d ∈ tables_1, d.before a0 Z = true) : (Jvm.Cond.constantLong "CaliperHullL2" 41 (-1)).before a0 Z = true := hw _ (List.mem_of_getElem? (i := 117) rfl)
theorem w_119 {Z : State} {a0 : Array Value} (hw : ∀ d ∈ tables_1, d.before a0 Z = true) : (Jvm.Cond.lays "CaliperHull" "CaliperHull" "eH" "I").before a0 Z = true := hw _ (List.mem_of_getElem? (i := 119) rfl)
theorem w_121 {Z : State} {a0 : Array Value} (hw : ∀ d ∈ tables_1, d.before a0 Z = true) : (Jvm.Cond.lays "CaliperHull" "CaliperHull" "eFar" "I").before a0 Z = true := hw _ (List.mem_of_getElem? (i := 121) rfl)
theorem w_123 {Z : State} {a0 : Array Value} (hw : ∀ d ∈ tables_1, d.before a0 Z = true) : (Jvm.Cond.lays "CaliperHull" "CaliperHull" "eHi" "I").before a0 Z = true := hw _ (List.mem_of_getElem? (i := 123) rfl)
theorem w_125 {Z : State} {a0 : Array Value} (hw : ∀ d ∈ tables_1, d.before a0 Z = true) : (Jvm.Cond.lays "CaliperHull" "CaliperHull" "eLo" "I").before a0 Z = true := hw _ (List.mem_of_getElem? (i := 125) rfl)
theorem w_127 {Z : State} {a0 : Array Value} (hw : ∀ d ∈ tables_1, d.before a0 Z = true) : (Jvm.Cond.lays "CaliperHull" "CaliperHull" "eLow" "I").before a0 Z = true := hw _ (List.mem_of_getElem? (i := 127) rfl)
theorem w_129 {Z : State} {a0 : Array Value} (hw : ∀ d ∈ tables_1, d.before a0 Z = true) : (Jvm.Cond.lays "CaliperHull" "CaliperHull" "eHigh" "I").before a0 Z = true := hw _ (List.mem_of_getElem? (i := 129) rfl)
theorem cw_ok {Z : State} {a0 : Array Value} (hw : ∀ d ∈ tables_1, d.before a0 Z = true) : CW Z a0 D := CW.of
  (fcons ⟨Or.inl (w_25 hw), (by decide +kernel), (by simp [pt])⟩ (fcons ⟨Or.inl (w_27 hw), (by decide +kernel), (by simp [pt])⟩ (fcons ⟨Or.inl (w_29 hw), (by decide +kernel), (by simp [pt])⟩ (fcons ⟨Or.inl (w_31 hw), (by decide +kernel), (by simp [pt])⟩ (fcons ⟨Or.inl (w_51 hw), (by decide +kernel), (by simp [pt])⟩ (fcons ⟨Or.inl (w_57 hw), (by decide +kernel), (by simp [pt])⟩ (fcons ⟨Or.inl (w_59 hw), (by decide +kernel), (by simp [pt])⟩ (fcons ⟨Or.inl (w_61 hw), (by decide +kernel), (by simp [pt])⟩ (fcons ⟨Or.inl (w_67 hw), (by decide +kernel), (by simp [pt])⟩ (fcons ⟨Or.inl (w_69 hw), (by decide +kernel), (by simp [pt])⟩ (fcons ⟨Or.inl (w_71 hw), (by decide +kernel), (by simp [pt])⟩ (fcons ⟨Or.inl (w_73 hw), (by decide +kernel), (by simp [pt])⟩ (fcons ⟨Or.inl (w_75 hw), (by decide +kernel), (by simp [pt])⟩ (fcons ⟨Or.inl (w_77 hw), (by decide +kernel), (by simp [pt])⟩ (fcons ⟨Or.inl (w_79 hw), (by decide +kernel), (by simp [pt])⟩ (fcons ⟨Or.inl (w_81 hw), (by decide +kernel), (by simp [pt])⟩ (fcons ⟨Or.inl (w_83 hw), (by decide +kernel), (by simp [pt])⟩ (fcons ⟨Or.inl (w_85 hw), (by decide +kernel), (by simp [pt])⟩ (fcons ⟨Or.inl (w_119 hw), (by decide +kernel), (by simp [pt])⟩ (fcons ⟨Or.inl (w_121 hw), (by decide +kernel), (by simp [pt])⟩ (fcons ⟨Or.inl (w_125 hw), (by decide +kernel), (by simp [pt])⟩ (fcons ⟨Or.inl (w_127 hw), (by decide +kernel), (by simp [pt])⟩ (fcons ⟨Or.inl (w_123 hw), (by decide +kernel), (by simp [pt])⟩ (fcons ⟨Or.inl (w_129 hw), (by decide +kernel), (by simp [pt])⟩ fnil))))))))))))))))))))))))
  (fcons ⟨Or.inl (w_11 hw), (by decide +kernel), (by simp [pt]), (by decide)⟩ (fcons ⟨Or.inl (w_13 hw), (by decide +kernel), (by simp [pt]), (by decide)⟩ (fcons ⟨Or.inl (w_15 hw), (by decide +kernel), (by simp [pt]), (by decide)⟩ (fcons ⟨Or.inl (w_17 hw), (by decide +kernel), (by simp [pt]), (by decide)⟩ (fcons ⟨Or.inl (w_19 hw), (by decide +kernel), (by simp [pt]), (by decide)⟩ (fcons ⟨Or.inl (w_21 hw), (by decide +kernel), (by simp [pt]), (by decide)⟩ (fcons ⟨Or.inl (w_23 hw), (by decide +kernel), (by simp [pt]), (by decide)⟩ fnil)))))))
  (by decide +kernel) (by decide +kernel) (by decide +kernel)
theorem pn_cls : plainName "CaliperHull" = true := by first | (simp [plainName, overriddenIn]; done) | decide +kernel
theorem pn_law : plainName "CaliperHullL2" = true := by first | (simp [plainName, overriddenIn]; done) | decide +kernel
def QL (r : Int) (w : Option V) (_ : Heap) : Prop := w = some (vI r)
theorem d_k_ctor_0 : decode prog_1_method_1_code 0 = .ok (.aload_n 0, 1) := by decide +kernel
theorem d_k_ctor_1 : decode prog_1_method_1_code 1 = .ok (.invokespecial 1, 3) := by decide +kernel
theorem d_k_ctor_4 : decode prog_1_method_1_code 4 = .ok (.aload_n 0, 1) := by decide +kernel
theorem d_k_ctor_5 : decode prog_1_method_1_code 5 = .ok (.bipush 32, 2) := by decide +kernel
theorem d_k_ctor_7 : decode prog_1_method_1_code 7 = .ok (.newarray .int, 2) := by decide +kernel
theorem d_k_ctor_9 : decode prog_1_method_1_code 9 = .ok (.putfield 7, 3) := by decide +kernel
theorem d_k_ctor_12 : decode prog_1_method_1_code 12 = .ok (.aload_n 0, 1) := by decide +kernel
theorem d_k_ctor_13 : decode prog_1_method_1_code 13 = .ok (.bipush 32, 2) := by decide +kernel
theorem d_k_ctor_15 : decode prog_1_method_1_code 15 = .ok (.newarray .int, 2) := by decide +kernel
theorem d_k_ctor_17 : decode prog_1_method_1_code 17 = .ok (.putfield 13, 3) := by decide +kernel
theorem d_k_ctor_20 : decode prog_1_method_1_code 20 = .ok (.aload_n 0, 1) := by decide +kernel
theorem d_k_ctor_21 : decode prog_1_method_1_code 21 = .ok (.bipush 32, 2) := by decide +kernel
theorem d_k_ctor_23 : decode prog_1_method_1_code 23 = .ok (.newarray .int, 2) := by decide +kernel
theorem d_k_ctor_25 : decode prog_1_method_1_code 25 = .ok (.putfield 16, 3) := by decide +kernel
theorem d_k_ctor_28 : decode prog_1_method_1_code 28 = .ok (.aload_n 0, 1) := by decide +kernel
theorem d_k_ctor_29 : decode prog_1_method_1_code 29 = .ok (.bipush 32, 2) := by decide +kernel
theorem d_k_ctor_31 : decode prog_1_method_1_code 31 = .ok (.newarray .int, 2) := by decide +kernel
theorem d_k_ctor_33 : decode prog_1_method_1_code 33 = .ok (.putfield 19, 3) := by decide +kernel
theorem d_k_ctor_36 : decode prog_1_method_1_code 36 = .ok (.aload_n 0, 1) := by decide +kernel
theorem d_k_ctor_37 : decode prog_1_method_1_code 37 = .ok (.bipush 64, 2) := by decide +kernel
theorem d_k_ctor_39 : decode prog_1_method_1_code 39 = .ok (.newarray .int, 2) := by decide +kernel
theorem d_k_ctor_41 : decode prog_1_method_1_code 41 = .ok (.putfield 22, 3) := by decide +kernel
theorem d_k_ctor_44 : decode prog_1_method_1_code 44 = .ok (.aload_n 0, 1) := by decide +kernel
theorem d_k_ctor_45 : decode prog_1_method_1_code 45 = .ok (.bipush 64, 2) := by decide +kernel
theorem d_k_ctor_47 : decode prog_1_method_1_code 47 = .ok (.newarray .int, 2) := by decide +kernel
theorem d_k_ctor_49 : decode prog_1_method_1_code 49 = .ok (.putfield 25, 3) := by decide +kernel
theorem d_k_ctor_52 : decode prog_1_method_1_code 52 = .ok (.aload_n 0, 1) := by decide +kernel
theorem d_k_ctor_53 : decode prog_1_method_1_code 53 = .ok (.bipush 64, 2) := by decide +kernel
theorem d_k_ctor_55 : decode prog_1_method_1_code 55 = .ok (.newarray .int, 2) := by decide +kernel
theorem d_k_ctor_57 : decode prog_1_method_1_code 57 = .ok (.putfield 28, 3) := by decide +kernel
theorem d_k_ctor_60 : decode prog_1_method_1_code 60 = .ok (.iload_n 1, 1) := by decide +kernel
theorem d_k_ctor_61 : decode prog_1_method_1_code 61 = .ok (.istore_n 3, 1) := by decide +kernel
theorem d_k_ctor_62 : decode prog_1_method_1_code 62 = .ok (.iload_n 3, 1) := by decide +kernel
theorem d_k_ctor_63 : decode prog_1_method_1_code 63 = .ok (.iconst 3, 1) := by decide +kernel
theorem d_k_ctor_64 : decode prog_1_method_1_code 64 = .ok (.if_icmp .ge 5, 3) := by decide +kernel
theorem d_k_ctor_67 : decode prog_1_method_1_code 67 = .ok (.iconst 3, 1) := by decide +kernel
theorem d_k_ctor_68 : decode prog_1_method_1_code 68 = .ok (.istore_n 3, 1) := by decide +kernel
theorem d_k_ctor_69 : decode prog_1_method_1_code 69 = .ok (.iload_n 3, 1) := by decide +kernel
theorem d_k_ctor_70 : decode prog_1_method_1_code 70 = .ok (.bipush 32, 2) := by decide +kernel
theorem d_k_ctor_72 : decode prog_1_method_1_code 72 = .ok (.if_icmp .le 6, 3) := by decide +kernel
theorem d_k_ctor_78 : decode prog_1_method_1_code 78 = .ok (.iload_n 2, 1) := by decide +kernel
theorem d_k_ctor_79 : decode prog_1_method_1_code 79 = .ok (.istore 4, 2) := by decide +kernel
theorem d_k_ctor_81 : decode prog_1_method_1_code 81 = .ok (.iload 4, 2) := by decide +kernel
theorem d_k_ctor_83 : decode prog_1_method_1_code 83 = .ok (.iconst 1, 1) := by decide +kernel
theorem d_k_ctor_84 : decode prog_1_method_1_code 84 = .ok (.if_icmp .ge 6, 3) := by decide +kernel
theorem d_k_ctor_87 : decode prog_1_method_1_code 87 = .ok (.iconst 1, 1) := by decide +kernel
theorem d_k_ctor_88 : decode prog_1_method_1_code 88 = .ok (.istore 4, 2) := by decide +kernel
theorem d_k_ctor_90 : decode prog_1_method_1_code 90 = .ok (.iload 4, 2) := by decide +kernel
theorem d_k_ctor_92 : decode prog_1_method_1_code 92 = .ok (.bipush 100, 2) := by decide +kernel
theorem d_k_ctor_94 : decode prog_1_method_1_code 94 = .ok (.if_icmp .le 7, 3) := by decide +kernel
theorem d_k_ctor_101 : decode prog_1_method_1_code 101 = .ok (.aload_n 0, 1) := by decide +kernel
theorem d_k_ctor_102 : decode prog_1_method_1_code 102 = .ok (.iload_n 3, 1) := by decide +kernel
theorem d_k_ctor_103 : decode prog_1_method_1_code 103 = .ok (.putfield 31, 3) := by decide +kernel
theorem d_k_ctor_106 : decode prog_1_method_1_code 106 = .ok (.aload_n 0, 1) := by decide +kernel
theorem d_k_ctor_107 : decode prog_1_method_1_code 107 = .ok (.iload 4, 2) := by decide +kernel
theorem d_k_ctor_109 : decode prog_1_method_1_code 109 = .ok (.putfield 35, 3) := by decide +kernel
theorem d_k_ctor_112 : decode prog_1_method_1_code 112 = .ok (.aload_n 0, 1) := by decide +kernel
theorem d_k_ctor_113 : decode prog_1_method_1_code 113 = .ok (.iconst 0, 1) := by decide +kernel
theorem d_k_ctor_114 : decode prog_1_method_1_code 114 = .ok (.putfield 38, 3) := by decide +kernel
theorem d_k_ctor_117 : decode prog_1_method_1_code 117 = .ok (.aload_n 0, 1) := by decide +kernel
theorem d_k_ctor_118 : decode prog_1_method_1_code 118 = .ok (.iconst 0, 1) := by decide +kernel
theorem d_k_ctor_119 : decode prog_1_method_1_code 119 = .ok (.putfield 41, 3) := by decide +kernel
theorem d_k_ctor_122 : decode prog_1_method_1_code 122 = .ok (.return_, 1) := by decide +kernel
theorem d_k_ctor_97 : decode prog_1_method_1_code 97 = .ok (.bipush 100, 2) := by decide +kernel
theorem d_k_ctor_99 : decode prog_1_method_1_code 99 = .ok (.istore 4, 2) := by decide +kernel
theorem d_k_ctor_75 : decode prog_1_method_1_code 75 = .ok (.bipush 32, 2) := by decide +kernel
theorem d_k_ctor_77 : decode prog_1_method_1_code 77 = .ok (.istore_n 3, 1) := by decide +kernel
def R_k_ctor : Room := { frames := 1, cells := 7, slots := 320, locals := 12 }
abbrev G_k_ctor (l : Launch) (Z : State) (n0 : Nat) (P : Heap → Prop) := Go l Z D n0 P (⟨"CaliperHull", "<init>", "(II)V"⟩ : MethodName) prog_1_method_1_code 5 none R_k_ctor
theorem pd_k_ctor : parseMethodDescriptor "(II)V" = some ⟨[.int, .int], none⟩ := by decide +kernel
theorem d_k_inRange_0 : decode prog_1_method_17_code 0 = .ok (.iload_n 1, 1) := by decide +kernel
theorem d_k_inRange_1 : decode prog_1_method_17_code 1 = .ok (.aload_n 0, 1) := by decide +kernel
theorem d_k_inRange_2 : decode prog_1_method_17_code 2 = .ok (.getfield 35, 3) := by decide +kernel
theorem d_k_inRange_5 : decode prog_1_method_17_code 5 = .ok (.ineg, 1) := by decide +kernel
theorem d_k_inRange_6 : decode prog_1_method_17_code 6 = .ok (.if_icmp .lt 32, 3) := by decide +kernel
theorem d_k_inRange_38 : decode prog_1_method_17_code 38 = .ok (.iconst 0, 1) := by decide +kernel
theorem d_k_inRange_39 : decode prog_1_method_17_code 39 = .ok (.ireturn, 1) := by decide +kernel
theorem d_k_inRange_9 : decode prog_1_method_17_code 9 = .ok (.iload_n 1, 1) := by decide +kernel
theorem d_k_inRange_10 : decode prog_1_method_17_code 10 = .ok (.aload_n 0, 1) := by decide +kernel
theorem d_k_inRange_11 : decode prog_1_method_17_code 11 = .ok (.getfield 35, 3) := by decide +kernel
theorem d_k_inRange_14 : decode prog_1_method_17_code 14 = .ok (.if_icmp .gt 24, 3) := by decide +kernel
theorem d_k_inRange_17 : decode prog_1_method_17_code 17 = .ok (.iload_n 2, 1) := by decide +kernel
theorem d_k_inRange_18 : decode prog_1_method_17_code 18 = .ok (.aload_n 0, 1) := by decide +kernel
theorem d_k_inRange_19 : decode prog_1_method_17_code 19 = .ok (.getfield 35, 3) := by decide +kernel
theorem d_k_inRange_22 : decode prog_1_method_17_code 22 = .ok (.ineg, 1) := by decide +kernel
theorem d_k_inRange_23 : decode prog_1_method_17_code 23 = .ok (.if_icmp .lt 15, 3) := by decide +kernel
theorem d_k_inRange_26 : decode prog_1_method_17_code 26 = .ok (.iload_n 2, 1) := by decide +kernel
theorem d_k_inRange_27 : decode prog_1_method_17_code 27 = .ok (.aload_n 0, 1) := by decide +kernel
theorem d_k_inRange_28 : decode prog_1_method_17_code 28 = .ok (.getfield 35, 3) := by decide +kernel
theorem d_k_inRange_31 : decode prog_1_method_17_code 31 = .ok (.if_icmp .gt 7, 3) := by decide +kernel
theorem d_k_inRange_34 : decode prog_1_method_17_code 34 = .ok (.iconst 1, 1) := by decide +kernel
theorem d_k_inRange_35 : decode prog_1_method_17_code 35 = .ok (.goto 4, 3) := by decide +kernel
def R_k_inRange : Room := { frames := 0, cells := 0, slots := 0, locals := 0 }
abbrev G_k_inRange (l : Launch) (Z : State) (n0 : Nat) (P : Heap → Prop) := Go l Z D n0 P (⟨"CaliperHull", "inRange", "(II)Z"⟩ : MethodName) prog_1_method_17_code 3 (some .boolean) R_k_inRange
theorem pd_k_inRange : parseMethodDescriptor "(II)Z" = some ⟨[.int, .int], some .boolean⟩ := by decide +kernel
theorem d_k_addPoint_0 : decode prog_1_method_2_code 0 = .ok (.aload_n 0, 1) := by decide +kernel
theorem d_k_addPoint_1 : decode prog_1_method_2_code 1 = .ok (.iload_n 1, 1) := by decide +kernel
theorem d_k_addPoint_2 : decode prog_1_method_2_code 2 = .ok (.iload_n 2, 1) := by decide +kernel
theorem d_k_addPoint_3 : decode prog_1_method_2_code 3 = .ok (.invokevirtual 45, 3) := by decide +kernel
theorem d_k_addPoint_6 : decode prog_1_method_2_code 6 = .ok (.ifCond .ne 5, 3) := by decide +kernel
theorem d_k_addPoint_9 : decode prog_1_method_2_code 9 = .ok (.iconst (-1), 1) := by decide +kernel
theorem d_k_addPoint_10 : decode prog_1_method_2_code 10 = .ok (.ireturn, 1) := by decide +kernel
theorem d_k_addPoint_11 : decode prog_1_method_2_code 11 = .ok (.aload_n 0, 1) := by decide +kernel
theorem d_k_addPoint_12 : decode prog_1_method_2_code 12 = .ok (.getfield 38, 3) := by decide +kernel
theorem d_k_addPoint_15 : decode prog_1_method_2_code 15 = .ok (.aload_n 0, 1) := by decide +kernel
theorem d_k_addPoint_16 : decode prog_1_method_2_code 16 = .ok (.getfield 31, 3) := by decide +kernel
theorem d_k_addPoint_19 : decode prog_1_method_2_code 19 = .ok (.if_icmp .ge 12, 3) := by decide +kernel
theorem d_k_addPoint_22 : decode prog_1_method_2_code 22 = .ok (.aload_n 0, 1) := by decide +kernel
theorem d_k_addPoint_23 : decode prog_1_method_2_code 23 = .ok (.getfield 38, 3) := by decide +kernel
theorem d_k_addPoint_26 : decode prog_1_method_2_code 26 = .ok (.bipush 32, 2) := by decide +kernel
theorem d_k_addPoint_28 : decode prog_1_method_2_code 28 = .ok (.if_icmp .lt 6, 3) := by decide +kernel
theorem d_k_addPoint_34 : decode prog_1_method_2_code 34 = .ok (.aload_n 0, 1) := by decide +kernel
theorem d_k_addPoint_35 : decode prog_1_method_2_code 35 = .ok (.getfield 7, 3) := by decide +kernel
theorem d_k_addPoint_38 : decode prog_1_method_2_code 38 = .ok (.aload_n 0, 1) := by decide +kernel
theorem d_k_addPoint_39 : decode prog_1_method_2_code 39 = .ok (.getfield 38, 3) := by decide +kernel
theorem d_k_addPoint_42 : decode prog_1_method_2_code 42 = .ok (.iload_n 1, 1) := by decide +kernel
theorem d_k_addPoint_43 : decode prog_1_method_2_code 43 = .ok (.iastore, 1) := by decide +kernel
theorem d_k_addPoint_44 : decode prog_1_method_2_code 44 = .ok (.aload_n 0, 1) := by decide +kernel
theorem d_k_addPoint_45 : decode prog_1_method_2_code 45 = .ok (.getfield 13, 3) := by decide +kernel
theorem d_k_addPoint_48 : decode prog_1_method_2_code 48 = .ok (.aload_n 0, 1) := by decide +kernel
theorem d_k_addPoint_49 : decode prog_1_method_2_code 49 = .ok (.getfield 38, 3) := by decide +kernel
theorem d_k_addPoint_52 : decode prog_1_method_2_code 52 = .ok (.iload_n 2, 1) := by decide +kernel
theorem d_k_addPoint_53 : decode prog_1_method_2_code 53 = .ok (.iastore, 1) := by decide +kernel
theorem d_k_addPoint_54 : decode prog_1_method_2_code 54 = .ok (.aload_n 0, 1) := by decide +kernel
theorem d_k_addPoint_55 : decode prog_1_method_2_code 55 = .ok (.dup, 1) := by decide +kernel
theorem d_k_addPoint_56 : decode prog_1_method_2_code 56 = .ok (.getfield 38, 3) := by decide +kernel
theorem d_k_addPoint_59 : decode prog_1_method_2_code 59 = .ok (.iconst 1, 1) := by decide +kernel
theorem d_k_addPoint_60 : decode prog_1_method_2_code 60 = .ok (.iadd, 1) := by decide +kernel
theorem d_k_addPoint_61 : decode prog_1_method_2_code 61 = .ok (.putfield 38, 3) := by decide +kernel
theorem d_k_addPoint_64 : decode prog_1_method_2_code 64 = .ok (.aload_n 0, 1) := by decide +kernel
theorem d_k_addPoint_65 : decode prog_1_method_2_code 65 = .ok (.iconst 0, 1) := by decide +kernel
theorem d_k_addPoint_66 : decode prog_1_method_2_code 66 = .ok (.putfield 41, 3) := by decide +kernel
theorem d_k_addPoint_69 : decode prog_1_method_2_code 69 = .ok (.aload_n 0, 1) := by decide +kernel
theorem d_k_addPoint_70 : decode prog_1_method_2_code 70 = .ok (.getfield 38, 3) := by decide +kernel
theorem d_k_addPoint_73 : decode prog_1_method_2_code 73 = .ok (.iconst 1, 1) := by decide +kernel
theorem d_k_addPoint_74 : decode prog_1_method_2_code 74 = .ok (.isub, 1) := by decide +kernel
theorem d_k_addPoint_75 : decode prog_1_method_2_code 75 = .ok (.ireturn, 1) := by decide +kernel
theorem d_k_addPoint_31 : decode prog_1_method_2_code 31 = .ok (.bipush (-2), 2) := by decide +kernel
theorem d_k_addPoint_33 : decode prog_1_method_2_code 33 = .ok (.ireturn, 1) := by decide +kernel
def R_k_addPoint : Room := { frames := 1, cells := 0, slots := 0, locals := 14 }
abbrev G_k_addPoint (l : Launch) (Z : State) (n0 : Nat) (P : Heap → Prop) := Go l Z D n0 P (⟨"CaliperHull", "addPoint", "(II)I"⟩ : MethodName) prog_1_method_2_code 3 (some .int) R_k_addPoint
theorem pd_k_addPoint : parseMethodDescriptor "(II)I" = some ⟨[.int, .int], some .int⟩ := by decide +kernel
theorem d_k_sortUnique_0 : decode prog_1_method_18_code 0 = .ok (.aload_n 0, 1) := by decide +kernel
theorem d_k_sortUnique_1 : decode prog_1_method_18_code 1 = .ok (.getfield 38, 3) := by decide +kernel
theorem d_k_sortUnique_4 : decode prog_1_method_18_code 4 = .ok (.istore_n 1, 1) := by decide +kernel
theorem d_k_sortUnique_5 : decode prog_1_method_18_code 5 = .ok (.iload_n 1, 1) := by decide +kernel
theorem d_k_sortUnique_6 : decode prog_1_method_18_code 6 = .ok (.bipush 32, 2) := by decide +kernel
theorem d_k_sortUnique_8 : decode prog_1_method_18_code 8 = .ok (.if_icmp .le 6, 3) := by decide +kernel
theorem d_k_sortUnique_14 : decode prog_1_method_18_code 14 = .ok (.iconst 0, 1) := by decide +kernel
theorem d_k_sortUnique_15 : decode prog_1_method_18_code 15 = .ok (.istore_n 2, 1) := by decide +kernel
theorem d_k_sortUnique_16 : decode prog_1_method_18_code 16 = .ok (.iload_n 2, 1) := by decide +kernel
theorem d_k_sortUnique_17 : decode prog_1_method_18_code 17 = .ok (.iload_n 1, 1) := by decide +kernel
theorem d_k_sortUnique_18 : decode prog_1_method_18_code 18 = .ok (.if_icmp .ge 36, 3) := by decide +kernel
theorem d_k_sortUnique_21 : decode prog_1_method_18_code 21 = .ok (.aload_n 0, 1) := by decide +kernel
theorem d_k_sortUnique_22 : decode prog_1_method_18_code 22 = .ok (.getfield 22, 3) := by decide +kernel
theorem d_k_sortUnique_25 : decode prog_1_method_18_code 25 = .ok (.iload_n 2, 1) := by decide +kernel
theorem d_k_sortUnique_26 : decode prog_1_method_18_code 26 = .ok (.aload_n 0, 1) := by decide +kernel
theorem d_k_sortUnique_27 : decode prog_1_method_18_code 27 = .ok (.getfield 7, 3) := by decide +kernel
theorem d_k_sortUnique_30 : decode prog_1_method_18_code 30 = .ok (.iload_n 2, 1) := by decide +kernel
theorem d_k_sortUnique_31 : decode prog_1_method_18_code 31 = .ok (.iaload, 1) := by decide +kernel
theorem d_k_sortUnique_32 : decode prog_1_method_18_code 32 = .ok (.iastore, 1) := by decide +kernel
theorem d_k_sortUnique_33 : decode prog_1_method_18_code 33 = .ok (.aload_n 0, 1) := by decide +kernel
theorem d_k_sortUnique_34 : decode prog_1_method_18_code 34 = .ok (.getfield 22, 3) := by decide +kernel
theorem d_k_sortUnique_37 : decode prog_1_method_18_code 37 = .ok (.bipush 32, 2) := by decide +kernel
theorem d_k_sortUnique_39 : decode prog_1_method_18_code 39 = .ok (.iload_n 2, 1) := by decide +kernel
theorem d_k_sortUnique_40 : decode prog_1_method_18_code 40 = .ok (.iadd, 1) := by decide +kernel
theorem d_k_sortUnique_41 : decode prog_1_method_18_code 41 = .ok (.aload_n 0, 1) := by decide +kernel
theorem d_k_sortUnique_42 : decode prog_1_method_18_code 42 = .ok (.getfield 13, 3) := by decide +kernel
theorem d_k_sortUnique_45 : decode prog_1_method_18_code 45 = .ok (.iload_n 2, 1) := by decide +kernel
theorem d_k_sortUnique_46 : decode prog_1_method_18_code 46 = .ok (.iaload, 1) := by decide +kernel
theorem d_k_sortUnique_47 : decode prog_1_method_18_code 47 = .ok (.iastore, 1) := by decide +kernel
theorem d_k_sortUnique_48 : decode prog_1_method_18_code 48 = .ok (.iinc 2 1, 3) := by decide +kernel
theorem d_k_sortUnique_51 : decode prog_1_method_18_code 51 = .ok (.goto (-35), 3) := by decide +kernel
theorem d_k_sortUnique_54 : decode prog_1_method_18_code 54 = .ok (.iconst 1, 1) := by decide +kernel
theorem d_k_sortUnique_55 : decode prog_1_method_18_code 55 = .ok (.istore_n 2, 1) := by decide +kernel
theorem d_k_sortUnique_56 : decode prog_1_method_18_code 56 = .ok (.iload_n 2, 1) := by decide +kernel
theorem d_k_sortUnique_57 : decode prog_1_method_18_code 57 = .ok (.iload_n 1, 1) := by decide +kernel
theorem d_k_sortUnique_58 : decode prog_1_method_18_code 58 = .ok (.if_icmp .ge 40, 3) := by decide +kernel
theorem d_k_sortUnique_61 : decode prog_1_method_18_code 61 = .ok (.iload_n 2, 1) := by decide +kernel
theorem d_k_sortUnique_62 : decode prog_1_method_18_code 62 = .ok (.istore_n 3, 1) := by decide +kernel
theorem d_k_sortUnique_63 : decode prog_1_method_18_code 63 = .ok (.iload_n 3, 1) := by decide +kernel
theorem d_k_sortUnique_64 : decode prog_1_method_18_code 64 = .ok (.ifCond .le 28, 3) := by decide +kernel
theorem d_k_sortUnique_92 : decode prog_1_method_18_code 92 = .ok (.iinc 2 1, 3) := by decide +kernel
theorem d_k_sortUnique_95 : decode prog_1_method_18_code 95 = .ok (.goto (-39), 3) := by decide +kernel
theorem d_k_sortUnique_67 : decode prog_1_method_18_code 67 = .ok (.aload_n 0, 1) := by decide +kernel
theorem d_k_sortUnique_68 : decode prog_1_method_18_code 68 = .ok (.iload_n 3, 1) := by decide +kernel
theorem d_k_sortUnique_69 : decode prog_1_method_18_code 69 = .ok (.iload_n 3, 1) := by decide +kernel
theorem d_k_sortUnique_70 : decode prog_1_method_18_code 70 = .ok (.iconst 1, 1) := by decide +kernel
theorem d_k_sortUnique_71 : decode prog_1_method_18_code 71 = .ok (.isub, 1) := by decide +kernel
theorem d_k_sortUnique_98 : decode prog_1_method_18_code 98 = .ok (.iload_n 1, 1) := by decide +kernel
theorem d_k_sortUnique_99 : decode prog_1_method_18_code 99 = .ok (.ifCond .ne 5, 3) := by decide +kernel
theorem d_k_sortUnique_102 : decode prog_1_method_18_code 102 = .ok (.iconst 0, 1) := by decide +kernel
theorem d_k_sortUnique_103 : decode prog_1_method_18_code 103 = .ok (.ireturn, 1) := by decide +kernel
theorem d_k_sortUnique_104 : decode prog_1_method_18_code 104 = .ok (.iconst 1, 1) := by decide +kernel
theorem d_k_sortUnique_105 : decode prog_1_method_18_code 105 = .ok (.istore_n 2, 1) := by decide +kernel
theorem d_k_sortUnique_106 : decode prog_1_method_18_code 106 = .ok (.iconst 1, 1) := by decide +kernel
theorem d_k_sortUnique_107 : decode prog_1_method_18_code 107 = .ok (.istore_n 3, 1) := by decide +kernel
theorem d_k_sortUnique_108 : decode prog_1_method_18_code 108 = .ok (.iload_n 3, 1) := by decide +kernel
theorem d_k_sortUnique_109 : decode prog_1_method_18_code 109 = .ok (.iload_n 1, 1) := by decide +kernel
theorem d_k_sortUnique_110 : decode prog_1_method_18_code 110 = .ok (.if_icmp .ge 82, 3) := by decide +kernel
theorem d_k_sortUnique_113 : decode prog_1_method_18_code 113 = .ok (.aload_n 0, 1) := by decide +kernel
theorem d_k_sortUnique_114 : decode prog_1_method_18_code 114 = .ok (.getfield 22, 3) := by decide +kernel
theorem d_k_sortUnique_117 : decode prog_1_method_18_code 117 = .ok (.iload_n 3, 1) := by decide +kernel
theorem d_k_sortUnique_118 : decode prog_1_method_18_code 118 = .ok (.iaload, 1) := by decide +kernel
theorem d_k_sortUnique_119 : decode prog_1_method_18_code 119 = .ok (.aload_n 0, 1) := by decide +kernel
theorem d_k_sortUnique_120 : decode prog_1_method_18_code 120 = .ok (.getfield 22, 3) := by decide +kernel
theorem d_k_sortUnique_123 : decode prog_1_method_18_code 123 = .ok (.iload_n 2, 1) := by decide +kernel
theorem d_k_sortUnique_124 : decode prog_1_method_18_code 124 = .ok (.iconst 1, 1) := by decide +kernel
theorem d_k_sortUnique_125 : decode prog_1_method_18_code 125 = .ok (.isub, 1) := by decide +kernel
theorem d_k_sortUnique_126 : decode prog_1_method_18_code 126 = .ok (.iaload, 1) := by decide +kernel
theorem d_k_sortUnique_127 : decode prog_1_method_18_code 127 = .ok (.if_icmp .ne 26, 3) := by decide +kernel
theorem d_k_sortUnique_130 : decode prog_1_method_18_code 130 = .ok (.aload_n 0, 1) := by decide +kernel
theorem d_k_sortUnique_131 : decode prog_1_method_18_code 131 = .ok (.getfield 22, 3) := by decide +kernel
theorem d_k_sortUnique_134 : decode prog_1_method_18_code 134 = .ok (.bipush 32, 2) := by decide +kernel
theorem d_k_sortUnique_136 : decode prog_1_method_18_code 136 = .ok (.iload_n 3, 1) := by decide +kernel
theorem d_k_sortUnique_137 : decode prog_1_method_18_code 137 = .ok (.iadd, 1) := by decide +kernel
theorem d_k_sortUnique_138 : decode prog_1_method_18_code 138 = .ok (.iaload, 1) := by decide +kernel
theorem d_k_sortUnique_139 : decode prog_1_method_18_code 139 = .ok (.aload_n 0, 1) := by decide +kernel
theorem d_k_sortUnique_140 : decode prog_1_method_18_code 140 = .ok (.getfield 22, 3) := by decide +kernel
theorem d_k_sortUnique_143 : decode prog_1_method_18_code 143 = .ok (.bipush 32, 2) := by decide +kernel
theorem d_k_sortUnique_145 : decode prog_1_method_18_code 145 = .ok (.iload_n 2, 1) := by decide +kernel
theorem d_k_sortUnique_146 : decode prog_1_method_18_code 146 = .ok (.iadd, 1) := by decide +kernel
theorem d_k_sortUnique_147 : decode prog_1_method_18_code 147 = .ok (.iconst 1, 1) := by decide +kernel
theorem d_k_sortUnique_148 : decode prog_1_method_18_code 148 = .ok (.isub, 1) := by decide +kernel
theorem d_k_sortUnique_149 : decode prog_1_method_18_code 149 = .ok (.iaload, 1) := by decide +kernel
theorem d_k_sortUnique_150 : decode prog_1_method_18_code 150 = .ok (.if_icmp .eq 36, 3) := by decide +kernel
theorem d_k_sortUnique_186 : decode prog_1_method_18_code 186 = .ok (.iinc 3 1, 3) := by decide +kernel
theorem d_k_sortUnique_189 : decode prog_1_method_18_code 189 = .ok (.goto (-81), 3) := by decide +kernel
theorem d_k_sortUnique_153 : decode prog_1_method_18_code 153 = .ok (.aload_n 0, 1) := by decide +kernel
theorem d_k_sortUnique_154 : decode prog_1_method_18_code 154 = .ok (.getfield 22, 3) := by decide +kernel
theorem d_k_sortUnique_157 : decode prog_1_method_18_code 157 = .ok (.iload_n 2, 1) := by decide +kernel
theorem d_k_sortUnique_158 : decode prog_1_method_18_code 158 = .ok (.aload_n 0, 1) := by decide +kernel
theorem d_k_sortUnique_159 : decode prog_1_method_18_code 159 = .ok (.getfield 22, 3) := by decide +kernel
theorem d_k_sortUnique_162 : decode prog_1_method_18_code 162 = .ok (.iload_n 3, 1) := by decide +kernel
theorem d_k_sortUnique_163 : decode prog_1_method_18_code 163 = .ok (.iaload, 1) := by decide +kernel
theorem d_k_sortUnique_164 : decode prog_1_method_18_code 164 = .ok (.iastore, 1) := by decide +kernel
theorem d_k_sortUnique_165 : decode prog_1_method_18_code 165 = .ok (.aload_n 0, 1) := by decide +kernel
theorem d_k_sortUnique_166 : decode prog_1_method_18_code 166 = .ok (.getfield 22, 3) := by decide +kernel
theorem d_k_sortUnique_169 : decode prog_1_method_18_code 169 = .ok (.bipush 32, 2) := by decide +kernel
theorem d_k_sortUnique_171 : decode prog_1_method_18_code 171 = .ok (.iload_n 2, 1) := by decide +kernel
theorem d_k_sortUnique_172 : decode prog_1_method_18_code 172 = .ok (.iadd, 1) := by decide +kernel
theorem d_k_sortUnique_173 : decode prog_1_method_18_code 173 = .ok (.aload_n 0, 1) := by decide +kernel
theorem d_k_sortUnique_174 : decode prog_1_method_18_code 174 = .ok (.getfield 22, 3) := by decide +kernel
theorem d_k_sortUnique_177 : decode prog_1_method_18_code 177 = .ok (.bipush 32, 2) := by decide +kernel
theorem d_k_sortUnique_179 : decode prog_1_method_18_code 179 = .ok (.iload_n 3, 1) := by decide +kernel
theorem d_k_sortUnique_180 : decode prog_1_method_18_code 180 = .ok (.iadd, 1) := by decide +kernel
theorem d_k_sortUnique_181 : decode prog_1_method_18_code 181 = .ok (.iaload, 1) := by decide +kernel
theorem d_k_sortUnique_182 : decode prog_1_method_18_code 182 = .ok (.iastore, 1) := by decide +kernel
theorem d_k_sortUnique_183 : decode prog_1_method_18_code 183 = .ok (.iinc 2 1, 3) := by decide +kernel
theorem d_k_sortUnique_192 : decode prog_1_method_18_code 192 = .ok (.iload_n 2, 1) := by decide +kernel
theorem d_k_sortUnique_193 : decode prog_1_method_18_code 193 = .ok (.ireturn, 1) := by decide +kernel
theorem d_k_sortUnique_11 : decode prog_1_method_18_code 11 = .ok (.bipush 32, 2) := by decide +kernel
theorem d_k_sortUnique_13 : decode prog_1_method_18_code 13 = .ok (.istore_n 1, 1) := by decide +kernel
def R_k_sortUnique : Room := { frames := 0, cells := 0, slots := 0, locals := 0 }
abbrev G_k_sortUnique (l : Launch) (Z : State) (n0 : Nat) (P : Heap → Prop) := Go l Z D n0 P (⟨"CaliperHull", "sortUnique", "()I"⟩ : MethodName) prog_1_method_18_code 4 (some .int) R_k_sortUnique
theorem pd_k_sortUnique : parseMethodDescriptor "()I" = some ⟨[], some .int⟩ := by decide +kernel
theorem d_k_computeDiameter_0 : decode prog_1_method_25_code 0 = .ok (.aload_n 0, 1) := by decide +kernel
theorem d_k_computeDiameter_1 : decode prog_1_method_25_code 1 = .ok (.getfield 53, 3) := by decide +kernel
theorem d_k_computeDiameter_4 : decode prog_1_method_25_code 4 = .ok (.istore_n 1, 1) := by decide +kernel
theorem d_k_computeDiameter_5 : decode prog_1_method_25_code 5 = .ok (.iload_n 1, 1) := by decide +kernel
theorem d_k_computeDiameter_6 : decode prog_1_method_25_code 6 = .ok (.ifCond .ne 19, 3) := by decide +kernel
theorem d_k_computeDiameter_9 : decode prog_1_method_25_code 9 = .ok (.aload_n 0, 1) := by decide +kernel
theorem d_k_computeDiameter_10 : decode prog_1_method_25_code 10 = .ok (.lconst 0, 1) := by decide +kernel
theorem d_k_computeDiameter_11 : decode prog_1_method_25_code 11 = .ok (.putfield 68, 3) := by decide +kernel
theorem d_k_computeDiameter_14 : decode prog_1_method_25_code 14 = .ok (.aload_n 0, 1) := by decide +kernel
theorem d_k_computeDiameter_15 : decode prog_1_method_25_code 15 = .ok (.iconst (-1), 1) := by decide +kernel
theorem d_k_computeDiameter_16 : decode prog_1_method_25_code 16 = .ok (.putfield 72, 3) := by decide +kernel
theorem d_k_computeDiameter_19 : decode prog_1_method_25_code 19 = .ok (.aload_n 0, 1) := by decide +kernel
theorem d_k_computeDiameter_20 : decode prog_1_method_25_code 20 = .ok (.iconst (-1), 1) := by decide +kernel
theorem d_k_computeDiameter_21 : decode prog_1_method_25_code 21 = .ok (.putfield 75, 3) := by decide +kernel
theorem d_k_computeDiameter_24 : decode prog_1_method_25_code 24 = .ok (.return_, 1) := by decide +kernel
theorem d_k_computeDiameter_25 : decode prog_1_method_25_code 25 = .ok (.aload_n 0, 1) := by decide +kernel
theorem d_k_computeDiameter_26 : decode prog_1_method_25_code 26 = .ok (.lconst 0, 1) := by decide +kernel
theorem d_k_computeDiameter_27 : decode prog_1_method_25_code 27 = .ok (.putfield 68, 3) := by decide +kernel
theorem d_k_computeDiameter_30 : decode prog_1_method_25_code 30 = .ok (.aload_n 0, 1) := by decide +kernel
theorem d_k_computeDiameter_31 : decode prog_1_method_25_code 31 = .ok (.iconst 0, 1) := by decide +kernel
theorem d_k_computeDiameter_32 : decode prog_1_method_25_code 32 = .ok (.putfield 72, 3) := by decide +kernel
theorem d_k_computeDiameter_35 : decode prog_1_method_25_code 35 = .ok (.aload_n 0, 1) := by decide +kernel
theorem d_k_computeDiameter_36 : decode prog_1_method_25_code 36 = .ok (.iconst 0, 1) := by decide +kernel
theorem d_k_computeDiameter_37 : decode prog_1_method_25_code 37 = .ok (.putfield 75, 3) := by decide +kernel
theorem d_k_computeDiameter_40 : decode prog_1_method_25_code 40 = .ok (.iload_n 1, 1) := by decide +kernel
theorem d_k_computeDiameter_41 : decode prog_1_method_25_code 41 = .ok (.iconst 1, 1) := by decide +kernel
theorem d_k_computeDiameter_42 : decode prog_1_method_25_code 42 = .ok (.if_icmp .ne 4, 3) := by decide +kernel
theorem d_k_computeDiameter_45 : decode prog_1_method_25_code 45 = .ok (.return_, 1) := by decide +kernel
theorem d_k_computeDiameter_46 : decode prog_1_method_25_code 46 = .ok (.aload_n 0, 1) := by decide +kernel
theorem d_k_computeDiameter_47 : decode prog_1_method_25_code 47 = .ok (.ldc2_w 66, 3) := by decide +kernel
theorem d_k_computeDiameter_50 : decode prog_1_method_25_code 50 = .ok (.putfield 68, 3) := by decide +kernel
theorem d_k_computeDiameter_53 : decode prog_1_method_25_code 53 = .ok (.iconst 0, 1) := by decide +kernel
theorem d_k_computeDiameter_54 : decode prog_1_method_25_code 54 = .ok (.istore_n 2, 1) := by decide +kernel
theorem d_k_computeDiameter_55 : decode prog_1_method_25_code 55 = .ok (.iload_n 2, 1) := by decide +kernel
theorem d_k_computeDiameter_56 : decode prog_1_method_25_code 56 = .ok (.iload_n 1, 1) := by decide +kernel
theorem d_k_computeDiameter_57 : decode prog_1_method_25_code 57 = .ok (.if_icmp .ge 70, 3) := by decide +kernel
theorem d_k_computeDiameter_60 : decode prog_1_method_25_code 60 = .ok (.iload_n 2, 1) := by decide +kernel
theorem d_k_computeDiameter_61 : decode prog_1_method_25_code 61 = .ok (.bipush 32, 2) := by decide +kernel
theorem d_k_computeDiameter_63 : decode prog_1_method_25_code 63 = .ok (.if_icmp .ge 64, 3) := by decide +kernel
theorem d_k_computeDiameter_66 : decode prog_1_method_25_code 66 = .ok (.iload_n 2, 1) := by decide +kernel
theorem d_k_computeDiameter_67 : decode prog_1_method_25_code 67 = .ok (.iconst 1, 1) := by decide +kernel
theorem d_k_computeDiameter_68 : decode prog_1_method_25_code 68 = .ok (.iadd, 1) := by decide +kernel
theorem d_k_computeDiameter_69 : decode prog_1_method_25_code 69 = .ok (.istore_n 3, 1) := by decide +kernel
theorem d_k_computeDiameter_70 : decode prog_1_method_25_code 70 = .ok (.iload_n 3, 1) := by decide +kernel
theorem d_k_computeDiameter_71 : decode prog_1_method_25_code 71 = .ok (.iload_n 1, 1) := by decide +kernel
theorem d_k_computeDiameter_72 : decode prog_1_method_25_code 72 = .ok (.if_icmp .ge 49, 3) := by decide +kernel
theorem d_k_computeDiameter_75 : decode prog_1_method_25_code 75 = .ok (.iload_n 3, 1) := by decide +kernel
theorem d_k_computeDiameter_76 : decode prog_1_method_25_code 76 = .ok (.bipush 32, 2) := by decide +kernel
theorem d_k_computeDiameter_78 : decode prog_1_method_25_code 78 = .ok (.if_icmp .ge 43, 3) := by decide +kernel
theorem d_k_computeDiameter_121 : decode prog_1_method_25_code 121 = .ok (.iinc 2 1, 3) := by decide +kernel
theorem d_k_computeDiameter_124 : decode prog_1_method_25_code 124 = .ok (.goto (-69), 3) := by decide +kernel
theorem d_k_computeDiameter_127 : decode prog_1_method_25_code 127 = .ok (.return_, 1) := by decide +kernel
theorem d_k_computeDiameter_81 : decode prog_1_method_25_code 81 = .ok (.aload_n 0, 1) := by decide +kernel
theorem d_k_computeDiameter_82 : decode prog_1_method_25_code 82 = .ok (.iload_n 2, 1) := by decide +kernel
theorem d_k_computeDiameter_83 : decode prog_1_method_25_code 83 = .ok (.iload_n 3, 1) := by decide +kernel
def R_k_computeDiameter : Room := { frames := 0, cells := 0, slots := 0, locals := 0 }
abbrev G_k_computeDiameter (l : Launch) (Z : State) (n0 : Nat) (P : Heap → Prop) := Go l Z D n0 P (⟨"CaliperHull", "computeDiameter", "()V"⟩ : MethodName) prog_1_method_25_code 6 none R_k_computeDiameter
theorem pd_k_computeDiameter : parseMethodDescriptor "()V" = some ⟨[], none⟩ := by decide +kernel
theorem d_k_computeEdges_0 : decode prog_1_method_26_code 0 = .ok (.aload_n 0, 1) := by decide +kernel
theorem d_k_computeEdges_1 : decode prog_1_method_26_code 1 = .ok (.lconst 0, 1) := by decide +kernel
theorem d_k_computeEdges_2 : decode prog_1_method_26_code 2 = .ok (.putfield 78, 3) := by decide +kernel
theorem d_k_computeEdges_5 : decode prog_1_method_26_code 5 = .ok (.aload_n 0, 1) := by decide +kernel
theorem d_k_computeEdges_6 : decode prog_1_method_26_code 6 = .ok (.lconst 1, 1) := by decide +kernel
theorem d_k_computeEdges_7 : decode prog_1_method_26_code 7 = .ok (.putfield 81, 3) := by decide +kernel
theorem d_k_computeEdges_10 : decode prog_1_method_26_code 10 = .ok (.aload_n 0, 1) := by decide +kernel
theorem d_k_computeEdges_11 : decode prog_1_method_26_code 11 = .ok (.iconst (-1), 1) := by decide +kernel
theorem d_k_computeEdges_12 : decode prog_1_method_26_code 12 = .ok (.putfield 84, 3) := by decide +kernel
theorem d_k_computeEdges_15 : decode prog_1_method_26_code 15 = .ok (.aload_n 0, 1) := by decide +kernel
theorem d_k_computeEdges_16 : decode prog_1_method_26_code 16 = .ok (.iconst (-1), 1) := by decide +kernel
theorem d_k_computeEdges_17 : decode prog_1_method_26_code 17 = .ok (.putfield 87, 3) := by decide +kernel
theorem d_k_computeEdges_20 : decode prog_1_method_26_code 20 = .ok (.aload_n 0, 1) := by decide +kernel
theorem d_k_computeEdges_21 : decode prog_1_method_26_code 21 = .ok (.lconst 0, 1) := by decide +kernel
theorem d_k_computeEdges_22 : decode prog_1_method_26_code 22 = .ok (.putfield 90, 3) := by decide +kernel
theorem d_k_computeEdges_25 : decode prog_1_method_26_code 25 = .ok (.aload_n 0, 1) := by decide +kernel
theorem d_k_computeEdges_26 : decode prog_1_method_26_code 26 = .ok (.lconst 1, 1) := by decide +kernel
theorem d_k_computeEdges_27 : decode prog_1_method_26_code 27 = .ok (.putfield 93, 3) := by decide +kernel
theorem d_k_computeEdges_30 : decode prog_1_method_26_code 30 = .ok (.aload_n 0, 1) := by decide +kernel
theorem d_k_computeEdges_31 : decode prog_1_method_26_code 31 = .ok (.iconst (-1), 1) := by decide +kernel
theorem d_k_computeEdges_32 : decode prog_1_method_26_code 32 = .ok (.putfield 96, 3) := by decide +kernel
theorem d_k_computeEdges_35 : decode prog_1_method_26_code 35 = .ok (.aload_n 0, 1) := by decide +kernel
theorem d_k_computeEdges_36 : decode prog_1_method_26_code 36 = .ok (.iconst (-1), 1) := by decide +kernel
theorem d_k_computeEdges_37 : decode prog_1_method_26_code 37 = .ok (.putfield 99, 3) := by decide +kernel
theorem d_k_computeEdges_40 : decode prog_1_method_26_code 40 = .ok (.aload_n 0, 1) := by decide +kernel
theorem d_k_computeEdges_41 : decode prog_1_method_26_code 41 = .ok (.iconst (-1), 1) := by decide +kernel
theorem d_k_computeEdges_42 : decode prog_1_method_26_code 42 = .ok (.putfield 102, 3) := by decide +kernel
theorem d_k_computeEdges_45 : decode prog_1_method_26_code 45 = .ok (.aload_n 0, 1) := by decide +kernel
theorem d_k_computeEdges_46 : decode prog_1_method_26_code 46 = .ok (.iconst (-1), 1) := by decide +kernel
theorem d_k_computeEdges_47 : decode prog_1_method_26_code 47 = .ok (.putfield 105, 3) := by decide +kernel
theorem d_k_computeEdges_50 : decode prog_1_method_26_code 50 = .ok (.aload_n 0, 1) := by decide +kernel
theorem d_k_computeEdges_51 : decode prog_1_method_26_code 51 = .ok (.getfield 53, 3) := by decide +kernel
theorem d_k_computeEdges_54 : decode prog_1_method_26_code 54 = .ok (.istore_n 1, 1) := by decide +kernel
theorem d_k_computeEdges_55 : decode prog_1_method_26_code 55 = .ok (.iload_n 1, 1) := by decide +kernel
theorem d_k_computeEdges_56 : decode prog_1_method_26_code 56 = .ok (.iconst 3, 1) := by decide +kernel
theorem d_k_computeEdges_57 : decode prog_1_method_26_code 57 = .ok (.if_icmp .ge 4, 3) := by decide +kernel
theorem d_k_computeEdges_60 : decode prog_1_method_26_code 60 = .ok (.return_, 1) := by decide +kernel
theorem d_k_computeEdges_61 : decode prog_1_method_26_code 61 = .ok (.iconst 0, 1) := by decide +kernel
theorem d_k_computeEdges_62 : decode prog_1_method_26_code 62 = .ok (.istore_n 2, 1) := by decide +kernel
theorem d_k_computeEdges_63 : decode prog_1_method_26_code 63 = .ok (.iload_n 2, 1) := by decide +kernel
theorem d_k_computeEdges_64 : decode prog_1_method_26_code 64 = .ok (.iload_n 1, 1) := by decide +kernel
theorem d_k_computeEdges_65 : decode prog_1_method_26_code 65 = .ok (.if_icmp .ge 191, 3) := by decide +kernel
theorem d_k_computeEdges_68 : decode prog_1_method_26_code 68 = .ok (.iload_n 2, 1) := by decide +kernel
theorem d_k_computeEdges_69 : decode prog_1_method_26_code 69 = .ok (.bipush 32, 2) := by decide +kernel
theorem d_k_computeEdges_71 : decode prog_1_method_26_code 71 = .ok (.if_icmp .ge 185, 3) := by decide +kernel
theorem d_k_computeEdges_74 : decode prog_1_method_26_code 74 = .ok (.aload_n 0, 1) := by decide +kernel
theorem d_k_computeEdges_75 : decode prog_1_method_26_code 75 = .ok (.iload_n 2, 1) := by decide +kernel
theorem d_k_computeEdges_256 : decode prog_1_method_26_code 256 = .ok (.return_, 1) := by decide +kernel
def R_k_computeEdges : Room := { frames := 0, cells := 0, slots := 0, locals := 0 }
abbrev G_k_computeEdges (l : Launch) (Z : State) (n0 : Nat) (P : Heap → Prop) := Go l Z D n0 P (⟨"CaliperHull", "computeEdges", "()V"⟩ : MethodName) prog_1_method_26_code 10 none R_k_computeEdges
theorem pd_k_computeEdges : parseMethodDescriptor "()V" = some ⟨[], none⟩ := by decide +kernel
theorem d_k_build_0 : decode prog_1_method_8_code 0 = .ok (.aload_n 0, 1) := by decide +kernel
theorem d_k_build_1 : decode prog_1_method_8_code 1 = .ok (.invokevirtual 49, 3) := by decide +kernel
theorem d_k_build_4 : decode prog_1_method_8_code 4 = .ok (.istore_n 1, 1) := by decide +kernel
theorem d_k_build_5 : decode prog_1_method_8_code 5 = .ok (.iload_n 1, 1) := by decide +kernel
theorem d_k_build_6 : decode prog_1_method_8_code 6 = .ok (.ifCond .ne 11, 3) := by decide +kernel
theorem d_k_build_9 : decode prog_1_method_8_code 9 = .ok (.aload_n 0, 1) := by decide +kernel
theorem d_k_build_10 : decode prog_1_method_8_code 10 = .ok (.iconst 0, 1) := by decide +kernel
theorem d_k_build_11 : decode prog_1_method_8_code 11 = .ok (.putfield 53, 3) := by decide +kernel
theorem d_k_build_14 : decode prog_1_method_8_code 14 = .ok (.goto 46, 3) := by decide +kernel
theorem d_k_build_60 : decode prog_1_method_8_code 60 = .ok (.aload_n 0, 1) := by decide +kernel
theorem d_k_build_61 : decode prog_1_method_8_code 61 = .ok (.invokevirtual 60, 3) := by decide +kernel
theorem d_k_build_64 : decode prog_1_method_8_code 64 = .ok (.aload_n 0, 1) := by decide +kernel
theorem d_k_build_65 : decode prog_1_method_8_code 65 = .ok (.invokevirtual 63, 3) := by decide +kernel
theorem d_k_build_68 : decode prog_1_method_8_code 68 = .ok (.aload_n 0, 1) := by decide +kernel
theorem d_k_build_69 : decode prog_1_method_8_code 69 = .ok (.iconst 1, 1) := by decide +kernel
theorem d_k_build_70 : decode prog_1_method_8_code 70 = .ok (.putfield 41, 3) := by decide +kernel
theorem d_k_build_73 : decode prog_1_method_8_code 73 = .ok (.aload_n 0, 1) := by decide +kernel
theorem d_k_build_74 : decode prog_1_method_8_code 74 = .ok (.getfield 53, 3) := by decide +kernel
theorem d_k_build_77 : decode prog_1_method_8_code 77 = .ok (.ireturn, 1) := by decide +kernel
theorem d_k_build_17 : decode prog_1_method_8_code 17 = .ok (.iload_n 1, 1) := by decide +kernel
theorem d_k_build_18 : decode prog_1_method_8_code 18 = .ok (.iconst 1, 1) := by decide +kernel
theorem d_k_build_19 : decode prog_1_method_8_code 19 = .ok (.if_icmp .ne 36, 3) := by decide +kernel
theorem d_k_build_22 : decode prog_1_method_8_code 22 = .ok (.aload_n 0, 1) := by decide +kernel
theorem d_k_build_23 : decode prog_1_method_8_code 23 = .ok (.getfield 16, 3) := by decide +kernel
theorem d_k_build_26 : decode prog_1_method_8_code 26 = .ok (.iconst 0, 1) := by decide +kernel
theorem d_k_build_27 : decode prog_1_method_8_code 27 = .ok (.aload_n 0, 1) := by decide +kernel
theorem d_k_build_28 : decode prog_1_method_8_code 28 = .ok (.getfield 22, 3) := by decide +kernel
theorem d_k_build_31 : decode prog_1_method_8_code 31 = .ok (.iconst 0, 1) := by decide +kernel
theorem d_k_build_32 : decode prog_1_method_8_code 32 = .ok (.iaload, 1) := by decide +kernel
theorem d_k_build_33 : decode prog_1_method_8_code 33 = .ok (.iastore, 1) := by decide +kernel
theorem d_k_build_34 : decode prog_1_method_8_code 34 = .ok (.aload_n 0, 1) := by decide +kernel
theorem d_k_build_35 : decode prog_1_method_8_code 35 = .ok (.getfield 19, 3) := by decide +kernel
theorem d_k_build_38 : decode prog_1_method_8_code 38 = .ok (.iconst 0, 1) := by decide +kernel
theorem d_k_build_39 : decode prog_1_method_8_code 39 = .ok (.aload_n 0, 1) := by decide +kernel
theorem d_k_build_40 : decode prog_1_method_8_code 40 = .ok (.getfield 22, 3) := by decide +kernel
theorem d_k_build_43 : decode prog_1_method_8_code 43 = .ok (.bipush 32, 2) := by decide +kernel
theorem d_k_build_45 : decode prog_1_method_8_code 45 = .ok (.iaload, 1) := by decide +kernel
theorem d_k_build_46 : decode prog_1_method_8_code 46 = .ok (.iastore, 1) := by decide +kernel
theorem d_k_build_47 : decode prog_1_method_8_code 47 = .ok (.aload_n 0, 1) := by decide +kernel
theorem d_k_build_48 : decode prog_1_method_8_code 48 = .ok (.iconst 1, 1) := by decide +kernel
theorem d_k_build_49 : decode prog_1_method_8_code 49 = .ok (.putfield 53, 3) := by decide +kernel
theorem d_k_build_52 : decode prog_1_method_8_code 52 = .ok (.goto 8, 3) := by decide +kernel
theorem d_k_build_55 : decode prog_1_method_8_code 55 = .ok (.aload_n 0, 1) := by decide +kernel
theorem d_k_build_56 : decode prog_1_method_8_code 56 = .ok (.iload_n 1, 1) := by decide +kernel
def R_k_build : Room := { frames := 1, cells := 0, slots := 0, locals := 21 }
abbrev G_k_build (l : Launch) (Z : State) (n0 : Nat) (P : Heap → Prop) := Go l Z D n0 P (⟨"CaliperHull", "build", "()I"⟩ : MethodName) prog_1_method_8_code 2 (some .int) R_k_build
theorem pd_k_build : parseMethodDescriptor "()I" = some ⟨[], some .int⟩ := by decide +kernel
theorem d_k_hullSize_0 : decode prog_1_method_9_code 0 = .ok (.aload_n 0, 1) := by decide +kernel
theorem d_k_hullSize_1 : decode prog_1_method_9_code 1 = .ok (.getfield 41, 3) := by decide +kernel
theorem d_k_hullSize_4 : decode prog_1_method_9_code 4 = .ok (.ifCond .ne 5, 3) := by decide +kernel
theorem d_k_hullSize_7 : decode prog_1_method_9_code 7 = .ok (.iconst (-1), 1) := by decide +kernel
theorem d_k_hullSize_8 : decode prog_1_method_9_code 8 = .ok (.ireturn, 1) := by decide +kernel
theorem d_k_hullSize_9 : decode prog_1_method_9_code 9 = .ok (.aload_n 0, 1) := by decide +kernel
theorem d_k_hullSize_10 : decode prog_1_method_9_code 10 = .ok (.getfield 53, 3) := by decide +kernel
theorem d_k_hullSize_13 : decode prog_1_method_9_code 13 = .ok (.ireturn, 1) := by decide +kernel
def R_k_hullSize : Room := { frames := 0, cells := 0, slots := 0, locals := 0 }
abbrev G_k_hullSize (l : Launch) (Z : State) (n0 : Nat) (P : Heap → Prop) := Go l Z D n0 P (⟨"CaliperHull", "hullSize", "()I"⟩ : MethodName) prog_1_method_9_code 1 (some .int) R_k_hullSize
theorem pd_k_hullSize : parseMethodDescriptor "()I" = some ⟨[], some .int⟩ := by decide +kernel
theorem d_k_hullX_0 : decode prog_1_method_10_code 0 = .ok (.aload_n 0, 1) := by decide +kernel
theorem d_k_hullX_1 : decode prog_1_method_10_code 1 = .ok (.getfield 41, 3) := by decide +kernel
theorem d_k_hullX_4 : decode prog_1_method_10_code 4 = .ok (.ifCond .eq 21, 3) := by decide +kernel
theorem d_k_hullX_25 : decode prog_1_method_10_code 25 = .ok (.iconst 0, 1) := by decide +kernel
theorem d_k_hullX_26 : decode prog_1_method_10_code 26 = .ok (.ireturn, 1) := by decide +kernel
theorem d_k_hullX_7 : decode prog_1_method_10_code 7 = .ok (.iload_n 1, 1) := by decide +kernel
theorem d_k_hullX_8 : decode prog_1_method_10_code 8 = .ok (.ifCond .lt 17, 3) := by decide +kernel
theorem d_k_hullX_11 : decode prog_1_method_10_code 11 = .ok (.iload_n 1, 1) := by decide +kernel
theorem d_k_hullX_12 : decode prog_1_method_10_code 12 = .ok (.aload_n 0, 1) := by decide +kernel
theorem d_k_hullX_13 : decode prog_1_method_10_code 13 = .ok (.getfield 53, 3) := by decide +kernel
theorem d_k_hullX_16 : decode prog_1_method_10_code 16 = .ok (.if_icmp .ge 9, 3) := by decide +kernel
theorem d_k_hullX_19 : decode prog_1_method_10_code 19 = .ok (.iload_n 1, 1) := by decide +kernel
theorem d_k_hullX_20 : decode prog_1_method_10_code 20 = .ok (.bipush 32, 2) := by decide +kernel
theorem d_k_hullX_22 : decode prog_1_method_10_code 22 = .ok (.if_icmp .lt 5, 3) := by decide +kernel
theorem d_k_hullX_27 : decode prog_1_method_10_code 27 = .ok (.aload_n 0, 1) := by decide +kernel
theorem d_k_hullX_28 : decode prog_1_method_10_code 28 = .ok (.getfield 16, 3) := by decide +kernel
theorem d_k_hullX_31 : decode prog_1_method_10_code 31 = .ok (.iload_n 1, 1) := by decide +kernel
theorem d_k_hullX_32 : decode prog_1_method_10_code 32 = .ok (.iaload, 1) := by decide +kernel
theorem d_k_hullX_33 : decode prog_1_method_10_code 33 = .ok (.ireturn, 1) := by decide +kernel
def R_k_hullX : Room := { frames := 0, cells := 0, slots := 0, locals := 0 }
abbrev G_k_hullX (l : Launch) (Z : State) (n0 : Nat) (P : Heap → Prop) := Go l Z D n0 P (⟨"CaliperHull", "hullX", "(I)I"⟩ : MethodName) prog_1_method_10_code 2 (some .int) R_k_hullX
theorem pd_k_hullX : parseMethodDescriptor "(I)I" = some ⟨[.int], some .int⟩ := by decide +kernel
theorem d_k_hullY_0 : decode prog_1_method_11_code 0 = .ok (.aload_n 0, 1) := by decide +kernel
theorem d_k_hullY_1 : decode prog_1_method_11_code 1 = .ok (.getfield 41, 3) := by decide +kernel
theorem d_k_hullY_4 : decode prog_1_method_11_code 4 = .ok (.ifCond .eq 21, 3) := by decide +kernel
theorem d_k_hullY_25 : decode prog_1_method_11_code 25 = .ok (.iconst 0, 1) := by decide +kernel
theorem d_k_hullY_26 : decode prog_1_method_11_code 26 = .ok (.ireturn, 1) := by decide +kernel
theorem d_k_hullY_7 : decode prog_1_method_11_code 7 = .ok (.iload_n 1, 1) := by decide +kernel
theorem d_k_hullY_8 : decode prog_1_method_11_code 8 = .ok (.ifCond .lt 17, 3) := by decide +kernel
theorem d_k_hullY_11 : decode prog_1_method_11_code 11 = .ok (.iload_n 1, 1) := by decide +kernel
theorem d_k_hullY_12 : decode prog_1_method_11_code 12 = .ok (.aload_n 0, 1) := by decide +kernel
theorem d_k_hullY_13 : decode prog_1_method_11_code 13 = .ok (.getfield 53, 3) := by decide +kernel
theorem d_k_hullY_16 : decode prog_1_method_11_code 16 = .ok (.if_icmp .ge 9, 3) := by decide +kernel
theorem d_k_hullY_19 : decode prog_1_method_11_code 19 = .ok (.iload_n 1, 1) := by decide +kernel
theorem d_k_hullY_20 : decode prog_1_method_11_code 20 = .ok (.bipush 32, 2) := by decide +kernel
theorem d_k_hullY_22 : decode prog_1_method_11_code 22 = .ok (.if_icmp .lt 5, 3) := by decide +kernel
theorem d_k_hullY_27 : decode prog_1_method_11_code 27 = .ok (.aload_n 0, 1) := by decide +kernel
theorem d_k_hullY_28 : decode prog_1_method_11_code 28 = .ok (.getfield 19, 3) := by decide +kernel
theorem d_k_hullY_31 : decode prog_1_method_11_code 31 = .ok (.iload_n 1, 1) := by decide +kernel
theorem d_k_hullY_32 : decode prog_1_method_11_code 32 = .ok (.iaload, 1) := by decide +kernel
theorem d_k_hullY_33 : decode prog_1_method_11_code 33 = .ok (.ireturn, 1) := by decide +kernel
def R_k_hullY : Room := { frames := 0, cells := 0, slots := 0, locals := 0 }
abbrev G_k_hullY (l : Launch) (Z : State) (n0 : Nat) (P : Heap → Prop) := Go l Z D n0 P (⟨"CaliperHull", "hullY", "(I)I"⟩ : MethodName) prog_1_method_11_code 2 (some .int) R_k_hullY
theorem pd_k_hullY : parseMethodDescriptor "(I)I" = some ⟨[.int], some .int⟩ := by decide +kernel
theorem d_k_removeLast_0 : decode prog_1_method_3_code 0 = .ok (.aload_n 0, 1) := by decide +kernel
theorem d_k_removeLast_1 : decode prog_1_method_3_code 1 = .ok (.getfield 38, 3) := by decide +kernel
theorem d_k_removeLast_4 : decode prog_1_method_3_code 4 = .ok (.ifCond .gt 5, 3) := by decide +kernel
theorem d_k_removeLast_9 : decode prog_1_method_3_code 9 = .ok (.aload_n 0, 1) := by decide +kernel
theorem d_k_removeLast_10 : decode prog_1_method_3_code 10 = .ok (.dup, 1) := by decide +kernel
theorem d_k_removeLast_11 : decode prog_1_method_3_code 11 = .ok (.getfield 38, 3) := by decide +kernel
theorem d_k_removeLast_14 : decode prog_1_method_3_code 14 = .ok (.iconst 1, 1) := by decide +kernel
theorem d_k_removeLast_15 : decode prog_1_method_3_code 15 = .ok (.isub, 1) := by decide +kernel
theorem d_k_removeLast_16 : decode prog_1_method_3_code 16 = .ok (.putfield 38, 3) := by decide +kernel
theorem d_k_removeLast_19 : decode prog_1_method_3_code 19 = .ok (.aload_n 0, 1) := by decide +kernel
theorem d_k_removeLast_20 : decode prog_1_method_3_code 20 = .ok (.iconst 0, 1) := by decide +kernel
theorem d_k_removeLast_21 : decode prog_1_method_3_code 21 = .ok (.putfield 41, 3) := by decide +kernel
theorem d_k_removeLast_24 : decode prog_1_method_3_code 24 = .ok (.iconst 1, 1) := by decide +kernel
theorem d_k_removeLast_25 : decode prog_1_method_3_code 25 = .ok (.ireturn, 1) := by decide +kernel
theorem d_k_removeLast_7 : decode prog_1_method_3_code 7 = .ok (.iconst 0, 1) := by decide +kernel
theorem d_k_removeLast_8 : decode prog_1_method_3_code 8 = .ok (.ireturn, 1) := by decide +kernel
def R_k_removeLast : Room := { frames := 0, cells := 0, slots := 0, locals := 0 }
abbrev G_k_removeLast (l : Launch) (Z : State) (n0 : Nat) (P : Heap → Prop) := Go l Z D n0 P (⟨"CaliperHull", "removeLast", "()Z"⟩ : MethodName) prog_1_method_3_code 1 (some .boolean) R_k_removeLast
theorem pd_k_removeLast : parseMethodDescriptor "()Z" = some ⟨[], some .boolean⟩ := by decide +kernel
theorem d_k_diameter2_0 : decode prog_1_method_12_code 0 = .ok (.aload_n 0, 1) := by decide +kernel
theorem d_k_diameter2_1 : decode prog_1_method_12_code 1 = .ok (.getfield 41, 3) := by decide +kernel
theorem d_k_diameter2_4 : decode prog_1_method_12_code 4 = .ok (.ifCond .ne 7, 3) := by decide +kernel
theorem d_k_diameter2_7 : decode prog_1_method_12_code 7 = .ok (.ldc2_w 66, 3) := by decide +kernel
theorem d_k_diameter2_10 : decode prog_1_method_12_code 10 = .ok (.lreturn, 1) := by decide +kernel
theorem d_k_diameter2_11 : decode prog_1_method_12_code 11 = .ok (.aload_n 0, 1) := by decide +kernel
theorem d_k_diameter2_12 : decode prog_1_method_12_code 12 = .ok (.getfield 68, 3) := by decide +kernel
theorem d_k_diameter2_15 : decode prog_1_method_12_code 15 = .ok (.lreturn, 1) := by decide +kernel
def R_k_diameter2 : Room := { frames := 0, cells := 0, slots := 0, locals := 0 }
abbrev G_k_diameter2 (l : Launch) (Z : State) (n0 : Nat) (P : Heap → Prop) := Go l Z D n0 P (⟨"CaliperHull", "diameter2", "()J"⟩ : MethodName) prog_1_method_12_code 1 (some .long) R_k_diameter2
theorem pd_k_diameter2 : parseMethodDescriptor "()J" = some ⟨[], some .long⟩ := by decide +kernel
theorem d_k_pointCount_0 : decode prog_1_method_5_code 0 = .ok (.aload_n 0, 1) := by decide +kernel
theorem d_k_pointCount_1 : decode prog_1_method_5_code 1 = .ok (.getfield 38, 3) := by decide +kernel
theorem d_k_pointCount_4 : decode prog_1_method_5_code 4 = .ok (.ireturn, 1) := by decide +kernel
def R_k_pointCount : Room := { frames := 0, cells := 0, slots := 0, locals := 0 }
abbrev G_k_pointCount (l : Launch) (Z : State) (n0 : Nat) (P : Heap → Prop) := Go l Z D n0 P (⟨"CaliperHull", "pointCount", "()I"⟩ : MethodName) prog_1_method_5_code 1 (some .int) R_k_pointCount
theorem pd_k_pointCount : parseMethodDescriptor "()I" = some ⟨[], some .int⟩ := by decide +kernel
def R_u_law : Room := room_1
abbrev G_u_law (l : Launch) (Z : State) (n0 : Nat) (P : Heap → Prop) := Go l Z D n0 P x code maxLocals ret room_1
theorem pd_u_law : parseMethodDescriptor "(IIII)Z" = some ⟨[.int, .int, .int, .int], some .boolean⟩ := by decide +kernel
set_option maxRecDepth 65536 in
set_option maxHeartbeats 4000000 in
theorem tj_k_ctor_101 {l : Launch} {Z : State} {a0 : Array Value} (hw : ∀ d ∈ tables_1, d.before a0 Z = true) {n0 : Nat} {P : Heap → Prop} {F : Nat} {b0 : Nat} {Oz0 : Mo} {O0 : Mo} {v3 v4 : Int} (hf : j_k_ctor_101 F O0 v3 v4 = some Oz0) :
    G_k_ctor l Z n0 P 101 [some (vR b0), none, none, some (vI v3), some (vI v4)] [] [(b0, 7, O0)] ((b0 + 8)) 7 320 (QM Z D n0 P none [(b0, 7, Oz0)] (b0 + 8)) := by
  unfold j_k_ctor_101 at hf
  refine Go.aloadN (pc2 := 102) d_k_ctor_101 rfl rfl ?_
  refine Go.iloadN (pc2 := 103) d_k_ctor_102 rfl rfl ?_
  refine Go.putf (pc2 := 106) (cw_ok hw) d_k_ctor_103 rfl rfl D_C (by exact w_24 hw) (by exact Or.inl (w_25 hw)) (by exact w_1 hw) (q := 0) rfl (x := v3) (x' := v3) (fs_capacity) rfl rfl (os2 := [(b0, 7, (upd O0 0 0 v3))]) rfl ?_
  refine Go.aloadN (pc2 := 107) d_k_ctor_106 rfl rfl ?_
  refine Go.iload (pc2 := 109) d_k_ctor_107 rfl rfl ?_
  refine Go.putf (pc2 := 112) (cw_ok hw) d_k_ctor_109 rfl rfl D_C (by exact w_26 hw) (by exact Or.inl (w_27 hw)) (by exact w_1 hw) (q := 0) rfl (x := v4) (x' := v4) (fs_range) rfl rfl (os2 := [(b0, 7, (upd (upd O0 0 0 v3) 0 1 v4))]) rfl ?_
  refine Go.aloadN (pc2 := 113) d_k_ctor_112 rfl rfl ?_
  refine Go.iconst (pc2 := 114) d_k_ctor_113 rfl (by decide) ?_
  refine Go.putf (pc2 := 117) (cw_ok hw) d_k_ctor_114 rfl rfl D_C (by exact w_28 hw) (by exact Or.inl (w_29 hw)) (by exact w_1 hw) (q := 0) rfl (x := 0) (x' := 0) (fs_count) rfl rfl (os2 := [(b0, 7, (upd (upd (upd O0 0 0 v3) 0 1 v4) 0 2 0))]) rfl ?_
  refine Go.aloadN (pc2 := 118) d_k_ctor_117 rfl rfl ?_
  refine Go.iconst (pc2 := 119) d_k_ctor_118 rfl (by decide) ?_
  refine Go.putf (pc2 := 122) (cw_ok hw) d_k_ctor_119 rfl rfl D_C (by exact w_30 hw) (by exact Or.inl (w_31 hw)) (by exact w_1 hw) (q := 0) rfl (x := 0) (x' := 0) (fs_built) rfl rfl (os2 := [(b0, 7, (upd (upd (upd (upd O0 0 0 v3) 0 1 v4) 0 2 0) 0 3 0))]) rfl ?_
  cases hf
  exact Go.retv d_k_ctor_122 rfl (Nat.le_of_ble_eq_true rfl) (Nat.le_of_ble_eq_true rfl) (fun _ H => ⟨rfl, H⟩)
set_option maxRecDepth 65536 in
set_option maxHeartbeats 4000000 in
theorem tj_k_ctor_90 {l : Launch} {Z : State} {a0 : Array Value} (hw : ∀ d ∈ tables_1, d.before a0 Z = true) {n0 : Nat} {P : Heap → Prop} {F : Nat} {b0 : Nat} {Oz0 : Mo} {O0 : Mo} {v3 v4 : Int} (hf : j_k_ctor_90 F O0 v3 v4 = some Oz0) :
    G_k_ctor l Z n0 P 90 [some (vR b0), none, none, some (vI v3), some (vI v4)] [] [(b0, 7, O0)] ((b0 + 8)) 7 320 (QM Z D n0 P none [(b0, 7, Oz0)] (b0 + 8)) := by
  unfold j_k_ctor_90 at hf
  refine Go.iload (pc2 := 92) d_k_ctor_90 rfl rfl ?_
  refine Go.bipush (pc2 := 94) d_k_ctor_92 rfl (by decide) ?_
  by_cases hc : v4 ≤ 100
  · replace hf := ifp hc hf
    refine Go.icmpT (pc2 := 101) d_k_ctor_94 hc (by decide) (by decide) ?_
    exact tj_k_ctor_101 hw hf
  · replace hf := ifn hc hf
    refine Go.icmpF (pc2 := 97) d_k_ctor_94 hc rfl ?_
    refine Go.bipush (pc2 := 99) d_k_ctor_97 rfl (by decide) ?_
    refine Go.istore (pc2 := 101) (L2 := [some (vR b0), none, none, some (vI v3), some (vI 100)]) d_k_ctor_99 rfl (Nat.le_of_ble_eq_true rfl) rfl ?_
    exact tj_k_ctor_101 hw hf
set_option maxRecDepth 65536 in
set_option maxHeartbeats 4000000 in
theorem tj_k_ctor_78 {l : Launch} {Z : State} {a0 : Array Value} (hw : ∀ d ∈ tables_1, d.before a0 Z = true) {n0 : Nat} {P : Heap → Prop} {F : Nat} {b0 : Nat} {Oz0 : Mo} {O0 : Mo} {v2 v3 : Int} (hf : j_k_ctor_78 F O0 v2 v3 = some Oz0) :
    G_k_ctor l Z n0 P 78 [some (vR b0), none, some (vI v2), some (vI v3), none] [] [(b0, 7, O0)] ((b0 + 8)) 7 320 (QM Z D n0 P none [(b0, 7, Oz0)] (b0 + 8)) := by
  unfold j_k_ctor_78 at hf
  refine Go.iloadN (pc2 := 79) d_k_ctor_78 rfl rfl ?_
  refine Go.istore (pc2 := 81) (L2 := [some (vR b0), none, some (vI v2), some (vI v3), some (vI v2)]) d_k_ctor_79 rfl (Nat.le_of_ble_eq_true rfl) rfl ?_
  refine Go.iload (pc2 := 83) d_k_ctor_81 rfl rfl ?_
  refine Go.iconst (pc2 := 84) d_k_ctor_83 rfl (by decide) ?_
  by_cases hc : v2 < 1
  · replace hf := ifp hc hf
    refine Go.icmpF (pc2 := 87) d_k_ctor_84 (Int.not_le.mpr hc) rfl ?_
    refine Go.iconst (pc2 := 88) d_k_ctor_87 rfl (by decide) ?_
    refine Go.istore (pc2 := 90) (L2 := [some (vR b0), none, some (vI v2), some (vI v3), some (vI 1)]) d_k_ctor_88 rfl (Nat.le_of_ble_eq_true rfl) rfl ?_
    exact Go.mask [true, true, false, true, true] (tj_k_ctor_90 hw hf)
  · replace hf := ifn hc hf
    refine Go.icmpT (pc2 := 90) d_k_ctor_84 (Int.not_lt.mp hc) (by decide) (by decide) ?_
    exact Go.mask [true, true, false, true, true] (tj_k_ctor_90 hw hf)
set_option maxRecDepth 65536 in
set_option maxHeartbeats 4000000 in
theorem tj_k_ctor_69 {l : Launch} {Z : State} {a0 : Array Value} (hw : ∀ d ∈ tables_1, d.before a0 Z = true) {n0 : Nat} {P : Heap → Prop} {F : Nat} {b0 : Nat} {Oz0 : Mo} {O0 : Mo} {v2 v3 : Int} (hf : j_k_ctor_69 F O0 v2 v3 = some Oz0) :
    G_k_ctor l Z n0 P 69 [some (vR b0), none, some (vI v2), some (vI v3), none] [] [(b0, 7, O0)] ((b0 + 8)) 7 320 (QM Z D n0 P none [(b0, 7, Oz0)] (b0 + 8)) := by
  unfold j_k_ctor_69 at hf
  refine Go.iloadN (pc2 := 70) d_k_ctor_69 rfl rfl ?_
  refine Go.bipush (pc2 := 72) d_k_ctor_70 rfl (by decide) ?_
  by_cases hc : v3 ≤ 32
  · replace hf := ifp hc hf
    refine Go.icmpT (pc2 := 78) d_k_ctor_72 hc (by decide) (by decide) ?_
    exact tj_k_ctor_78 hw hf
  · replace hf := ifn hc hf
    refine Go.icmpF (pc2 := 75) d_k_ctor_72 hc rfl ?_
    refine Go.bipush (pc2 := 77) d_k_ctor_75 rfl (by decide) ?_
    refine Go.istoreN (pc2 := 78) (L2 := [some (vR b0), none, some (vI v2), some (vI 32), none]) d_k_ctor_77 rfl (Nat.le_of_ble_eq_true rfl) rfl ?_
    exact tj_k_ctor_78 hw hf
set_option maxRecDepth 65536 in
set_option maxHeartbeats 4000000 in
theorem th_k_ctor {l : Launch} {Z : State} {a0 : Array Value} (hw : ∀ d ∈ tables_1, d.before a0 Z = true) {n0 : Nat} {P : Heap → Prop} {F : Nat} {b0 : Nat} {Oz0 : Mo} {v1 v2 : Int} (hf : k_ctor F v1 v2 = some Oz0) :
    Meth l Z D n0 P (⟨"CaliperHull", "<init>", "(II)V"⟩ : MethodName) prog_1_method_1_code 5 none R_k_ctor [vR b0, vI v1, vI v2] [(b0, 0, zM)] (b0 + 1) (QM Z D n0 P none [(b0, 7, Oz0)] (b0 + 8)) := by
  refine Meth.of (plainFor_of_name pn_cls) (Nat.le_of_ble_eq_true rfl) ?_
  show G_k_ctor l Z n0 P 0 [some (vR b0), some (vI v1), some (vI v2), none, none] [] [(b0, 0, zM)] ((b0 + 1)) 0 0 (QM Z D n0 P none [(b0, 7, Oz0)] (b0 + 8))
  unfold k_ctor at hf
  refine Go.aloadN (pc2 := 1) d_k_ctor_0 rfl rfl ?_
  refine Go.inito (pc2 := 4) d_k_ctor_1 rfl rfl (by exact w_6 hw) (by exact w_7 hw) (by exact w_8 hw) (by decide) (Nat.le_of_ble_eq_true rfl) ?_
  refine Go.aloadN (pc2 := 5) d_k_ctor_4 rfl rfl ?_
  refine Go.bipush (pc2 := 7) d_k_ctor_5 rfl (by decide) ?_
  refine Go.mkarr (pc3 := 9) (pc2 := 12) (cw_ok hw) d_k_ctor_7 d_k_ctor_9 rfl rfl (by exact w_9 hw) rfl D_C (by exact w_10 hw) (by exact Or.inl (w_11 hw)) (by exact w_1 hw) (q := 0) rfl (len := 32) rfl rfl (fun _ => rfl) rfl (by decide) (by decide) (os2 := [(b0, 1, zM)]) rfl (sz2 := (b0 + 2)) rfl (cu2 := 1) rfl (su2 := 32) rfl ?_
  refine Go.aloadN (pc2 := 13) d_k_ctor_12 rfl rfl ?_
  refine Go.bipush (pc2 := 15) d_k_ctor_13 rfl (by decide) ?_
  refine Go.mkarr (pc3 := 17) (pc2 := 20) (cw_ok hw) d_k_ctor_15 d_k_ctor_17 rfl rfl (by exact w_9 hw) rfl D_C (by exact w_12 hw) (by exact Or.inl (w_13 hw)) (by exact w_1 hw) (q := 0) rfl (len := 32) rfl rfl (fun _ => rfl) rfl (by decide) (by decide) (os2 := [(b0, 2, zM)]) rfl (sz2 := (b0 + 3)) rfl (cu2 := 2) rfl (su2 := 64) rfl ?_
  refine Go.aloadN (pc2 := 21) d_k_ctor_20 rfl rfl ?_
  refine Go.bipush (pc2 := 23) d_k_ctor_21 rfl (by decide) ?_
  refine Go.mkarr (pc3 := 25) (pc2 := 28) (cw_ok hw) d_k_ctor_23 d_k_ctor_25 rfl rfl (by exact w_9 hw) rfl D_C (by exact w_14 hw) (by exact Or.inl (w_15 hw)) (by exact w_1 hw) (q := 0) rfl (len := 32) rfl rfl (fun _ => rfl) rfl (by decide) (by decide) (os2 := [(b0, 3, zM)]) rfl (sz2 := (b0 + 4)) rfl (cu2 := 3) rfl (su2 := 96) rfl ?_
  refine Go.aloadN (pc2 := 29) d_k_ctor_28 rfl rfl ?_
  refine Go.bipush (pc2 := 31) d_k_ctor_29 rfl (by decide) ?_
  refine Go.mkarr (pc3 := 33) (pc2 := 36) (cw_ok hw) d_k_ctor_31 d_k_ctor_33 rfl rfl (by exact w_9 hw) rfl D_C (by exact w_16 hw) (by exact Or.inl (w_17 hw)) (by exact w_1 hw) (q := 0) rfl (len := 32) rfl rfl (fun _ => rfl) rfl (by decide) (by decide) (os2 := [(b0, 4, zM)]) rfl (sz2 := (b0 + 5)) rfl (cu2 := 4) rfl (su2 := 128) rfl ?_
  refine Go.aloadN (pc2 := 37) d_k_ctor_36 rfl rfl ?_
  refine Go.bipush (pc2 := 39) d_k_ctor_37 rfl (by decide) ?_
  refine Go.mkarr (pc3 := 41) (pc2 := 44) (cw_ok hw) d_k_ctor_39 d_k_ctor_41 rfl rfl (by exact w_9 hw) rfl D_C (by exact w_18 hw) (by exact Or.inl (w_19 hw)) (by exact w_1 hw) (q := 0) rfl (len := 64) rfl rfl (fun _ => rfl) rfl (by decide) (by decide) (os2 := [(b0, 5, zM)]) rfl (sz2 := (b0 + 6)) rfl (cu2 := 5) rfl (su2 := 192) rfl ?_
  refine Go.aloadN (pc2 := 45) d_k_ctor_44 rfl rfl ?_
  refine Go.bipush (pc2 := 47) d_k_ctor_45 rfl (by decide) ?_
  refine Go.mkarr (pc3 := 49) (pc2 := 52) (cw_ok hw) d_k_ctor_47 d_k_ctor_49 rfl rfl (by exact w_9 hw) rfl D_C (by exact w_20 hw) (by exact Or.inl (w_21 hw)) (by exact w_1 hw) (q := 0) rfl (len := 64) rfl rfl (fun _ => rfl) rfl (by decide) (by decide) (os2 := [(b0, 6, zM)]) rfl (sz2 := (b0 + 7)) rfl (cu2 := 6) rfl (su2 := 256) rfl ?_
  refine Go.aloadN (pc2 := 53) d_k_ctor_52 rfl rfl ?_
  refine Go.bipush (pc2 := 55) d_k_ctor_53 rfl (by decide) ?_
  refine Go.mkarr (pc3 := 57) (pc2 := 60) (cw_ok hw) d_k_ctor_55 d_k_ctor_57 rfl rfl (by exact w_9 hw) rfl D_C (by exact w_22 hw) (by exact Or.inl (w_23 hw)) (by exact w_1 hw) (q := 0) rfl (len := 64) rfl rfl (fun _ => rfl) rfl (by decide) (by decide) (os2 := [(b0, 7, zM)]) rfl (sz2 := (b0 + 8)) rfl (cu2 := 7) rfl (su2 := 320) rfl ?_
  refine Go.iloadN (pc2 := 61) d_k_ctor_60 rfl rfl ?_
  refine Go.istoreN (pc2 := 62) (L2 := [some (vR b0), some (vI v1), some (vI v2), some (vI v1), none]) d_k_ctor_61 rfl (Nat.le_of_ble_eq_true rfl) rfl ?_
  refine Go.iloadN (pc2 := 63) d_k_ctor_62 rfl rfl ?_
  refine Go.iconst (pc2 := 64) d_k_ctor_63 rfl (by decide) ?_
  by_cases hc : v1 < 3
  · replace hf := ifp hc hf
    refine Go.icmpF (pc2 := 67) d_k_ctor_64 (Int.not_le.mpr hc) rfl ?_
    refine Go.iconst (pc2 := 68) d_k_ctor_67 rfl (by decide) ?_
    refine Go.istoreN (pc2 := 69) (L2 := [some (vR b0), some (vI v1), some (vI v2), some (vI 3), none]) d_k_ctor_68 rfl (Nat.le_of_ble_eq_true rfl) rfl ?_
    exact Go.mask [true, false, true, true, true] (tj_k_ctor_69 hw hf)
  · replace hf := ifn hc hf
    refine Go.icmpT (pc2 := 69) d_k_ctor_64 (Int.not_lt.mp hc) (by decide) (by decide) ?_
    exact Go.mask [true, false, true, true, true] (tj_k_ctor_69 hw hf)
set_option maxRecDepth 65536 in
set_option maxHeartbeats 4000000 in
theorem th_k_inRange {l : Launch} {Z : State} {a0 : Array Value} (hw : ∀ d ∈ tables_1, d.before a0 Z = true) {n0 : Nat} {P : Heap → Prop} {b0 sz : Nat} {rr : Int} {O0 : Mo} {v1 v2 : Int} (hf : k_inRange O0 v1 v2 = rr) :
    Meth l Z D n0 P (⟨"CaliperHull", "inRange", "(II)Z"⟩ : MethodName) prog_1_method_17_code 3 (some .boolean) R_k_inRange [vR b0, vI v1, vI v2] [(b0, 7, O0)] sz (QM Z D n0 P (some (vI rr)) [(b0, 7, O0)] sz) := by
  refine Meth.of (plainFor_of_name pn_cls) (Nat.le_of_ble_eq_true rfl) ?_
  show G_k_inRange l Z n0 P 0 [some (vR b0), some (vI v1), some (vI v2)] [] [(b0, 7, O0)] sz 0 0 (QM Z D n0 P (some (vI rr)) [(b0, 7, O0)] sz)
  unfold k_inRange at hf
  refine Go.iloadN (pc2 := 1) d_k_inRange_0 rfl rfl ?_
  refine Go.aloadN (pc2 := 2) d_k_inRange_1 rfl rfl ?_
  refine Go.getf (pc2 := 5) d_k_inRange_2 rfl rfl D_C (by exact w_26 hw) (q := 0) rfl (x := O0 0 1) (u := vI (O0 0 1)) (fs_range) rfl rfl ?_
  refine Go.ineg (pc2 := 6) d_k_inRange_5 rfl ?_
  by_cases hc : v1 < w32 (-(O0 0 1))
  · replace hf := ifp hc hf
    refine Go.icmpT (pc2 := 38) d_k_inRange_6 hc (by decide) (by decide) ?_
    refine Go.iconst (pc2 := 39) d_k_inRange_38 rfl (by decide) ?_
    cases hf
    exact Go.retz d_k_inRange_39 rfl rfl (Nat.le_of_ble_eq_true rfl) (Nat.le_of_ble_eq_true rfl) (fun _ H => ⟨rfl, H⟩)
  · replace hf := ifn hc hf
    refine Go.icmpF (pc2 := 9) d_k_inRange_6 hc rfl ?_
    refine Go.iloadN (pc2 := 10) d_k_inRange_9 rfl rfl ?_
    refine Go.aloadN (pc2 := 11) d_k_inRange_10 rfl rfl ?_
    refine Go.getf (pc2 := 14) d_k_inRange_11 rfl rfl D_C (by exact w_26 hw) (q := 0) rfl (x := O0 0 1) (u := vI (O0 0 1)) (fs_range) rfl rfl ?_
    by_cases hc : O0 0 1 < v1
    · replace hf := ifp hc hf
      refine Go.icmpT (pc2 := 38) d_k_inRange_14 hc (by decide) (by decide) ?_
      refine Go.iconst (pc2 := 39) d_k_inRange_38 rfl (by decide) ?_
      cases hf
      exact Go.retz d_k_inRange_39 rfl rfl (Nat.le_of_ble_eq_true rfl) (Nat.le_of_ble_eq_true rfl) (fun _ H => ⟨rfl, H⟩)
    · replace hf := ifn hc hf
      refine Go.icmpF (pc2 := 17) d_k_inRange_14 hc rfl ?_
      refine Go.iloadN (pc2 := 18) d_k_inRange_17 rfl rfl ?_
      refine Go.aloadN (pc2 := 19) d_k_inRange_18 rfl rfl ?_
      refine Go.getf (pc2 := 22) d_k_inRange_19 rfl rfl D_C (by exact w_26 hw) (q := 0) rfl (x := O0 0 1) (u := vI (O0 0 1)) (fs_range) rfl rfl ?_
      refine Go.ineg (pc2 := 23) d_k_inRange_22 rfl ?_
      by_cases hc : v2 < w32 (-(O0 0 1))
      · replace hf := ifp hc hf
        refine Go.icmpT (pc2 := 38) d_k_inRange_23 hc (by decide) (by decide) ?_
        refine Go.iconst (pc2 := 39) d_k_inRange_38 rfl (by decide) ?_
        cases hf
        exact Go.retz d_k_inRange_39 rfl rfl (Nat.le_of_ble_eq_true rfl) (Nat.le_of_ble_eq_true rfl) (fun _ H => ⟨rfl, H⟩)
      · replace hf := ifn hc hf
        refine Go.icmpF (pc2 := 26) d_k_inRange_23 hc rfl ?_
        refine Go.iloadN (pc2 := 27) d_k_inRange_26 rfl rfl ?_
        refine Go.aloadN (pc2 := 28) d_k_inRange_27 rfl rfl ?_
        refine Go.getf (pc2 := 31) d_k_inRange_28 rfl rfl D_C (by exact w_26 hw) (q := 0) rfl (x := O0 0 1) (u := vI (O0 0 1)) (fs_range) rfl rfl ?_
        by_cases hc : O0 0 1 < v2
        · replace hf := ifp hc hf
          refine Go.icmpT (pc2 := 38) d_k_inRange_31 hc (by decide) (by decide) ?_
          refine Go.iconst (pc2 := 39) d_k_inRange_38 rfl (by decide) ?_
          cases hf
          exact Go.retz d_k_inRange_39 rfl rfl (Nat.le_of_ble_eq_true rfl) (Nat.le_of_ble_eq_true rfl) (fun _ H => ⟨rfl, H⟩)
        · replace hf := ifn hc hf
          refine Go.icmpF (pc2 := 34) d_k_inRange_31 hc rfl ?_
          refine Go.iconst (pc2 := 35) d_k_inRange_34 rfl (by decide) ?_
          refine Go.goto (pc2 := 39) d_k_inRange_35 (by decide) (by decide) ?_
          cases hf
          exact Go.retz d_k_inRange_39 rfl rfl (Nat.le_of_ble_eq_true rfl) (Nat.le_of_ble_eq_true rfl) (fun _ H => ⟨rfl, H⟩)
set_option maxRecDepth 65536 in
set_option maxHeartbeats 4000000 in
theorem th_k_addPoint {l : Launch} {Z : State} {a0 : Array Value} (hw : ∀ d ∈ tables_1, d.before a0 Z = true) {n0 : Nat} {P : Heap → Prop} {F : Nat} {b0 sz : Nat} {rr : Int} {Oz0 : Mo} {O0 : Mo} {v1 v2 : Int} (hf : k_addPoint F O0 v1 v2 = some ((rr, Oz0))) :
    Meth l Z D n0 P (⟨"CaliperHull", "addPoint", "(II)I"⟩ : MethodName) prog_1_method_2_code 3 (some .int) R_k_addPoint [vR b0, vI v1, vI v2] [(b0, 7, O0)] sz (QM Z D n0 P (some (vI rr)) [(b0, 7, Oz0)] sz) := by
  refine Meth.of (plainFor_of_name pn_cls) (Nat.le_of_ble_eq_true rfl) ?_
  show G_k_addPoint l Z n0 P 0 [some (vR b0), some (vI v1), some (vI v2)] [] [(b0, 7, O0)] sz 0 0 (QM Z D n0 P (some (vI rr)) [(b0, 7, Oz0)] sz)
  unfold k_addPoint at hf
  refine Go.aloadN (pc2 := 1) d_k_addPoint_0 rfl rfl ?_
  refine Go.iloadN (pc2 := 2) d_k_addPoint_1 rfl rfl ?_
  refine Go.iloadN (pc2 := 3) d_k_addPoint_2 rfl rfl ?_
  refine Go.callp (pc2 := 6) (as := [vI v1, vI v2]) (S := []) (w := (some (vI (k_inRange O0 v1 v2)))) (os2 := [(b0, 7, O0)]) (sz2 := sz) (S2 := [vI (k_inRange O0 v1 v2)]) (rm := R_k_inRange) d_k_addPoint_3 rfl rfl (by exact w_37 hw) (by exact w_39 hw) (by exact w_38 hw) (by exact w_40 hw) rfl (by exact w_2 hw) (by exact w_1 hw) (q := 0) rfl (by decide) pd_k_inRange (by decide) (Nat.le_of_ble_eq_true rfl) (by decide) (by decide) (nc := 0) (ns := 0) rfl rfl rfl (cu2 := 0) rfl (su2 := 0) rfl rfl (Pays.one (q := 0) rfl rfl (fun P2 hP2 => th_k_inRange hw rfl)) rfl ?_
  by_cases hc : k_inRange O0 v1 v2 = 0
  · replace hf := ifp hc hf
    refine Go.ifF (pc2 := 9) d_k_addPoint_6 (fun q => q hc) rfl ?_
    refine Go.iconst (pc2 := 10) d_k_addPoint_9 rfl (by decide) ?_
    cases hf
    exact Go.reti d_k_addPoint_10 rfl (Nat.le_of_ble_eq_true rfl) (Nat.le_of_ble_eq_true rfl) (fun _ H => ⟨rfl, H⟩)
  · replace hf := ifn hc hf
    refine Go.ifT (pc2 := 11) d_k_addPoint_6 hc (by decide) (by decide) ?_
    refine Go.aloadN (pc2 := 12) d_k_addPoint_11 rfl rfl ?_
    refine Go.getf (pc2 := 15) d_k_addPoint_12 rfl rfl D_C (by exact w_28 hw) (q := 0) rfl (x := O0 0 2) (u := vI (O0 0 2)) (fs_count) rfl rfl ?_
    refine Go.aloadN (pc2 := 16) d_k_addPoint_15 rfl rfl ?_
    refine Go.getf (pc2 := 19) d_k_addPoint_16 rfl rfl D_C (by exact w_24 hw) (q := 0) rfl (x := O0 0 0) (u := vI (O0 0 0)) (fs_capacity) rfl rfl ?_
    by_cases hc : O0 0 2 < O0 0 0
    · replace hf := ifp hc hf
      refine Go.icmpF (pc2 := 22) d_k_addPoint_19 (Int.not_le.mpr hc) rfl ?_
      refine Go.aloadN (pc2 := 23) d_k_addPoint_22 rfl rfl ?_
      refine Go.getf (pc2 := 26) d_k_addPoint_23 rfl rfl D_C (by exact w_28 hw) (q := 0) rfl (x := O0 0 2) (u := vI (O0 0 2)) (fs_count) rfl rfl ?_
      refine Go.bipush (pc2 := 28) d_k_addPoint_26 rfl (by decide) ?_
      by_cases hc : O0 0 2 < 32
      · replace hf := ifp hc hf
        refine Go.icmpT (pc2 := 34) d_k_addPoint_28 hc (by decide) (by decide) ?_
        refine Go.aloadN (pc2 := 35) d_k_addPoint_34 rfl rfl ?_
        refine Go.geta (pc2 := 38) d_k_addPoint_35 rfl rfl D_C (by exact w_10 hw) (q := 0) rfl (j := 0) rfl (Nat.le_of_ble_eq_true rfl) rfl ?_
        refine Go.aloadN (pc2 := 39) d_k_addPoint_38 rfl rfl ?_
        refine Go.getf (pc2 := 42) d_k_addPoint_39 rfl rfl D_C (by exact w_28 hw) (q := 0) rfl (x := O0 0 2) (u := vI (O0 0 2)) (fs_count) rfl rfl ?_
        refine Go.iloadN (pc2 := 43) d_k_addPoint_42 rfl rfl ?_
        have hb := okb hf
        replace hf := ifp hb hf
        refine Go.iast (pc2 := 44) d_k_addPoint_43 rfl (q := 0) rfl (j := 0) rfl (Nat.le_of_ble_eq_true rfl) rfl hb (z := v1) (z' := v1) rfl (os2 := [(b0, 7, (upd O0 1 ((O0 0 2).toNat) v1))]) rfl ?_
        refine Go.aloadN (pc2 := 45) d_k_addPoint_44 rfl rfl ?_
        refine Go.geta (pc2 := 48) d_k_addPoint_45 rfl rfl D_C (by exact w_12 hw) (q := 0) rfl (j := 1) rfl (Nat.le_of_ble_eq_true rfl) rfl ?_
        refine Go.aloadN (pc2 := 49) d_k_addPoint_48 rfl rfl ?_
        refine Go.getf (pc2 := 52) d_k_addPoint_49 rfl rfl D_C (by exact w_28 hw) (q := 0) rfl (x := O0 0 2) (u := vI (O0 0 2)) (fs_count) rfl rfl ?_
        refine Go.iloadN (pc2 := 53) d_k_addPoint_52 rfl rfl ?_
        have hb := okb hf
        replace hf := ifp hb hf
        refine Go.iast (pc2 := 54) d_k_addPoint_53 rfl (q := 0) rfl (j := 1) rfl (Nat.le_of_ble_eq_true rfl) rfl hb (z := v2) (z' := v2) rfl (os2 := [(b0, 7, (upd (upd O0 1 ((O0 0 2).toNat) v1) 2 ((O0 0 2).toNat) v2))]) rfl ?_
        refine Go.aloadN (pc2 := 55) d_k_addPoint_54 rfl rfl ?_
        refine Go.dup (pc2 := 56) d_k_addPoint_55 rfl rfl ?_
        refine Go.getf (pc2 := 59) d_k_addPoint_56 rfl rfl D_C (by exact w_28 hw) (q := 0) rfl (x := O0 0 2) (u := vI (O0 0 2)) (fs_count) rfl rfl ?_
        refine Go.iconst (pc2 := 60) d_k_addPoint_59 rfl (by decide) ?_
        refine Go.iadd (pc2 := 61) d_k_addPoint_60 rfl ?_
        refine Go.putf (pc2 := 64) (cw_ok hw) d_k_addPoint_61 rfl rfl D_C (by exact w_28 hw) (by exact Or.inl (w_29 hw)) (by exact w_1 hw) (q := 0) rfl (x := w32 ((O0 0 2) + 1)) (x' := w32 ((O0 0 2) + 1)) (fs_count) rfl rfl (os2 := [(b0, 7, (upd (upd (upd O0 1 ((O0 0 2).toNat) v1) 2 ((O0 0 2).toNat) v2) 0 2 (w32 ((O0 0 2) + 1))))]) rfl ?_
        refine Go.aloadN (pc2 := 65) d_k_addPoint_64 rfl rfl ?_
        refine Go.iconst (pc2 := 66) d_k_addPoint_65 rfl (by decide) ?_
        refine Go.putf (pc2 := 69) (cw_ok hw) d_k_addPoint_66 rfl rfl D_C (by exact w_30 hw) (by exact Or.inl (w_31 hw)) (by exact w_1 hw) (q := 0) rfl (x := 0) (x' := 0) (fs_built) rfl rfl (os2 := [(b0, 7, (upd (upd (upd (upd O0 1 ((O0 0 2).toNat) v1) 2 ((O0 0 2).toNat) v2) 0 2 (w32 ((O0 0 2) + 1))) 0 3 0))]) rfl ?_
        refine Go.aloadN (pc2 := 70) d_k_addPoint_69 rfl rfl ?_
        refine Go.getf (pc2 := 73) d_k_addPoint_70 rfl rfl D_C (by exact w_28 hw) (q := 0) rfl (x := w32 ((O0 0 2) + 1)) (u := vI (w32 ((O0 0 2) + 1))) (fs_count) rfl rfl ?_
        refine Go.iconst (pc2 := 74) d_k_addPoint_73 rfl (by decide) ?_
        refine Go.isub (pc2 := 75) d_k_addPoint_74 rfl ?_
        cases hf
        exact Go.reti d_k_addPoint_75 rfl (Nat.le_of_ble_eq_true rfl) (Nat.le_of_ble_eq_true rfl) (fun _ H => ⟨rfl, H⟩)
      · replace hf := ifn hc hf
        refine Go.icmpF (pc2 := 31) d_k_addPoint_28 hc rfl ?_
        refine Go.bipush (pc2 := 33) d_k_addPoint_31 rfl (by decide) ?_
        cases hf
        exact Go.reti d_k_addPoint_33 rfl (Nat.le_of_ble_eq_true rfl) (Nat.le_of_ble_eq_true rfl) (fun _ H => ⟨rfl, H⟩)
    · replace hf := ifn hc hf
      refine Go.icmpT (pc2 := 31) d_k_addPoint_19 (Int.not_lt.mp hc) (by decide) (by decide) ?_
      refine Go.bipush (pc2 := 33) d_k_addPoint_31 rfl (by decide) ?_
      cases hf
      exact Go.reti d_k_addPoint_33 rfl (Nat.le_of_ble_eq_true rfl) (Nat.le_of_ble_eq_true rfl) (fun _ H => ⟨rfl, H⟩)
set_option maxRecDepth 65536 in
set_option maxHeartbeats 4000000 in
theorem tb_k_sortUnique_16 {l : Launch} {Z : State} {a0 : Array Value} (hw : ∀ d ∈ tables_1, d.before a0 Z = true) {n0 : Nat} {P : Heap → Prop} {F : Nat} {b0 sz : Nat} {rr : Int} {Oz0 : Mo} {c16_1 : Int} {v2 : Int} {O0 : Mo} {x : (Int × Mo) ⊕ (Mo)} (hf : b_k_sortUnique_16 F c16_1 v2 O0 = some x) (K : Sum.elim (fun s => G_k_sortUnique l Z n0 P 16 [some (vR b0), some (vI c16_1), some (vI s.1), none] [] [(b0, 7, s.2)] sz 0 0 (QM Z D n0 P (some (vI rr)) [(b0, 7, Oz0)] sz)) (fun rz => G_k_sortUnique l Z n0 P 54 [some (vR b0), some (vI c16_1), none, none] [] [(b0, 7, rz)] sz 0 0 (QM Z D n0 P (some (vI rr)) [(b0, 7, Oz0)] sz)) x) :
    G_k_sortUnique l Z n0 P 16 [some (vR b0), some (vI c16_1), some (vI v2), none] [] [(b0, 7, O0)] sz 0 0 (QM Z D n0 P (some (vI rr)) [(b0, 7, Oz0)] sz) := by
  unfold b_k_sortUnique_16 at hf
  refine Go.iloadN (pc2 := 17) d_k_sortUnique_16 rfl rfl ?_
  refine Go.iloadN (pc2 := 18) d_k_sortUnique_17 rfl rfl ?_
  by_cases hc : v2 < c16_1
  · replace hf := ifp hc hf
    refine Go.icmpF (pc2 := 21) d_k_sortUnique_18 (Int.not_le.mpr hc) rfl ?_
    refine Go.aloadN (pc2 := 22) d_k_sortUnique_21 rfl rfl ?_
    refine Go.geta (pc2 := 25) d_k_sortUnique_22 rfl rfl D_C (by exact w_18 hw) (q := 0) rfl (j := 4) rfl (Nat.le_of_ble_eq_true rfl) rfl ?_
    refine Go.iloadN (pc2 := 26) d_k_sortUnique_25 rfl rfl ?_
    refine Go.aloadN (pc2 := 27) d_k_sortUnique_26 rfl rfl ?_
    refine Go.geta (pc2 := 30) d_k_sortUnique_27 rfl rfl D_C (by exact w_10 hw) (q := 0) rfl (j := 0) rfl (Nat.le_of_ble_eq_true rfl) rfl ?_
    refine Go.iloadN (pc2 := 31) d_k_sortUnique_30 rfl rfl ?_
    have hb := okb hf
    replace hf := ifp hb hf
    refine Go.iald (pc2 := 32) d_k_sortUnique_31 rfl (q := 0) rfl (j := 0) rfl (Nat.le_of_ble_eq_true rfl) rfl hb (z := O0 1 v2.toNat) rfl ?_
    have hb := okb hf
    replace hf := ifp hb hf
    refine Go.iast (pc2 := 33) d_k_sortUnique_32 rfl (q := 0) rfl (j := 4) rfl (Nat.le_of_ble_eq_true rfl) rfl hb (z := O0 1 v2.toNat) (z' := O0 1 v2.toNat) rfl (os2 := [(b0, 7, (upd O0 5 (v2.toNat) (O0 1 v2.toNat)))]) rfl ?_
    refine Go.aloadN (pc2 := 34) d_k_sortUnique_33 rfl rfl ?_
    refine Go.geta (pc2 := 37) d_k_sortUnique_34 rfl rfl D_C (by exact w_18 hw) (q := 0) rfl (j := 4) rfl (Nat.le_of_ble_eq_true rfl) rfl ?_
    refine Go.bipush (pc2 := 39) d_k_sortUnique_37 rfl (by decide) ?_
    refine Go.iloadN (pc2 := 40) d_k_sortUnique_39 rfl rfl ?_
    refine Go.iadd (pc2 := 41) d_k_sortUnique_40 rfl ?_
    refine Go.aloadN (pc2 := 42) d_k_sortUnique_41 rfl rfl ?_
    refine Go.geta (pc2 := 45) d_k_sortUnique_42 rfl rfl D_C (by exact w_12 hw) (q := 0) rfl (j := 1) rfl (Nat.le_of_ble_eq_true rfl) rfl ?_
    refine Go.iloadN (pc2 := 46) d_k_sortUnique_45 rfl rfl ?_
    have hb := okb hf
    replace hf := ifp hb hf
    refine Go.iald (pc2 := 47) d_k_sortUnique_46 rfl (q := 0) rfl (j := 1) rfl (Nat.le_of_ble_eq_true rfl) rfl hb (z := (upd O0 5 (v2.toNat) (O0 1 v2.toNat)) 2 v2.toNat) rfl ?_
    have hb := okb hf
    replace hf := ifp hb hf
    refine Go.iast (pc2 := 48) d_k_sortUnique_47 rfl (q := 0) rfl (j := 4) rfl (Nat.le_of_ble_eq_true rfl) rfl hb (z := (upd O0 5 (v2.toNat) (O0 1 v2.toNat)) 2 v2.toNat) (z' := (upd O0 5 (v2.toNat) (O0 1 v2.toNat)) 2 v2.toNat) rfl (os2 := [(b0, 7, (upd (upd O0 5 (v2.toNat) (O0 1 v2.toNat)) 5 ((w32 (32 + v2)).toNat) ((upd O0 5 (v2.toNat) (O0 1 v2.toNat)) 2 v2.toNat)))]) rfl ?_
    refine Go.iinc (pc2 := 51) (L2 := [some (vR b0), some (vI c16_1), some (vI (w32 (v2 + 1))), none]) d_k_sortUnique_48 rfl rfl rfl ?_
    refine Go.goto (pc2 := 16) d_k_sortUnique_51 (by decide) (by decide) ?_
    cases hf
    exact K
  · replace hf := ifn hc hf
    refine Go.icmpT (pc2 := 54) d_k_sortUnique_18 (Int.not_lt.mp hc) (by decide) (by decide) ?_
    cases hf
    exact Go.mask [true, true, false, true] K
set_option maxRecDepth 65536 in
set_option maxHeartbeats 4000000 in
theorem tb_k_sortUnique_56 {l : Launch} {Z : State} {a0 : Array Value} (hw : ∀ d ∈ tables_1, d.before a0 Z = true) {n0 : Nat} {P : Heap → Prop} {F : Nat} {b0 sz : Nat} {rr : Int} {Oz0 : Mo} {c56_1 : Int} {C56_0 : Mo} {v2 : Int} {x : Int ⊕ (Unit)} (hf : b_k_sortUnique_56 F C56_0 c56_1 v2 = some x) (K : Sum.elim (fun s => G_k_sortUnique l Z n0 P 56 [some (vR b0), some (vI c56_1), some (vI s), none] [] [(b0, 7, C56_0)] sz 0 0 (QM Z D n0 P (some (vI rr)) [(b0, 7, Oz0)] sz)) (fun rz => G_k_sortUnique l Z n0 P 98 [some (vR b0), some (vI c56_1), none, none] [] [(b0, 7, C56_0)] sz 0 0 (QM Z D n0 P (some (vI rr)) [(b0, 7, Oz0)] sz)) x) :
    G_k_sortUnique l Z n0 P 56 [some (vR b0), some (vI c56_1), some (vI v2), none] [] [(b0, 7, C56_0)] sz 0 0 (QM Z D n0 P (some (vI rr)) [(b0, 7, Oz0)] sz) := by
  unfold b_k_sortUnique_56 at hf
  refine Go.iloadN (pc2 := 57) d_k_sortUnique_56 rfl rfl ?_
  refine Go.iloadN (pc2 := 58) d_k_sortUnique_57 rfl rfl ?_
  by_cases hc : v2 < c56_1
  · replace hf := ifp hc hf
    refine Go.icmpF (pc2 := 61) d_k_sortUnique_58 (Int.not_le.mpr hc) rfl ?_
    refine Go.iloadN (pc2 := 62) d_k_sortUnique_61 rfl rfl ?_
    refine Go.istoreN (pc2 := 63) (L2 := [some (vR b0), some (vI c56_1), some (vI v2), some (vI v2)]) d_k_sortUnique_62 rfl (Nat.le_of_ble_eq_true rfl) rfl ?_
    refine Go.iloadN (pc2 := 64) d_k_sortUnique_63 rfl rfl ?_
    by_cases hc : v2 ≤ 0
    · replace hf := ifp hc hf
      refine Go.ifT (pc2 := 92) d_k_sortUnique_64 hc (by decide) (by decide) ?_
      refine Go.iinc (pc2 := 95) (L2 := [some (vR b0), some (vI c56_1), some (vI (w32 (v2 + 1))), some (vI v2)]) d_k_sortUnique_92 rfl rfl rfl ?_
      refine Go.goto (pc2 := 56) d_k_sortUnique_95 (by decide) (by decide) ?_
      cases hf
      exact Go.mask [true, true, true, false] K
    · replace hf := ifn hc hf
      refine Go.ifF (pc2 := 67) d_k_sortUnique_64 hc rfl ?_
      refine Go.aloadN (pc2 := 68) d_k_sortUnique_67 rfl rfl ?_
      refine Go.iloadN (pc2 := 69) d_k_sortUnique_68 rfl rfl ?_
      refine Go.iloadN (pc2 := 70) d_k_sortUnique_69 rfl rfl ?_
      refine Go.iconst (pc2 := 71) d_k_sortUnique_70 rfl (by decide) ?_
      refine Go.isub (pc2 := 72) d_k_sortUnique_71 rfl ?_
      cases hf
  · replace hf := ifn hc hf
    refine Go.icmpT (pc2 := 98) d_k_sortUnique_58 (Int.not_lt.mp hc) (by decide) (by decide) ?_
    cases hf
    exact Go.mask [true, true, false, true] K
set_option maxRecDepth 65536 in
set_option maxHeartbeats 4000000 in
theorem ti_k_sortUnique_153 {l : Launch} {Z : State} {a0 : Array Value} (hw : ∀ d ∈ tables_1, d.before a0 Z = true) {n0 : Nat} {P : Heap → Prop} {F : Nat} {b0 sz : Nat} {rr : Int} {Oz0 : Mo} {c108_1 : Int} {O0 : Mo} {v2 v3 : Int} {x : (Int × Int × Mo) ⊕ ((Int × Mo))} (hf : i_k_sortUnique_153 F O0 c108_1 v2 v3 = some x) (K : Sum.elim (fun s => G_k_sortUnique l Z n0 P 108 [some (vR b0), some (vI c108_1), some (vI s.1), some (vI s.2.1)] [] [(b0, 7, s.2.2)] sz 0 0 (QM Z D n0 P (some (vI rr)) [(b0, 7, Oz0)] sz)) (fun rz => G_k_sortUnique l Z n0 P 192 [none, none, some (vI rz.1), none] [] [(b0, 7, rz.2)] sz 0 0 (QM Z D n0 P (some (vI rr)) [(b0, 7, Oz0)] sz)) x) :
    G_k_sortUnique l Z n0 P 153 [some (vR b0), some (vI c108_1), some (vI v2), some (vI v3)] [] [(b0, 7, O0)] sz 0 0 (QM Z D n0 P (some (vI rr)) [(b0, 7, Oz0)] sz) := by
  unfold i_k_sortUnique_153 at hf
  refine Go.aloadN (pc2 := 154) d_k_sortUnique_153 rfl rfl ?_
  refine Go.geta (pc2 := 157) d_k_sortUnique_154 rfl rfl D_C (by exact w_18 hw) (q := 0) rfl (j := 4) rfl (Nat.le_of_ble_eq_true rfl) rfl ?_
  refine Go.iloadN (pc2 := 158) d_k_sortUnique_157 rfl rfl ?_
  refine Go.aloadN (pc2 := 159) d_k_sortUnique_158 rfl rfl ?_
  refine Go.geta (pc2 := 162) d_k_sortUnique_159 rfl rfl D_C (by exact w_18 hw) (q := 0) rfl (j := 4) rfl (Nat.le_of_ble_eq_true rfl) rfl ?_
  refine Go.iloadN (pc2 := 163) d_k_sortUnique_162 rfl rfl ?_
  have hb := okb hf
  replace hf := ifp hb hf
  refine Go.iald (pc2 := 164) d_k_sortUnique_163 rfl (q := 0) rfl (j := 4) rfl (Nat.le_of_ble_eq_true rfl) rfl hb (z := O0 5 v3.toNat) rfl ?_
  have hb := okb hf
  replace hf := ifp hb hf
  refine Go.iast (pc2 := 165) d_k_sortUnique_164 rfl (q := 0) rfl (j := 4) rfl (Nat.le_of_ble_eq_true rfl) rfl hb (z := O0 5 v3.toNat) (z' := O0 5 v3.toNat) rfl (os2 := [(b0, 7, (upd O0 5 (v2.toNat) (O0 5 v3.toNat)))]) rfl ?_
  refine Go.aloadN (pc2 := 166) d_k_sortUnique_165 rfl rfl ?_
  refine Go.geta (pc2 := 169) d_k_sortUnique_166 rfl rfl D_C (by exact w_18 hw) (q := 0) rfl (j := 4) rfl (Nat.le_of_ble_eq_true rfl) rfl ?_
  refine Go.bipush (pc2 := 171) d_k_sortUnique_169 rfl (by decide) ?_
  refine Go.iloadN (pc2 := 172) d_k_sortUnique_171 rfl rfl ?_
  refine Go.iadd (pc2 := 173) d_k_sortUnique_172 rfl ?_
  refine Go.aloadN (pc2 := 174) d_k_sortUnique_173 rfl rfl ?_
  refine Go.geta (pc2 := 177) d_k_sortUnique_174 rfl rfl D_C (by exact w_18 hw) (q := 0) rfl (j := 4) rfl (Nat.le_of_ble_eq_true rfl) rfl ?_
  refine Go.bipush (pc2 := 179) d_k_sortUnique_177 rfl (by decide) ?_
  refine Go.iloadN (pc2 := 180) d_k_sortUnique_179 rfl rfl ?_
  refine Go.iadd (pc2 := 181) d_k_sortUnique_180 rfl ?_
  have hb := okb hf
  replace hf := ifp hb hf
  refine Go.iald (pc2 := 182) d_k_sortUnique_181 rfl (q := 0) rfl (j := 4) rfl (Nat.le_of_ble_eq_true rfl) rfl hb (z := (upd O0 5 (v2.toNat) (O0 5 v3.toNat)) 5 (w32 (32 + v3)).toNat) rfl ?_
  have hb := okb hf
  replace hf := ifp hb hf
  refine Go.iast (pc2 := 183) d_k_sortUnique_182 rfl (q := 0) rfl (j := 4) rfl (Nat.le_of_ble_eq_true rfl) rfl hb (z := (upd O0 5 (v2.toNat) (O0 5 v3.toNat)) 5 (w32 (32 + v3)).toNat) (z' := (upd O0 5 (v2.toNat) (O0 5 v3.toNat)) 5 (w32 (32 + v3)).toNat) rfl (os2 := [(b0, 7, (upd (upd O0 5 (v2.toNat) (O0 5 v3.toNat)) 5 ((w32 (32 + v2)).toNat) ((upd O0 5 (v2.toNat) (O0 5 v3.toNat)) 5 (w32 (32 + v3)).toNat)))]) rfl ?_
  refine Go.iinc (pc2 := 186) (L2 := [some (vR b0), some (vI c108_1), some (vI (w32 (v2 + 1))), some (vI v3)]) d_k_sortUnique_183 rfl rfl rfl ?_
  refine Go.iinc (pc2 := 189) (L2 := [some (vR b0), some (vI c108_1), some (vI (w32 (v2 + 1))), some (vI (w32 (v3 + 1)))]) d_k_sortUnique_186 rfl rfl rfl ?_
  refine Go.goto (pc2 := 108) d_k_sortUnique_189 (by decide) (by decide) ?_
  cases hf
  exact K
set_option maxRecDepth 65536 in
set_option maxHeartbeats 4000000 in
theorem tb_k_sortUnique_108 {l : Launch} {Z : State} {a0 : Array Value} (hw : ∀ d ∈ tables_1, d.before a0 Z = true) {n0 : Nat} {P : Heap → Prop} {F : Nat} {b0 sz : Nat} {rr : Int} {Oz0 : Mo} {c108_1 : Int} {v2 v3 : Int} {O0 : Mo} {x : (Int × Int × Mo) ⊕ ((Int × Mo))} (hf : b_k_sortUnique_108 F c108_1 v2 v3 O0 = some x) (K : Sum.elim (fun s => G_k_sortUnique l Z n0 P 108 [some (vR b0), some (vI c108_1), some (vI s.1), some (vI s.2.1)] [] [(b0, 7, s.2.2)] sz 0 0 (QM Z D n0 P (some (vI rr)) [(b0, 7, Oz0)] sz)) (fun rz => G_k_sortUnique l Z n0 P 192 [none, none, some (vI rz.1), none] [] [(b0, 7, rz.2)] sz 0 0 (QM Z D n0 P (some (vI rr)) [(b0, 7, Oz0)] sz)) x) :
    G_k_sortUnique l Z n0 P 108 [some (vR b0), some (vI c108_1), some (vI v2), some (vI v3)] [] [(b0, 7, O0)] sz 0 0 (QM Z D n0 P (some (vI rr)) [(b0, 7, Oz0)] sz) := by
  unfold b_k_sortUnique_108 at hf
  refine Go.iloadN (pc2 := 109) d_k_sortUnique_108 rfl rfl ?_
  refine Go.iloadN (pc2 := 110) d_k_sortUnique_109 rfl rfl ?_
  by_cases hc : v3 < c108_1
  · replace hf := ifp hc hf
    refine Go.icmpF (pc2 := 113) d_k_sortUnique_110 (Int.not_le.mpr hc) rfl ?_
    refine Go.aloadN (pc2 := 114) d_k_sortUnique_113 rfl rfl ?_
    refine Go.geta (pc2 := 117) d_k_sortUnique_114 rfl rfl D_C (by exact w_18 hw) (q := 0) rfl (j := 4) rfl (Nat.le_of_ble_eq_true rfl) rfl ?_
    refine Go.iloadN (pc2 := 118) d_k_sortUnique_117 rfl rfl ?_
    have hb := okb hf
    replace hf := ifp hb hf
    refine Go.iald (pc2 := 119) d_k_sortUnique_118 rfl (q := 0) rfl (j := 4) rfl (Nat.le_of_ble_eq_true rfl) rfl hb (z := O0 5 v3.toNat) rfl ?_
    refine Go.aloadN (pc2 := 120) d_k_sortUnique_119 rfl rfl ?_
    refine Go.geta (pc2 := 123) d_k_sortUnique_120 rfl rfl D_C (by exact w_18 hw) (q := 0) rfl (j := 4) rfl (Nat.le_of_ble_eq_true rfl) rfl ?_
    refine Go.iloadN (pc2 := 124) d_k_sortUnique_123 rfl rfl ?_
    refine Go.iconst (pc2 := 125) d_k_sortUnique_124 rfl (by decide) ?_
    refine Go.isub (pc2 := 126) d_k_sortUnique_125 rfl ?_
    have hb := okb hf
    replace hf := ifp hb hf
    refine Go.iald (pc2 := 127) d_k_sortUnique_126 rfl (q := 0) rfl (j := 4) rfl (Nat.le_of_ble_eq_true rfl) rfl hb (z := O0 5 (w32 (v2 - 1)).toNat) rfl ?_
    by_cases hc : O0 5 v3.toNat = O0 5 (w32 (v2 - 1)).toNat
    · replace hf := ifp hc hf
      refine Go.icmpF (pc2 := 130) d_k_sortUnique_127 (fun q => q hc) rfl ?_
      refine Go.aloadN (pc2 := 131) d_k_sortUnique_130 rfl rfl ?_
      refine Go.geta (pc2 := 134) d_k_sortUnique_131 rfl rfl D_C (by exact w_18 hw) (q := 0) rfl (j := 4) rfl (Nat.le_of_ble_eq_true rfl) rfl ?_
      refine Go.bipush (pc2 := 136) d_k_sortUnique_134 rfl (by decide) ?_
      refine Go.iloadN (pc2 := 137) d_k_sortUnique_136 rfl rfl ?_
      refine Go.iadd (pc2 := 138) d_k_sortUnique_137 rfl ?_
      have hb := okb hf
      replace hf := ifp hb hf
      refine Go.iald (pc2 := 139) d_k_sortUnique_138 rfl (q := 0) rfl (j := 4) rfl (Nat.le_of_ble_eq_true rfl) rfl hb (z := O0 5 (w32 (32 + v3)).toNat) rfl ?_
      refine Go.aloadN (pc2 := 140) d_k_sortUnique_139 rfl rfl ?_
      refine Go.geta (pc2 := 143) d_k_sortUnique_140 rfl rfl D_C (by exact w_18 hw) (q := 0) rfl (j := 4) rfl (Nat.le_of_ble_eq_true rfl) rfl ?_
      refine Go.bipush (pc2 := 145) d_k_sortUnique_143 rfl (by decide) ?_
      refine Go.iloadN (pc2 := 146) d_k_sortUnique_145 rfl rfl ?_
      refine Go.iadd (pc2 := 147) d_k_sortUnique_146 rfl ?_
      refine Go.iconst (pc2 := 148) d_k_sortUnique_147 rfl (by decide) ?_
      refine Go.isub (pc2 := 149) d_k_sortUnique_148 rfl ?_
      have hb := okb hf
      replace hf := ifp hb hf
      refine Go.iald (pc2 := 150) d_k_sortUnique_149 rfl (q := 0) rfl (j := 4) rfl (Nat.le_of_ble_eq_true rfl) rfl hb (z := O0 5 (w32 ((w32 (32 + v2)) - 1)).toNat) rfl ?_
      by_cases hc : O0 5 (w32 (32 + v3)).toNat = O0 5 (w32 ((w32 (32 + v2)) - 1)).toNat
      · replace hf := ifp hc hf
        refine Go.icmpT (pc2 := 186) d_k_sortUnique_150 hc (by decide) (by decide) ?_
        refine Go.iinc (pc2 := 189) (L2 := [some (vR b0), some (vI c108_1), some (vI v2), some (vI (w32 (v3 + 1)))]) d_k_sortUnique_186 rfl rfl rfl ?_
        refine Go.goto (pc2 := 108) d_k_sortUnique_189 (by decide) (by decide) ?_
        cases hf
        exact K
      · replace hf := ifn hc hf
        refine Go.icmpF (pc2 := 153) d_k_sortUnique_150 hc rfl ?_
        exact ti_k_sortUnique_153 hw hf K
    · replace hf := ifn hc hf
      refine Go.icmpT (pc2 := 153) d_k_sortUnique_127 hc (by decide) (by decide) ?_
      exact ti_k_sortUnique_153 hw hf K
  · replace hf := ifn hc hf
    refine Go.icmpT (pc2 := 192) d_k_sortUnique_110 (Int.not_lt.mp hc) (by decide) (by decide) ?_
    cases hf
    exact Go.mask [false, false, true, false] K
set_option maxRecDepth 65536 in
set_option maxHeartbeats 4000000 in
theorem tj_k_sortUnique_14 {l : Launch} {Z : State} {a0 : Array Value} (hw : ∀ d ∈ tables_1, d.before a0 Z = true) {n0 : Nat} {P : Heap → Prop} {F : Nat} {b0 sz : Nat} {rr : Int} {Oz0 : Mo} {O0 : Mo} {v1 : Int} (hf : j_k_sortUnique_14 F O0 v1 = some ((rr, Oz0))) :
    G_k_sortUnique l Z n0 P 14 [some (vR b0), some (vI v1), none, none] [] [(b0, 7, O0)] sz 0 0 (QM Z D n0 P (some (vI rr)) [(b0, 7, Oz0)] sz) := by
  unfold j_k_sortUnique_14 at hf
  refine Go.iconst (pc2 := 15) d_k_sortUnique_14 rfl (by decide) ?_
  refine Go.istoreN (pc2 := 16) (L2 := [some (vR b0), some (vI v1), some (vI 0), none]) d_k_sortUnique_15 rfl (Nat.le_of_ble_eq_true rfl) rfl ?_
  refine loop_go hf (Gs := fun s => G_k_sortUnique l Z n0 P 16 [some (vR b0), some (vI v1), some (vI s.1), none] [] [(b0, 7, s.2)] sz 0 0 (QM Z D n0 P (some (vI rr)) [(b0, 7, Oz0)] sz)) (Gr := (fun rz => G_k_sortUnique l Z n0 P 54 [some (vR b0), some (vI v1), none, none] [] [(b0, 7, rz)] sz 0 0 (QM Z D n0 P (some (vI rr)) [(b0, 7, Oz0)] sz))) (fun s x hx K => tb_k_sortUnique_16 hw hx K) ?_
  clear hf
  intro r hf
  refine Go.iconst (pc2 := 55) d_k_sortUnique_54 rfl (by decide) ?_
  refine Go.istoreN (pc2 := 56) (L2 := [some (vR b0), some (vI v1), some (vI 1), none]) d_k_sortUnique_55 rfl (Nat.le_of_ble_eq_true rfl) rfl ?_
  refine loop_go hf (Gs := fun s => G_k_sortUnique l Z n0 P 56 [some (vR b0), some (vI v1), some (vI s), none] [] [(b0, 7, r)] sz 0 0 (QM Z D n0 P (some (vI rr)) [(b0, 7, Oz0)] sz)) (Gr := (fun rz => G_k_sortUnique l Z n0 P 98 [some (vR b0), some (vI v1), none, none] [] [(b0, 7, r)] sz 0 0 (QM Z D n0 P (some (vI rr)) [(b0, 7, Oz0)] sz))) (fun s x hx K => tb_k_sortUnique_56 hw hx K) ?_
  clear hf
  intro r_1 hf
  refine Go.iloadN (pc2 := 99) d_k_sortUnique_98 rfl rfl ?_
  by_cases hc : v1 = 0
  · replace hf := ifp hc hf
    refine Go.ifF (pc2 := 102) d_k_sortUnique_99 (fun q => q hc) rfl ?_
    refine Go.iconst (pc2 := 103) d_k_sortUnique_102 rfl (by decide) ?_
    cases hf
    exact Go.reti d_k_sortUnique_103 rfl (Nat.le_of_ble_eq_true rfl) (Nat.le_of_ble_eq_true rfl) (fun _ H => ⟨rfl, H⟩)
  · replace hf := ifn hc hf
    refine Go.ifT (pc2 := 104) d_k_sortUnique_99 hc (by decide) (by decide) ?_
    refine Go.iconst (pc2 := 105) d_k_sortUnique_104 rfl (by decide) ?_
    refine Go.istoreN (pc2 := 106) (L2 := [some (vR b0), some (vI v1), some (vI 1), none]) d_k_sortUnique_105 rfl (Nat.le_of_ble_eq_true rfl) rfl ?_
    refine Go.iconst (pc2 := 107) d_k_sortUnique_106 rfl (by decide) ?_
    refine Go.istoreN (pc2 := 108) (L2 := [some (vR b0), some (vI v1), some (vI 1), some (vI 1)]) d_k_sortUnique_107 rfl (Nat.le_of_ble_eq_true rfl) rfl ?_
    refine loop_go hf (Gs := fun s => G_k_sortUnique l Z n0 P 108 [some (vR b0), some (vI v1), some (vI s.1), some (vI s.2.1)] [] [(b0, 7, s.2.2)] sz 0 0 (QM Z D n0 P (some (vI rr)) [(b0, 7, Oz0)] sz)) (Gr := (fun rz => G_k_sortUnique l Z n0 P 192 [none, none, some (vI rz.1), none] [] [(b0, 7, rz.2)] sz 0 0 (QM Z D n0 P (some (vI rr)) [(b0, 7, Oz0)] sz))) (fun s x hx K => tb_k_sortUnique_108 hw hx K) ?_
    clear hf
    intro r_2 hf
    refine Go.iloadN (pc2 := 193) d_k_sortUnique_192 rfl rfl ?_
    cases hf
    exact Go.reti d_k_sortUnique_193 rfl (Nat.le_of_ble_eq_true rfl) (Nat.le_of_ble_eq_true rfl) (fun _ H => ⟨rfl, H⟩)
set_option maxRecDepth 65536 in
set_option maxHeartbeats 4000000 in
theorem th_k_sortUnique {l : Launch} {Z : State} {a0 : Array Value} (hw : ∀ d ∈ tables_1, d.before a0 Z = true) {n0 : Nat} {P : Heap → Prop} {F : Nat} {b0 sz : Nat} {rr : Int} {Oz0 : Mo} {O0 : Mo} (hf : k_sortUnique F O0 = some ((rr, Oz0))) :
    Meth l Z D n0 P (⟨"CaliperHull", "sortUnique", "()I"⟩ : MethodName) prog_1_method_18_code 4 (some .int) R_k_sortUnique [vR b0] [(b0, 7, O0)] sz (QM Z D n0 P (some (vI rr)) [(b0, 7, Oz0)] sz) := by
  refine Meth.of (plainFor_of_name pn_cls) (Nat.le_of_ble_eq_true rfl) ?_
  show G_k_sortUnique l Z n0 P 0 [some (vR b0), none, none, none] [] [(b0, 7, O0)] sz 0 0 (QM Z D n0 P (some (vI rr)) [(b0, 7, Oz0)] sz)
  unfold k_sortUnique at hf
  refine Go.aloadN (pc2 := 1) d_k_sortUnique_0 rfl rfl ?_
  refine Go.getf (pc2 := 4) d_k_sortUnique_1 rfl rfl D_C (by exact w_28 hw) (q := 0) rfl (x := O0 0 2) (u := vI (O0 0 2)) (fs_count) rfl rfl ?_
  refine Go.istoreN (pc2 := 5) (L2 := [some (vR b0), some (vI (O0 0 2)), none, none]) d_k_sortUnique_4 rfl (Nat.le_of_ble_eq_true rfl) rfl ?_
  refine Go.iloadN (pc2 := 6) d_k_sortUnique_5 rfl rfl ?_
  refine Go.bipush (pc2 := 8) d_k_sortUnique_6 rfl (by decide) ?_
  by_cases hc : O0 0 2 ≤ 32
  · replace hf := ifp hc hf
    refine Go.icmpT (pc2 := 14) d_k_sortUnique_8 hc (by decide) (by decide) ?_
    exact tj_k_sortUnique_14 hw hf
  · replace hf := ifn hc hf
    refine Go.icmpF (pc2 := 11) d_k_sortUnique_8 hc rfl ?_
    refine Go.bipush (pc2 := 13) d_k_sortUnique_11 rfl (by decide) ?_
    refine Go.istoreN (pc2 := 14) (L2 := [some (vR b0), some (vI 32), none, none]) d_k_sortUnique_13 rfl (Nat.le_of_ble_eq_true rfl) rfl ?_
    exact tj_k_sortUnique_14 hw hf
set_option maxRecDepth 65536 in
set_option maxHeartbeats 4000000 in
theorem tb_k_computeDiameter_55 {l : Launch} {Z : State} {a0 : Array Value} (hw : ∀ d ∈ tables_1, d.before a0 Z = true) {n0 : Nat} {P : Heap → Prop} {F : Nat} {b0 sz : Nat} {Oz0 : Mo} {c55_1 : Int} {C55_0 : Mo} {v2 : Int} {x : Int ⊕ (((Int × Int)) ⊕ Mo)} (hf : b_k_computeDiameter_55 F C55_0 c55_1 v2 = some x) (K : Sum.elim (fun s => G_k_computeDiameter l Z n0 P 55 [some (vR b0), some (vI c55_1), some (vI s), none, none, none] [] [(b0, 7, C55_0)] sz 0 0 (QM Z D n0 P none [(b0, 7, Oz0)] sz)) (Sum.elim (fun rz => G_k_computeDiameter l Z n0 P 81 [some (vR b0), none, some (vI rz.1), some (vI rz.2), none, none] [] [(b0, 7, C55_0)] sz 0 0 (QM Z D n0 P none [(b0, 7, Oz0)] sz)) (fun rz => rz = Oz0)) x) :
    G_k_computeDiameter l Z n0 P 55 [some (vR b0), some (vI c55_1), some (vI v2), none, none, none] [] [(b0, 7, C55_0)] sz 0 0 (QM Z D n0 P none [(b0, 7, Oz0)] sz) := by
  unfold b_k_computeDiameter_55 at hf
  refine Go.iloadN (pc2 := 56) d_k_computeDiameter_55 rfl rfl ?_
  refine Go.iloadN (pc2 := 57) d_k_computeDiameter_56 rfl rfl ?_
  by_cases hc : v2 < c55_1
  · replace hf := ifp hc hf
    refine Go.icmpF (pc2 := 60) d_k_computeDiameter_57 (Int.not_le.mpr hc) rfl ?_
    refine Go.iloadN (pc2 := 61) d_k_computeDiameter_60 rfl rfl ?_
    refine Go.bipush (pc2 := 63) d_k_computeDiameter_61 rfl (by decide) ?_
    by_cases hc : v2 < 32
    · replace hf := ifp hc hf
      refine Go.icmpF (pc2 := 66) d_k_computeDiameter_63 (Int.not_le.mpr hc) rfl ?_
      refine Go.iloadN (pc2 := 67) d_k_computeDiameter_66 rfl rfl ?_
      refine Go.iconst (pc2 := 68) d_k_computeDiameter_67 rfl (by decide) ?_
      refine Go.iadd (pc2 := 69) d_k_computeDiameter_68 rfl ?_
      refine Go.istoreN (pc2 := 70) (L2 := [some (vR b0), some (vI c55_1), some (vI v2), some (vI (w32 (v2 + 1))), none, none]) d_k_computeDiameter_69 rfl (Nat.le_of_ble_eq_true rfl) rfl ?_
      refine Go.iloadN (pc2 := 71) d_k_computeDiameter_70 rfl rfl ?_
      refine Go.iloadN (pc2 := 72) d_k_computeDiameter_71 rfl rfl ?_
      by_cases hc : w32 (v2 + 1) < c55_1
      · replace hf := ifp hc hf
        refine Go.icmpF (pc2 := 75) d_k_computeDiameter_72 (Int.not_le.mpr hc) rfl ?_
        refine Go.iloadN (pc2 := 76) d_k_computeDiameter_75 rfl rfl ?_
        refine Go.bipush (pc2 := 78) d_k_computeDiameter_76 rfl (by decide) ?_
        by_cases hc : w32 (v2 + 1) < 32
        · replace hf := ifp hc hf
          refine Go.icmpF (pc2 := 81) d_k_computeDiameter_78 (Int.not_le.mpr hc) rfl ?_
          cases hf
          exact Go.mask [true, false, true, true, true, true] K
        · replace hf := ifn hc hf
          refine Go.icmpT (pc2 := 121) d_k_computeDiameter_78 (Int.not_lt.mp hc) (by decide) (by decide) ?_
          refine Go.iinc (pc2 := 124) (L2 := [some (vR b0), some (vI c55_1), some (vI (w32 (v2 + 1))), some (vI (w32 (v2 + 1))), none, none]) d_k_computeDiameter_121 rfl rfl rfl ?_
          refine Go.goto (pc2 := 55) d_k_computeDiameter_124 (by decide) (by decide) ?_
          cases hf
          exact Go.mask [true, true, true, false, true, true] K
      · replace hf := ifn hc hf
        refine Go.icmpT (pc2 := 121) d_k_computeDiameter_72 (Int.not_lt.mp hc) (by decide) (by decide) ?_
        refine Go.iinc (pc2 := 124) (L2 := [some (vR b0), some (vI c55_1), some (vI (w32 (v2 + 1))), some (vI (w32 (v2 + 1))), none, none]) d_k_computeDiameter_121 rfl rfl rfl ?_
        refine Go.goto (pc2 := 55) d_k_computeDiameter_124 (by decide) (by decide) ?_
        cases hf
        exact Go.mask [true, true, true, false, true, true] K
    · replace hf := ifn hc hf
      refine Go.icmpT (pc2 := 127) d_k_computeDiameter_63 (Int.not_lt.mp hc) (by decide) (by decide) ?_
      cases hf
      replace K : C55_0 = Oz0 := K
      cases K
      exact Go.retv d_k_computeDiameter_127 rfl (Nat.le_of_ble_eq_true rfl) (Nat.le_of_ble_eq_true rfl) (fun _ H => ⟨rfl, H⟩)
  · replace hf := ifn hc hf
    refine Go.icmpT (pc2 := 127) d_k_computeDiameter_57 (Int.not_lt.mp hc) (by decide) (by decide) ?_
    cases hf
    replace K : C55_0 = Oz0 := K
    cases K
    exact Go.retv d_k_computeDiameter_127 rfl (Nat.le_of_ble_eq_true rfl) (Nat.le_of_ble_eq_true rfl) (fun _ H => ⟨rfl, H⟩)
set_option maxRecDepth 65536 in
set_option maxHeartbeats 4000000 in
theorem th_k_computeDiameter {l : Launch} {Z : State} {a0 : Array Value} (hw : ∀ d ∈ tables_1, d.before a0 Z = true) {n0 : Nat} {P : Heap → Prop} {F : Nat} {b0 sz : Nat} {Oz0 : Mo} {O0 : Mo} (hf : k_computeDiameter F O0 = some Oz0) :
    Meth l Z D n0 P (⟨"CaliperHull", "computeDiameter", "()V"⟩ : MethodName) prog_1_method_25_code 6 none R_k_computeDiameter [vR b0] [(b0, 7, O0)] sz (QM Z D n0 P none [(b0, 7, Oz0)] sz) := by
  refine Meth.of (plainFor_of_name pn_cls) (Nat.le_of_ble_eq_true rfl) ?_
  show G_k_computeDiameter l Z n0 P 0 [some (vR b0), none, none, none, none, none] [] [(b0, 7, O0)] sz 0 0 (QM Z D n0 P none [(b0, 7, Oz0)] sz)
  unfold k_computeDiameter at hf
  refine Go.aloadN (pc2 := 1) d_k_computeDiameter_0 rfl rfl ?_
  refine Go.getf (pc2 := 4) d_k_computeDiameter_1 rfl rfl D_C (by exact w_50 hw) (q := 0) rfl (x := O0 0 4) (u := vI (O0 0 4)) (fs_hullCount) rfl rfl ?_
  refine Go.istoreN (pc2 := 5) (L2 := [some (vR b0), some (vI (O0 0 4)), none, none, none, none]) d_k_computeDiameter_4 rfl (Nat.le_of_ble_eq_true rfl) rfl ?_
  refine Go.iloadN (pc2 := 6) d_k_computeDiameter_5 rfl rfl ?_
  by_cases hc : O0 0 4 = 0
  · replace hf := ifp hc hf
    refine Go.ifF (pc2 := 9) d_k_computeDiameter_6 (fun q => q hc) rfl ?_
    refine Go.aloadN (pc2 := 10) d_k_computeDiameter_9 rfl rfl ?_
    refine Go.lconst (pc2 := 11) (i := 0) d_k_computeDiameter_10 rfl (by decide) ?_
    refine Go.putf (pc2 := 14) (cw_ok hw) d_k_computeDiameter_11 rfl rfl D_C (by exact w_56 hw) (by exact Or.inl (w_57 hw)) (by exact w_1 hw) (q := 0) rfl (x := 0) (x' := 0) (fs_diam2) rfl rfl (os2 := [(b0, 7, (upd O0 0 5 0))]) rfl ?_
    refine Go.aloadN (pc2 := 15) d_k_computeDiameter_14 rfl rfl ?_
    refine Go.iconst (pc2 := 16) d_k_computeDiameter_15 rfl (by decide) ?_
    refine Go.putf (pc2 := 19) (cw_ok hw) d_k_computeDiameter_16 rfl rfl D_C (by exact w_58 hw) (by exact Or.inl (w_59 hw)) (by exact w_1 hw) (q := 0) rfl (x := (-1)) (x' := (-1)) (fs_diamA) rfl rfl (os2 := [(b0, 7, (upd (upd O0 0 5 0) 0 6 ((-1))))]) rfl ?_
    refine Go.aloadN (pc2 := 20) d_k_computeDiameter_19 rfl rfl ?_
    refine Go.iconst (pc2 := 21) d_k_computeDiameter_20 rfl (by decide) ?_
    refine Go.putf (pc2 := 24) (cw_ok hw) d_k_computeDiameter_21 rfl rfl D_C (by exact w_60 hw) (by exact Or.inl (w_61 hw)) (by exact w_1 hw) (q := 0) rfl (x := (-1)) (x' := (-1)) (fs_diamB) rfl rfl (os2 := [(b0, 7, (upd (upd (upd O0 0 5 0) 0 6 ((-1))) 0 7 ((-1))))]) rfl ?_
    cases hf
    exact Go.retv d_k_computeDiameter_24 rfl (Nat.le_of_ble_eq_true rfl) (Nat.le_of_ble_eq_true rfl) (fun _ H => ⟨rfl, H⟩)
  · replace hf := ifn hc hf
    refine Go.ifT (pc2 := 25) d_k_computeDiameter_6 hc (by decide) (by decide) ?_
    refine Go.aloadN (pc2 := 26) d_k_computeDiameter_25 rfl rfl ?_
    refine Go.lconst (pc2 := 27) (i := 0) d_k_computeDiameter_26 rfl (by decide) ?_
    refine Go.putf (pc2 := 30) (cw_ok hw) d_k_computeDiameter_27 rfl rfl D_C (by exact w_56 hw) (by exact Or.inl (w_57 hw)) (by exact w_1 hw) (q := 0) rfl (x := 0) (x' := 0) (fs_diam2) rfl rfl (os2 := [(b0, 7, (upd O0 0 5 0))]) rfl ?_
    refine Go.aloadN (pc2 := 31) d_k_computeDiameter_30 rfl rfl ?_
    refine Go.iconst (pc2 := 32) d_k_computeDiameter_31 rfl (by decide) ?_
    refine Go.putf (pc2 := 35) (cw_ok hw) d_k_computeDiameter_32 rfl rfl D_C (by exact w_58 hw) (by exact Or.inl (w_59 hw)) (by exact w_1 hw) (q := 0) rfl (x := 0) (x' := 0) (fs_diamA) rfl rfl (os2 := [(b0, 7, (upd (upd O0 0 5 0) 0 6 0))]) rfl ?_
    refine Go.aloadN (pc2 := 36) d_k_computeDiameter_35 rfl rfl ?_
    refine Go.iconst (pc2 := 37) d_k_computeDiameter_36 rfl (by decide) ?_
    refine Go.putf (pc2 := 40) (cw_ok hw) d_k_computeDiameter_37 rfl rfl D_C (by exact w_60 hw) (by exact Or.inl (w_61 hw)) (by exact w_1 hw) (q := 0) rfl (x := 0) (x' := 0) (fs_diamB) rfl rfl (os2 := [(b0, 7, (upd (upd (upd O0 0 5 0) 0 6 0) 0 7 0))]) rfl ?_
    refine Go.iloadN (pc2 := 41) d_k_computeDiameter_40 rfl rfl ?_
    refine Go.iconst (pc2 := 42) d_k_computeDiameter_41 rfl (by decide) ?_
    by_cases hc : O0 0 4 = 1
    · replace hf := ifp hc hf
      refine Go.icmpF (pc2 := 45) d_k_computeDiameter_42 (fun q => q hc) rfl ?_
      cases hf
      exact Go.retv d_k_computeDiameter_45 rfl (Nat.le_of_ble_eq_true rfl) (Nat.le_of_ble_eq_true rfl) (fun _ H => ⟨rfl, H⟩)
    · replace hf := ifn hc hf
      refine Go.icmpT (pc2 := 46) d_k_computeDiameter_42 hc (by decide) (by decide) ?_
      refine Go.aloadN (pc2 := 47) d_k_computeDiameter_46 rfl rfl ?_
      refine Go.ldc2 (pc2 := 50) (i := (-1)) d_k_computeDiameter_47 rfl rfl (by exact w_111 hw) (by decide) ?_
      refine Go.putf (pc2 := 53) (cw_ok hw) d_k_computeDiameter_50 rfl rfl D_C (by exact w_56 hw) (by exact Or.inl (w_57 hw)) (by exact w_1 hw) (q := 0) rfl (x := (-1)) (x' := (-1)) (fs_diam2) rfl rfl (os2 := [(b0, 7, (upd (upd (upd (upd O0 0 5 0) 0 6 0) 0 7 0) 0 5 ((-1))))]) rfl ?_
      refine Go.iconst (pc2 := 54) d_k_computeDiameter_53 rfl (by decide) ?_
      refine Go.istoreN (pc2 := 55) (L2 := [some (vR b0), some (vI (O0 0 4)), some (vI 0), none, none, none]) d_k_computeDiameter_54 rfl (Nat.le_of_ble_eq_true rfl) rfl ?_
      refine loop_go hf (Gs := fun s => G_k_computeDiameter l Z n0 P 55 [some (vR b0), some (vI (O0 0 4)), some (vI s), none, none, none] [] [(b0, 7, (upd (upd (upd (upd O0 0 5 0) 0 6 0) 0 7 0) 0 5 ((-1))))] sz 0 0 (QM Z D n0 P none [(b0, 7, Oz0)] sz)) (Gr := (Sum.elim (fun rz => G_k_computeDiameter l Z n0 P 81 [some (vR b0), none, some (vI rz.1), some (vI rz.2), none, none] [] [(b0, 7, (upd (upd (upd (upd O0 0 5 0) 0 6 0) 0 7 0) 0 5 ((-1))))] sz 0 0 (QM Z D n0 P none [(b0, 7, Oz0)] sz)) (fun rz => rz = Oz0))) (fun s x hx K => tb_k_computeDiameter_55 hw hx K) ?_
      clear hf
      intro r hf
      rcases r with r_1 | r_2
      · dsimp only [Sum.elim_inl] at hf ⊢
        refine Go.aloadN (pc2 := 82) d_k_computeDiameter_81 rfl rfl ?_
        refine Go.iloadN (pc2 := 83) d_k_computeDiameter_82 rfl rfl ?_
        refine Go.iloadN (pc2 := 84) d_k_computeDiameter_83 rfl rfl ?_
        cases hf
      · dsimp only [Sum.elim_inr] at hf ⊢
        cases hf
        rfl
set_option maxRecDepth 65536 in
set_option maxHeartbeats 4000000 in
theorem th_k_computeEdges {l : Launch} {Z : State} {a0 : Array Value} (hw : ∀ d ∈ tables_1, d.before a0 Z = true) {n0 : Nat} {P : Heap → Prop} {F : Nat} {b0 sz : Nat} {Oz0 : Mo} {O0 : Mo} (hf : k_computeEdges F O0 = some Oz0) :
    Meth l Z D n0 P (⟨"CaliperHull", "computeEdges", "()V"⟩ : MethodName) prog_1_method_26_code 10 none R_k_computeEdges [vR b0] [(b0, 7, O0)] sz (QM Z D n0 P none [(b0, 7, Oz0)] sz) := by
  refine Meth.of (plainFor_of_name pn_cls) (Nat.le_of_ble_eq_true rfl) ?_
  show G_k_computeEdges l Z n0 P 0 [some (vR b0), none, none, none, none, none, none, none, none, none] [] [(b0, 7, O0)] sz 0 0 (QM Z D n0 P none [(b0, 7, Oz0)] sz)
  unfold k_computeEdges at hf
  refine Go.aloadN (pc2 := 1) d_k_computeEdges_0 rfl rfl ?_
  refine Go.lconst (pc2 := 2) (i := 0) d_k_computeEdges_1 rfl (by decide) ?_
  refine Go.putf (pc2 := 5) (cw_ok hw) d_k_computeEdges_2 rfl rfl D_C (by exact w_66 hw) (by exact Or.inl (w_67 hw)) (by exact w_1 hw) (q := 0) rfl (x := 0) (x' := 0) (fs_wNum) rfl rfl (os2 := [(b0, 7, (upd O0 0 8 0))]) rfl ?_
  refine Go.aloadN (pc2 := 6) d_k_computeEdges_5 rfl rfl ?_
  refine Go.lconst (pc2 := 7) (i := 1) d_k_computeEdges_6 rfl (by decide) ?_
  refine Go.putf (pc2 := 10) (cw_ok hw) d_k_computeEdges_7 rfl rfl D_C (by exact w_68 hw) (by exact Or.inl (w_69 hw)) (by exact w_1 hw) (q := 0) rfl (x := 1) (x' := 1) (fs_wDen) rfl rfl (os2 := [(b0, 7, (upd (upd O0 0 8 0) 0 9 1))]) rfl ?_
  refine Go.aloadN (pc2 := 11) d_k_computeEdges_10 rfl rfl ?_
  refine Go.iconst (pc2 := 12) d_k_computeEdges_11 rfl (by decide) ?_
  refine Go.putf (pc2 := 15) (cw_ok hw) d_k_computeEdges_12 rfl rfl D_C (by exact w_70 hw) (by exact Or.inl (w_71 hw)) (by exact w_1 hw) (q := 0) rfl (x := (-1)) (x' := (-1)) (fs_wEdge) rfl rfl (os2 := [(b0, 7, (upd (upd (upd O0 0 8 0) 0 9 1) 0 10 ((-1))))]) rfl ?_
  refine Go.aloadN (pc2 := 16) d_k_computeEdges_15 rfl rfl ?_
  refine Go.iconst (pc2 := 17) d_k_computeEdges_16 rfl (by decide) ?_
  refine Go.putf (pc2 := 20) (cw_ok hw) d_k_computeEdges_17 rfl rfl D_C (by exact w_72 hw) (by exact Or.inl (w_73 hw)) (by exact w_1 hw) (q := 0) rfl (x := (-1)) (x' := (-1)) (fs_wFar) rfl rfl (os2 := [(b0, 7, (upd (upd (upd (upd O0 0 8 0) 0 9 1) 0 10 ((-1))) 0 11 ((-1))))]) rfl ?_
  refine Go.aloadN (pc2 := 21) d_k_computeEdges_20 rfl rfl ?_
  refine Go.lconst (pc2 := 22) (i := 0) d_k_computeEdges_21 rfl (by decide) ?_
  refine Go.putf (pc2 := 25) (cw_ok hw) d_k_computeEdges_22 rfl rfl D_C (by exact w_74 hw) (by exact Or.inl (w_75 hw)) (by exact w_1 hw) (q := 0) rfl (x := 0) (x' := 0) (fs_bNum) rfl rfl (os2 := [(b0, 7, (upd (upd (upd (upd (upd O0 0 8 0) 0 9 1) 0 10 ((-1))) 0 11 ((-1))) 0 12 0))]) rfl ?_
  refine Go.aloadN (pc2 := 26) d_k_computeEdges_25 rfl rfl ?_
  refine Go.lconst (pc2 := 27) (i := 1) d_k_computeEdges_26 rfl (by decide) ?_
  refine Go.putf (pc2 := 30) (cw_ok hw) d_k_computeEdges_27 rfl rfl D_C (by exact w_76 hw) (by exact Or.inl (w_77 hw)) (by exact w_1 hw) (q := 0) rfl (x := 1) (x' := 1) (fs_bDen) rfl rfl (os2 := [(b0, 7, (upd (upd (upd (upd (upd (upd O0 0 8 0) 0 9 1) 0 10 ((-1))) 0 11 ((-1))) 0 12 0) 0 13 1))]) rfl ?_
  refine Go.aloadN (pc2 := 31) d_k_computeEdges_30 rfl rfl ?_
  refine Go.iconst (pc2 := 32) d_k_computeEdges_31 rfl (by decide) ?_
  refine Go.putf (pc2 := 35) (cw_ok hw) d_k_computeEdges_32 rfl rfl D_C (by exact w_78 hw) (by exact Or.inl (w_79 hw)) (by exact w_1 hw) (q := 0) rfl (x := (-1)) (x' := (-1)) (fs_bEdge) rfl rfl (os2 := [(b0, 7, (upd (upd (upd (upd (upd (upd (upd O0 0 8 0) 0 9 1) 0 10 ((-1))) 0 11 ((-1))) 0 12 0) 0 13 1) 0 14 ((-1))))]) rfl ?_
  refine Go.aloadN (pc2 := 36) d_k_computeEdges_35 rfl rfl ?_
  refine Go.iconst (pc2 := 37) d_k_computeEdges_36 rfl (by decide) ?_
  refine Go.putf (pc2 := 40) (cw_ok hw) d_k_computeEdges_37 rfl rfl D_C (by exact w_80 hw) (by exact Or.inl (w_81 hw)) (by exact w_1 hw) (q := 0) rfl (x := (-1)) (x' := (-1)) (fs_bFar) rfl rfl (os2 := [(b0, 7, (upd (upd (upd (upd (upd (upd (upd (upd O0 0 8 0) 0 9 1) 0 10 ((-1))) 0 11 ((-1))) 0 12 0) 0 13 1) 0 14 ((-1))) 0 15 ((-1))))]) rfl ?_
  refine Go.aloadN (pc2 := 41) d_k_computeEdges_40 rfl rfl ?_
  refine Go.iconst (pc2 := 42) d_k_computeEdges_41 rfl (by decide) ?_
  refine Go.putf (pc2 := 45) (cw_ok hw) d_k_computeEdges_42 rfl rfl D_C (by exact w_82 hw) (by exact Or.inl (w_83 hw)) (by exact w_1 hw) (q := 0) rfl (x := (-1)) (x' := (-1)) (fs_bLow) rfl rfl (os2 := [(b0, 7, (upd (upd (upd (upd (upd (upd (upd (upd (upd O0 0 8 0) 0 9 1) 0 10 ((-1))) 0 11 ((-1))) 0 12 0) 0 13 1) 0 14 ((-1))) 0 15 ((-1))) 0 16 ((-1))))]) rfl ?_
  refine Go.aloadN (pc2 := 46) d_k_computeEdges_45 rfl rfl ?_
  refine Go.iconst (pc2 := 47) d_k_computeEdges_46 rfl (by decide) ?_
  refine Go.putf (pc2 := 50) (cw_ok hw) d_k_computeEdges_47 rfl rfl D_C (by exact w_84 hw) (by exact Or.inl (w_85 hw)) (by exact w_1 hw) (q := 0) rfl (x := (-1)) (x' := (-1)) (fs_bHigh) rfl rfl (os2 := [(b0, 7, (upd (upd (upd (upd (upd (upd (upd (upd (upd (upd O0 0 8 0) 0 9 1) 0 10 ((-1))) 0 11 ((-1))) 0 12 0) 0 13 1) 0 14 ((-1))) 0 15 ((-1))) 0 16 ((-1))) 0 17 ((-1))))]) rfl ?_
  refine Go.aloadN (pc2 := 51) d_k_computeEdges_50 rfl rfl ?_
  refine Go.getf (pc2 := 54) d_k_computeEdges_51 rfl rfl D_C (by exact w_50 hw) (q := 0) rfl (x := O0 0 4) (u := vI (O0 0 4)) (fs_hullCount) rfl rfl ?_
  refine Go.istoreN (pc2 := 55) (L2 := [some (vR b0), some (vI (O0 0 4)), none, none, none, none, none, none, none, none]) d_k_computeEdges_54 rfl (Nat.le_of_ble_eq_true rfl) rfl ?_
  refine Go.iloadN (pc2 := 56) d_k_computeEdges_55 rfl rfl ?_
  refine Go.iconst (pc2 := 57) d_k_computeEdges_56 rfl (by decide) ?_
  by_cases hc : O0 0 4 < 3
  · replace hf := ifp hc hf
    refine Go.icmpF (pc2 := 60) d_k_computeEdges_57 (Int.not_le.mpr hc) rfl ?_
    cases hf
    exact Go.retv d_k_computeEdges_60 rfl (Nat.le_of_ble_eq_true rfl) (Nat.le_of_ble_eq_true rfl) (fun _ H => ⟨rfl, H⟩)
  · replace hf := ifn hc hf
    refine Go.icmpT (pc2 := 61) d_k_computeEdges_57 (Int.not_lt.mp hc) (by decide) (by decide) ?_
    refine Go.iconst (pc2 := 62) d_k_computeEdges_61 rfl (by decide) ?_
    refine Go.istoreN (pc2 := 63) (L2 := [some (vR b0), some (vI (O0 0 4)), some (vI 0), none, none, none, none, none, none, none]) d_k_computeEdges_62 rfl (Nat.le_of_ble_eq_true rfl) rfl ?_
    refine Go.iloadN (pc2 := 64) d_k_computeEdges_63 rfl rfl ?_
    refine Go.iloadN (pc2 := 65) d_k_computeEdges_64 rfl rfl ?_
    by_cases hc : 0 < O0 0 4
    · replace hf := ifp hc hf
      refine Go.icmpF (pc2 := 68) d_k_computeEdges_65 (Int.not_le.mpr hc) rfl ?_
      refine Go.iloadN (pc2 := 69) d_k_computeEdges_68 rfl rfl ?_
      refine Go.bipush (pc2 := 71) d_k_computeEdges_69 rfl (by decide) ?_
      by_cases hc : (0 : Int) < 32
      · replace hf := ifp hc hf
        refine Go.icmpF (pc2 := 74) d_k_computeEdges_71 (Int.not_le.mpr hc) rfl ?_
        refine Go.aloadN (pc2 := 75) d_k_computeEdges_74 rfl rfl ?_
        refine Go.iloadN (pc2 := 76) d_k_computeEdges_75 rfl rfl ?_
        cases hf
      · replace hf := ifn hc hf
        refine Go.icmpT (pc2 := 256) d_k_computeEdges_71 (Int.not_lt.mp hc) (by decide) (by decide) ?_
        cases hf
        exact Go.retv d_k_computeEdges_256 rfl (Nat.le_of_ble_eq_true rfl) (Nat.le_of_ble_eq_true rfl) (fun _ H => ⟨rfl, H⟩)
    · replace hf := ifn hc hf
      refine Go.icmpT (pc2 := 256) d_k_computeEdges_65 (Int.not_lt.mp hc) (by decide) (by decide) ?_
      cases hf
      exact Go.retv d_k_computeEdges_256 rfl (Nat.le_of_ble_eq_true rfl) (Nat.le_of_ble_eq_true rfl) (fun _ H => ⟨rfl, H⟩)
set_option maxRecDepth 65536 in
set_option maxHeartbeats 4000000 in
theorem tj_k_build_60 {l : Launch} {Z : State} {a0 : Array Value} (hw : ∀ d ∈ tables_1, d.before a0 Z = true) {n0 : Nat} {P : Heap → Prop} {F : Nat} {b0 sz : Nat} {rr : Int} {Oz0 : Mo} {O0 : Mo} (hf : j_k_build_60 F O0 = some ((rr, Oz0))) :
    G_k_build l Z n0 P 60 [some (vR b0), none] [] [(b0, 7, O0)] sz 0 0 (QM Z D n0 P (some (vI rr)) [(b0, 7, Oz0)] sz) := by
  unfold j_k_build_60 at hf
  refine Go.aloadN (pc2 := 61) d_k_build_60 rfl rfl ?_
  refine bind_in hf ?_
  clear hf
  intro r h_r hf
  refine Go.callp (pc2 := 64) (as := []) (S := []) (w := none) (os2 := [(b0, 7, r)]) (sz2 := sz) (S2 := []) (rm := R_k_computeDiameter) d_k_build_61 rfl rfl (by exact w_52 hw) (by exact w_54 hw) (by exact w_53 hw) (by exact w_55 hw) rfl (by exact w_2 hw) (by exact w_1 hw) (q := 0) rfl (by decide) pd_k_computeDiameter (by decide) (Nat.le_of_ble_eq_true rfl) (by decide) (by decide) (nc := 0) (ns := 0) rfl rfl rfl (cu2 := 0) rfl (su2 := 0) rfl rfl (Pays.one (q := 0) rfl rfl (fun P2 hP2 => th_k_computeDiameter hw h_r)) rfl ?_
  refine Go.aloadN (pc2 := 65) d_k_build_64 rfl rfl ?_
  refine bind_in hf ?_
  clear hf
  intro r_1 h_r_1 hf
  refine Go.callp (pc2 := 68) (as := []) (S := []) (w := none) (os2 := [(b0, 7, r_1)]) (sz2 := sz) (S2 := []) (rm := R_k_computeEdges) d_k_build_65 rfl rfl (by exact w_62 hw) (by exact w_64 hw) (by exact w_63 hw) (by exact w_65 hw) rfl (by exact w_2 hw) (by exact w_1 hw) (q := 0) rfl (by decide) pd_k_computeEdges (by decide) (Nat.le_of_ble_eq_true rfl) (by decide) (by decide) (nc := 0) (ns := 0) rfl rfl rfl (cu2 := 0) rfl (su2 := 0) rfl rfl (Pays.one (q := 0) rfl rfl (fun P2 hP2 => th_k_computeEdges hw h_r_1)) rfl ?_
  refine Go.aloadN (pc2 := 69) d_k_build_68 rfl rfl ?_
  refine Go.iconst (pc2 := 70) d_k_build_69 rfl (by decide) ?_
  refine Go.putf (pc2 := 73) (cw_ok hw) d_k_build_70 rfl rfl D_C (by exact w_30 hw) (by exact Or.inl (w_31 hw)) (by exact w_1 hw) (q := 0) rfl (x := 1) (x' := 1) (fs_built) rfl rfl (os2 := [(b0, 7, (upd r_1 0 3 1))]) rfl ?_
  refine Go.aloadN (pc2 := 74) d_k_build_73 rfl rfl ?_
  refine Go.getf (pc2 := 77) d_k_build_74 rfl rfl D_C (by exact w_50 hw) (q := 0) rfl (x := r_1 0 4) (u := vI (r_1 0 4)) (fs_hullCount) rfl rfl ?_
  cases hf
  exact Go.reti d_k_build_77 rfl (Nat.le_of_ble_eq_true rfl) (Nat.le_of_ble_eq_true rfl) (fun _ H => ⟨rfl, H⟩)
set_option maxRecDepth 65536 in
set_option maxHeartbeats 4000000 in
theorem th_k_build {l : Launch} {Z : State} {a0 : Array Value} (hw : ∀ d ∈ tables_1, d.before a0 Z = true) {n0 : Nat} {P : Heap → Prop} {F : Nat} {b0 sz : Nat} {rr : Int} {Oz0 : Mo} {O0 : Mo} (hf : k_build F O0 = some ((rr, Oz0))) :
    Meth l Z D n0 P (⟨"CaliperHull", "build", "()I"⟩ : MethodName) prog_1_method_8_code 2 (some .int) R_k_build [vR b0] [(b0, 7, O0)] sz (QM Z D n0 P (some (vI rr)) [(b0, 7, Oz0)] sz) := by
  refine Meth.of (plainFor_of_name pn_cls) (Nat.le_of_ble_eq_true rfl) ?_
  show G_k_build l Z n0 P 0 [some (vR b0), none] [] [(b0, 7, O0)] sz 0 0 (QM Z D n0 P (some (vI rr)) [(b0, 7, Oz0)] sz)
  unfold k_build at hf
  refine Go.aloadN (pc2 := 1) d_k_build_0 rfl rfl ?_
  refine bind_in hf ?_
  clear hf
  intro r h_r hf
  refine Go.callp (pc2 := 4) (as := []) (S := []) (w := (some (vI r.1))) (os2 := [(b0, 7, r.2)]) (sz2 := sz) (S2 := [vI r.1]) (rm := R_k_sortUnique) d_k_build_1 rfl rfl (by exact w_46 hw) (by exact w_48 hw) (by exact w_47 hw) (by exact w_49 hw) rfl (by exact w_2 hw) (by exact w_1 hw) (q := 0) rfl (by decide) pd_k_sortUnique (by decide) (Nat.le_of_ble_eq_true rfl) (by decide) (by decide) (nc := 0) (ns := 0) rfl rfl rfl (cu2 := 0) rfl (su2 := 0) rfl rfl (Pays.one (q := 0) rfl rfl (fun P2 hP2 => th_k_sortUnique hw h_r)) rfl ?_
  refine Go.istoreN (pc2 := 5) (L2 := [some (vR b0), some (vI r.1)]) d_k_build_4 rfl (Nat.le_of_ble_eq_true rfl) rfl ?_
  refine Go.iloadN (pc2 := 6) d_k_build_5 rfl rfl ?_
  by_cases hc : r.1 = 0
  · replace hf := ifp hc hf
    refine Go.ifF (pc2 := 9) d_k_build_6 (fun q => q hc) rfl ?_
    refine Go.aloadN (pc2 := 10) d_k_build_9 rfl rfl ?_
    refine Go.iconst (pc2 := 11) d_k_build_10 rfl (by decide) ?_
    refine Go.putf (pc2 := 14) (cw_ok hw) d_k_build_11 rfl rfl D_C (by exact w_50 hw) (by exact Or.inl (w_51 hw)) (by exact w_1 hw) (q := 0) rfl (x := 0) (x' := 0) (fs_hullCount) rfl rfl (os2 := [(b0, 7, (upd r.2 0 4 0))]) rfl ?_
    refine Go.goto (pc2 := 60) d_k_build_14 (by decide) (by decide) ?_
    exact Go.mask [true, false] (tj_k_build_60 hw hf)
  · replace hf := ifn hc hf
    refine Go.ifT (pc2 := 17) d_k_build_6 hc (by decide) (by decide) ?_
    refine Go.iloadN (pc2 := 18) d_k_build_17 rfl rfl ?_
    refine Go.iconst (pc2 := 19) d_k_build_18 rfl (by decide) ?_
    by_cases hc : r.1 = 1
    · replace hf := ifp hc hf
      refine Go.icmpF (pc2 := 22) d_k_build_19 (fun q => q hc) rfl ?_
      refine Go.aloadN (pc2 := 23) d_k_build_22 rfl rfl ?_
      refine Go.geta (pc2 := 26) d_k_build_23 rfl rfl D_C (by exact w_14 hw) (q := 0) rfl (j := 2) rfl (Nat.le_of_ble_eq_true rfl) rfl ?_
      refine Go.iconst (pc2 := 27) d_k_build_26 rfl (by decide) ?_
      refine Go.aloadN (pc2 := 28) d_k_build_27 rfl rfl ?_
      refine Go.geta (pc2 := 31) d_k_build_28 rfl rfl D_C (by exact w_18 hw) (q := 0) rfl (j := 4) rfl (Nat.le_of_ble_eq_true rfl) rfl ?_
      refine Go.iconst (pc2 := 32) d_k_build_31 rfl (by decide) ?_
      refine Go.iald (pc2 := 33) d_k_build_32 rfl (q := 0) rfl (j := 4) rfl (Nat.le_of_ble_eq_true rfl) rfl (by decide) (z := r.2 5 0) rfl ?_
      refine Go.iast (pc2 := 34) d_k_build_33 rfl (q := 0) rfl (j := 2) rfl (Nat.le_of_ble_eq_true rfl) rfl (by decide) (z := r.2 5 0) (z' := r.2 5 0) rfl (os2 := [(b0, 7, (upd r.2 3 0 (r.2 5 0)))]) rfl ?_
      refine Go.aloadN (pc2 := 35) d_k_build_34 rfl rfl ?_
      refine Go.geta (pc2 := 38) d_k_build_35 rfl rfl D_C (by exact w_16 hw) (q := 0) rfl (j := 3) rfl (Nat.le_of_ble_eq_true rfl) rfl ?_
      refine Go.iconst (pc2 := 39) d_k_build_38 rfl (by decide) ?_
      refine Go.aloadN (pc2 := 40) d_k_build_39 rfl rfl ?_
      refine Go.geta (pc2 := 43) d_k_build_40 rfl rfl D_C (by exact w_18 hw) (q := 0) rfl (j := 4) rfl (Nat.le_of_ble_eq_true rfl) rfl ?_
      refine Go.bipush (pc2 := 45) d_k_build_43 rfl (by decide) ?_
      refine Go.iald (pc2 := 46) d_k_build_45 rfl (q := 0) rfl (j := 4) rfl (Nat.le_of_ble_eq_true rfl) rfl (by decide) (z := r.2 5 32) rfl ?_
      refine Go.iast (pc2 := 47) d_k_build_46 rfl (q := 0) rfl (j := 3) rfl (Nat.le_of_ble_eq_true rfl) rfl (by decide) (z := r.2 5 32) (z' := r.2 5 32) rfl (os2 := [(b0, 7, (upd (upd r.2 3 0 (r.2 5 0)) 4 0 (r.2 5 32)))]) rfl ?_
      refine Go.aloadN (pc2 := 48) d_k_build_47 rfl rfl ?_
      refine Go.iconst (pc2 := 49) d_k_build_48 rfl (by decide) ?_
      refine Go.putf (pc2 := 52) (cw_ok hw) d_k_build_49 rfl rfl D_C (by exact w_50 hw) (by exact Or.inl (w_51 hw)) (by exact w_1 hw) (q := 0) rfl (x := 1) (x' := 1) (fs_hullCount) rfl rfl (os2 := [(b0, 7, (upd (upd (upd r.2 3 0 (r.2 5 0)) 4 0 (r.2 5 32)) 0 4 1))]) rfl ?_
      refine Go.goto (pc2 := 60) d_k_build_52 (by decide) (by decide) ?_
      exact Go.mask [true, false] (tj_k_build_60 hw hf)
    · replace hf := ifn hc hf
      refine Go.icmpT (pc2 := 55) d_k_build_19 hc (by decide) (by decide) ?_
      refine Go.aloadN (pc2 := 56) d_k_build_55 rfl rfl ?_
      refine Go.iloadN (pc2 := 57) d_k_build_56 rfl rfl ?_
      cases hf
set_option maxRecDepth 65536 in
set_option maxHeartbeats 4000000 in
theorem th_k_hullSize {l : Launch} {Z : State} {a0 : Array Value} (hw : ∀ d ∈ tables_1, d.before a0 Z = true) {n0 : Nat} {P : Heap → Prop} {b0 sz : Nat} {rr : Int} {O0 : Mo} (hf : k_hullSize O0 = rr) :
    Meth l Z D n0 P (⟨"CaliperHull", "hullSize", "()I"⟩ : MethodName) prog_1_method_9_code 1 (some .int) R_k_hullSize [vR b0] [(b0, 7, O0)] sz (QM Z D n0 P (some (vI rr)) [(b0, 7, O0)] sz) := by
  refine Meth.of (plainFor_of_name pn_cls) (Nat.le_of_ble_eq_true rfl) ?_
  show G_k_hullSize l Z n0 P 0 [some (vR b0)] [] [(b0, 7, O0)] sz 0 0 (QM Z D n0 P (some (vI rr)) [(b0, 7, O0)] sz)
  unfold k_hullSize at hf
  refine Go.aloadN (pc2 := 1) d_k_hullSize_0 rfl rfl ?_
  refine Go.getf (pc2 := 4) d_k_hullSize_1 rfl rfl D_C (by exact w_30 hw) (q := 0) rfl (x := O0 0 3) (u := vI (O0 0 3)) (fs_built) rfl rfl ?_
  by_cases hc : O0 0 3 = 0
  · replace hf := ifp hc hf
    refine Go.ifF (pc2 := 7) d_k_hullSize_4 (fun q => q hc) rfl ?_
    refine Go.iconst (pc2 := 8) d_k_hullSize_7 rfl (by decide) ?_
    cases hf
    exact Go.reti d_k_hullSize_8 rfl (Nat.le_of_ble_eq_true rfl) (Nat.le_of_ble_eq_true rfl) (fun _ H => ⟨rfl, H⟩)
  · replace hf := ifn hc hf
    refine Go.ifT (pc2 := 9) d_k_hullSize_4 hc (by decide) (by decide) ?_
    refine Go.aloadN (pc2 := 10) d_k_hullSize_9 rfl rfl ?_
    refine Go.getf (pc2 := 13) d_k_hullSize_10 rfl rfl D_C (by exact w_50 hw) (q := 0) rfl (x := O0 0 4) (u := vI (O0 0 4)) (fs_hullCount) rfl rfl ?_
    cases hf
    exact Go.reti d_k_hullSize_13 rfl (Nat.le_of_ble_eq_true rfl) (Nat.le_of_ble_eq_true rfl) (fun _ H => ⟨rfl, H⟩)
set_option maxRecDepth 65536 in
set_option maxHeartbeats 4000000 in
theorem th_k_hullX {l : Launch} {Z : State} {a0 : Array Value} (hw : ∀ d ∈ tables_1, d.before a0 Z = true) {n0 : Nat} {P : Heap → Prop} {F : Nat} {b0 sz : Nat} {rr : Int} {O0 : Mo} {v1 : Int} (hf : k_hullX F O0 v1 = some rr) :
    Meth l Z D n0 P (⟨"CaliperHull", "hullX", "(I)I"⟩ : MethodName) prog_1_method_10_code 2 (some .int) R_k_hullX [vR b0, vI v1] [(b0, 7, O0)] sz (QM Z D n0 P (some (vI rr)) [(b0, 7, O0)] sz) := by
  refine Meth.of (plainFor_of_name pn_cls) (Nat.le_of_ble_eq_true rfl) ?_
  show G_k_hullX l Z n0 P 0 [some (vR b0), some (vI v1)] [] [(b0, 7, O0)] sz 0 0 (QM Z D n0 P (some (vI rr)) [(b0, 7, O0)] sz)
  unfold k_hullX at hf
  refine Go.aloadN (pc2 := 1) d_k_hullX_0 rfl rfl ?_
  refine Go.getf (pc2 := 4) d_k_hullX_1 rfl rfl D_C (by exact w_30 hw) (q := 0) rfl (x := O0 0 3) (u := vI (O0 0 3)) (fs_built) rfl rfl ?_
  by_cases hc : O0 0 3 = 0
  · replace hf := ifp hc hf
    refine Go.ifT (pc2 := 25) d_k_hullX_4 hc (by decide) (by decide) ?_
    refine Go.iconst (pc2 := 26) d_k_hullX_25 rfl (by decide) ?_
    cases hf
    exact Go.reti d_k_hullX_26 rfl (Nat.le_of_ble_eq_true rfl) (Nat.le_of_ble_eq_true rfl) (fun _ H => ⟨rfl, H⟩)
  · replace hf := ifn hc hf
    refine Go.ifF (pc2 := 7) d_k_hullX_4 hc rfl ?_
    refine Go.iloadN (pc2 := 8) d_k_hullX_7 rfl rfl ?_
    by_cases hc : v1 < 0
    · replace hf := ifp hc hf
      refine Go.ifT (pc2 := 25) d_k_hullX_8 hc (by decide) (by decide) ?_
      refine Go.iconst (pc2 := 26) d_k_hullX_25 rfl (by decide) ?_
      cases hf
      exact Go.reti d_k_hullX_26 rfl (Nat.le_of_ble_eq_true rfl) (Nat.le_of_ble_eq_true rfl) (fun _ H => ⟨rfl, H⟩)
    · replace hf := ifn hc hf
      refine Go.ifF (pc2 := 11) d_k_hullX_8 hc rfl ?_
      refine Go.iloadN (pc2 := 12) d_k_hullX_11 rfl rfl ?_
      refine Go.aloadN (pc2 := 13) d_k_hullX_12 rfl rfl ?_
      refine Go.getf (pc2 := 16) d_k_hullX_13 rfl rfl D_C (by exact w_50 hw) (q := 0) rfl (x := O0 0 4) (u := vI (O0 0 4)) (fs_hullCount) rfl rfl ?_
      by_cases hc : v1 < O0 0 4
      · replace hf := ifp hc hf
        refine Go.icmpF (pc2 := 19) d_k_hullX_16 (Int.not_le.mpr hc) rfl ?_
        refine Go.iloadN (pc2 := 20) d_k_hullX_19 rfl rfl ?_
        refine Go.bipush (pc2 := 22) d_k_hullX_20 rfl (by decide) ?_
        by_cases hc : v1 < 32
        · replace hf := ifp hc hf
          refine Go.icmpT (pc2 := 27) d_k_hullX_22 hc (by decide) (by decide) ?_
          refine Go.aloadN (pc2 := 28) d_k_hullX_27 rfl rfl ?_
          refine Go.geta (pc2 := 31) d_k_hullX_28 rfl rfl D_C (by exact w_14 hw) (q := 0) rfl (j := 2) rfl (Nat.le_of_ble_eq_true rfl) rfl ?_
          refine Go.iloadN (pc2 := 32) d_k_hullX_31 rfl rfl ?_
          have hb := okb hf
          replace hf := ifp hb hf
          refine Go.iald (pc2 := 33) d_k_hullX_32 rfl (q := 0) rfl (j := 2) rfl (Nat.le_of_ble_eq_true rfl) rfl hb (z := O0 3 v1.toNat) rfl ?_
          cases hf
          exact Go.reti d_k_hullX_33 rfl (Nat.le_of_ble_eq_true rfl) (Nat.le_of_ble_eq_true rfl) (fun _ H => ⟨rfl, H⟩)
        · replace hf := ifn hc hf
          refine Go.icmpF (pc2 := 25) d_k_hullX_22 hc rfl ?_
          refine Go.iconst (pc2 := 26) d_k_hullX_25 rfl (by decide) ?_
          cases hf
          exact Go.reti d_k_hullX_26 rfl (Nat.le_of_ble_eq_true rfl) (Nat.le_of_ble_eq_true rfl) (fun _ H => ⟨rfl, H⟩)
      · replace hf := ifn hc hf
        refine Go.icmpT (pc2 := 25) d_k_hullX_16 (Int.not_lt.mp hc) (by decide) (by decide) ?_
        refine Go.iconst (pc2 := 26) d_k_hullX_25 rfl (by decide) ?_
        cases hf
        exact Go.reti d_k_hullX_26 rfl (Nat.le_of_ble_eq_true rfl) (Nat.le_of_ble_eq_true rfl) (fun _ H => ⟨rfl, H⟩)
set_option maxRecDepth 65536 in
set_option maxHeartbeats 4000000 in
theorem th_k_hullY {l : Launch} {Z : State} {a0 : Array Value} (hw : ∀ d ∈ tables_1, d.before a0 Z = true) {n0 : Nat} {P : Heap → Prop} {F : Nat} {b0 sz : Nat} {rr : Int} {O0 : Mo} {v1 : Int} (hf : k_hullY F O0 v1 = some rr) :
    Meth l Z D n0 P (⟨"CaliperHull", "hullY", "(I)I"⟩ : MethodName) prog_1_method_11_code 2 (some .int) R_k_hullY [vR b0, vI v1] [(b0, 7, O0)] sz (QM Z D n0 P (some (vI rr)) [(b0, 7, O0)] sz) := by
  refine Meth.of (plainFor_of_name pn_cls) (Nat.le_of_ble_eq_true rfl) ?_
  show G_k_hullY l Z n0 P 0 [some (vR b0), some (vI v1)] [] [(b0, 7, O0)] sz 0 0 (QM Z D n0 P (some (vI rr)) [(b0, 7, O0)] sz)
  unfold k_hullY at hf
  refine Go.aloadN (pc2 := 1) d_k_hullY_0 rfl rfl ?_
  refine Go.getf (pc2 := 4) d_k_hullY_1 rfl rfl D_C (by exact w_30 hw) (q := 0) rfl (x := O0 0 3) (u := vI (O0 0 3)) (fs_built) rfl rfl ?_
  by_cases hc : O0 0 3 = 0
  · replace hf := ifp hc hf
    refine Go.ifT (pc2 := 25) d_k_hullY_4 hc (by decide) (by decide) ?_
    refine Go.iconst (pc2 := 26) d_k_hullY_25 rfl (by decide) ?_
    cases hf
    exact Go.reti d_k_hullY_26 rfl (Nat.le_of_ble_eq_true rfl) (Nat.le_of_ble_eq_true rfl) (fun _ H => ⟨rfl, H⟩)
  · replace hf := ifn hc hf
    refine Go.ifF (pc2 := 7) d_k_hullY_4 hc rfl ?_
    refine Go.iloadN (pc2 := 8) d_k_hullY_7 rfl rfl ?_
    by_cases hc : v1 < 0
    · replace hf := ifp hc hf
      refine Go.ifT (pc2 := 25) d_k_hullY_8 hc (by decide) (by decide) ?_
      refine Go.iconst (pc2 := 26) d_k_hullY_25 rfl (by decide) ?_
      cases hf
      exact Go.reti d_k_hullY_26 rfl (Nat.le_of_ble_eq_true rfl) (Nat.le_of_ble_eq_true rfl) (fun _ H => ⟨rfl, H⟩)
    · replace hf := ifn hc hf
      refine Go.ifF (pc2 := 11) d_k_hullY_8 hc rfl ?_
      refine Go.iloadN (pc2 := 12) d_k_hullY_11 rfl rfl ?_
      refine Go.aloadN (pc2 := 13) d_k_hullY_12 rfl rfl ?_
      refine Go.getf (pc2 := 16) d_k_hullY_13 rfl rfl D_C (by exact w_50 hw) (q := 0) rfl (x := O0 0 4) (u := vI (O0 0 4)) (fs_hullCount) rfl rfl ?_
      by_cases hc : v1 < O0 0 4
      · replace hf := ifp hc hf
        refine Go.icmpF (pc2 := 19) d_k_hullY_16 (Int.not_le.mpr hc) rfl ?_
        refine Go.iloadN (pc2 := 20) d_k_hullY_19 rfl rfl ?_
        refine Go.bipush (pc2 := 22) d_k_hullY_20 rfl (by decide) ?_
        by_cases hc : v1 < 32
        · replace hf := ifp hc hf
          refine Go.icmpT (pc2 := 27) d_k_hullY_22 hc (by decide) (by decide) ?_
          refine Go.aloadN (pc2 := 28) d_k_hullY_27 rfl rfl ?_
          refine Go.geta (pc2 := 31) d_k_hullY_28 rfl rfl D_C (by exact w_16 hw) (q := 0) rfl (j := 3) rfl (Nat.le_of_ble_eq_true rfl) rfl ?_
          refine Go.iloadN (pc2 := 32) d_k_hullY_31 rfl rfl ?_
          have hb := okb hf
          replace hf := ifp hb hf
          refine Go.iald (pc2 := 33) d_k_hullY_32 rfl (q := 0) rfl (j := 3) rfl (Nat.le_of_ble_eq_true rfl) rfl hb (z := O0 4 v1.toNat) rfl ?_
          cases hf
          exact Go.reti d_k_hullY_33 rfl (Nat.le_of_ble_eq_true rfl) (Nat.le_of_ble_eq_true rfl) (fun _ H => ⟨rfl, H⟩)
        · replace hf := ifn hc hf
          refine Go.icmpF (pc2 := 25) d_k_hullY_22 hc rfl ?_
          refine Go.iconst (pc2 := 26) d_k_hullY_25 rfl (by decide) ?_
          cases hf
          exact Go.reti d_k_hullY_26 rfl (Nat.le_of_ble_eq_true rfl) (Nat.le_of_ble_eq_true rfl) (fun _ H => ⟨rfl, H⟩)
      · replace hf := ifn hc hf
        refine Go.icmpT (pc2 := 25) d_k_hullY_16 (Int.not_lt.mp hc) (by decide) (by decide) ?_
        refine Go.iconst (pc2 := 26) d_k_hullY_25 rfl (by decide) ?_
        cases hf
        exact Go.reti d_k_hullY_26 rfl (Nat.le_of_ble_eq_true rfl) (Nat.le_of_ble_eq_true rfl) (fun _ H => ⟨rfl, H⟩)
set_option maxRecDepth 65536 in
set_option maxHeartbeats 4000000 in
theorem th_k_removeLast {l : Launch} {Z : State} {a0 : Array Value} (hw : ∀ d ∈ tables_1, d.before a0 Z = true) {n0 : Nat} {P : Heap → Prop} {F : Nat} {b0 sz : Nat} {rr : Int} {Oz0 : Mo} {O0 : Mo} (hf : k_removeLast F O0 = some ((rr, Oz0))) :
    Meth l Z D n0 P (⟨"CaliperHull", "removeLast", "()Z"⟩ : MethodName) prog_1_method_3_code 1 (some .boolean) R_k_removeLast [vR b0] [(b0, 7, O0)] sz (QM Z D n0 P (some (vI rr)) [(b0, 7, Oz0)] sz) := by
  refine Meth.of (plainFor_of_name pn_cls) (Nat.le_of_ble_eq_true rfl) ?_
  show G_k_removeLast l Z n0 P 0 [some (vR b0)] [] [(b0, 7, O0)] sz 0 0 (QM Z D n0 P (some (vI rr)) [(b0, 7, Oz0)] sz)
  unfold k_removeLast at hf
  refine Go.aloadN (pc2 := 1) d_k_removeLast_0 rfl rfl ?_
  refine Go.getf (pc2 := 4) d_k_removeLast_1 rfl rfl D_C (by exact w_28 hw) (q := 0) rfl (x := O0 0 2) (u := vI (O0 0 2)) (fs_count) rfl rfl ?_
  by_cases hc : 0 < O0 0 2
  · replace hf := ifp hc hf
    refine Go.ifT (pc2 := 9) d_k_removeLast_4 hc (by decide) (by decide) ?_
    refine Go.aloadN (pc2 := 10) d_k_removeLast_9 rfl rfl ?_
    refine Go.dup (pc2 := 11) d_k_removeLast_10 rfl rfl ?_
    refine Go.getf (pc2 := 14) d_k_removeLast_11 rfl rfl D_C (by exact w_28 hw) (q := 0) rfl (x := O0 0 2) (u := vI (O0 0 2)) (fs_count) rfl rfl ?_
    refine Go.iconst (pc2 := 15) d_k_removeLast_14 rfl (by decide) ?_
    refine Go.isub (pc2 := 16) d_k_removeLast_15 rfl ?_
    refine Go.putf (pc2 := 19) (cw_ok hw) d_k_removeLast_16 rfl rfl D_C (by exact w_28 hw) (by exact Or.inl (w_29 hw)) (by exact w_1 hw) (q := 0) rfl (x := w32 ((O0 0 2) - 1)) (x' := w32 ((O0 0 2) - 1)) (fs_count) rfl rfl (os2 := [(b0, 7, (upd O0 0 2 (w32 ((O0 0 2) - 1))))]) rfl ?_
    refine Go.aloadN (pc2 := 20) d_k_removeLast_19 rfl rfl ?_
    refine Go.iconst (pc2 := 21) d_k_removeLast_20 rfl (by decide) ?_
    refine Go.putf (pc2 := 24) (cw_ok hw) d_k_removeLast_21 rfl rfl D_C (by exact w_30 hw) (by exact Or.inl (w_31 hw)) (by exact w_1 hw) (q := 0) rfl (x := 0) (x' := 0) (fs_built) rfl rfl (os2 := [(b0, 7, (upd (upd O0 0 2 (w32 ((O0 0 2) - 1))) 0 3 0))]) rfl ?_
    refine Go.iconst (pc2 := 25) d_k_removeLast_24 rfl (by decide) ?_
    cases hf
    exact Go.retz d_k_removeLast_25 rfl rfl (Nat.le_of_ble_eq_true rfl) (Nat.le_of_ble_eq_true rfl) (fun _ H => ⟨rfl, H⟩)
  · replace hf := ifn hc hf
    refine Go.ifF (pc2 := 7) d_k_removeLast_4 hc rfl ?_
    refine Go.iconst (pc2 := 8) d_k_removeLast_7 rfl (by decide) ?_
    cases hf
    exact Go.retz d_k_removeLast_8 rfl rfl (Nat.le_of_ble_eq_true rfl) (Nat.le_of_ble_eq_true rfl) (fun _ H => ⟨rfl, H⟩)
set_option maxRecDepth 65536 in
set_option maxHeartbeats 4000000 in
theorem th_k_diameter2 {l : Launch} {Z : State} {a0 : Array Value} (hw : ∀ d ∈ tables_1, d.before a0 Z = true) {n0 : Nat} {P : Heap → Prop} {b0 sz : Nat} {rr : Int} {O0 : Mo} (hf : k_diameter2 O0 = rr) :
    Meth l Z D n0 P (⟨"CaliperHull", "diameter2", "()J"⟩ : MethodName) prog_1_method_12_code 1 (some .long) R_k_diameter2 [vR b0] [(b0, 7, O0)] sz (QM Z D n0 P (some (vJ rr)) [(b0, 7, O0)] sz) := by
  refine Meth.of (plainFor_of_name pn_cls) (Nat.le_of_ble_eq_true rfl) ?_
  show G_k_diameter2 l Z n0 P 0 [some (vR b0)] [] [(b0, 7, O0)] sz 0 0 (QM Z D n0 P (some (vJ rr)) [(b0, 7, O0)] sz)
  unfold k_diameter2 at hf
  refine Go.aloadN (pc2 := 1) d_k_diameter2_0 rfl rfl ?_
  refine Go.getf (pc2 := 4) d_k_diameter2_1 rfl rfl D_C (by exact w_30 hw) (q := 0) rfl (x := O0 0 3) (u := vI (O0 0 3)) (fs_built) rfl rfl ?_
  by_cases hc : O0 0 3 = 0
  · replace hf := ifp hc hf
    refine Go.ifF (pc2 := 7) d_k_diameter2_4 (fun q => q hc) rfl ?_
    refine Go.ldc2 (pc2 := 10) (i := (-1)) d_k_diameter2_7 rfl rfl (by exact w_111 hw) (by decide) ?_
    cases hf
    exact Go.retj d_k_diameter2_10 rfl (Nat.le_of_ble_eq_true rfl) (Nat.le_of_ble_eq_true rfl) (fun _ H => ⟨rfl, H⟩)
  · replace hf := ifn hc hf
    refine Go.ifT (pc2 := 11) d_k_diameter2_4 hc (by decide) (by decide) ?_
    refine Go.aloadN (pc2 := 12) d_k_diameter2_11 rfl rfl ?_
    refine Go.getf (pc2 := 15) d_k_diameter2_12 rfl rfl D_C (by exact w_56 hw) (q := 0) rfl (x := O0 0 5) (u := vJ (O0 0 5)) (fs_diam2) rfl rfl ?_
    cases hf
    exact Go.retj d_k_diameter2_15 rfl (Nat.le_of_ble_eq_true rfl) (Nat.le_of_ble_eq_true rfl) (fun _ H => ⟨rfl, H⟩)
set_option maxRecDepth 65536 in
set_option maxHeartbeats 4000000 in
theorem th_k_pointCount {l : Launch} {Z : State} {a0 : Array Value} (hw : ∀ d ∈ tables_1, d.before a0 Z = true) {n0 : Nat} {P : Heap → Prop} {b0 sz : Nat} {rr : Int} {O0 : Mo} (hf : k_pointCount O0 = rr) :
    Meth l Z D n0 P (⟨"CaliperHull", "pointCount", "()I"⟩ : MethodName) prog_1_method_5_code 1 (some .int) R_k_pointCount [vR b0] [(b0, 7, O0)] sz (QM Z D n0 P (some (vI rr)) [(b0, 7, O0)] sz) := by
  refine Meth.of (plainFor_of_name pn_cls) (Nat.le_of_ble_eq_true rfl) ?_
  show G_k_pointCount l Z n0 P 0 [some (vR b0)] [] [(b0, 7, O0)] sz 0 0 (QM Z D n0 P (some (vI rr)) [(b0, 7, O0)] sz)
  unfold k_pointCount at hf
  refine Go.aloadN (pc2 := 1) d_k_pointCount_0 rfl rfl ?_
  refine Go.getf (pc2 := 4) d_k_pointCount_1 rfl rfl D_C (by exact w_28 hw) (q := 0) rfl (x := O0 0 2) (u := vI (O0 0 2)) (fs_count) rfl rfl ?_
  cases hf
  exact Go.reti d_k_pointCount_4 rfl (Nat.le_of_ble_eq_true rfl) (Nat.le_of_ble_eq_true rfl) (fun _ H => ⟨rfl, H⟩)
set_option maxRecDepth 65536 in
set_option maxHeartbeats 4000000 in
theorem tj_u_law_252 {l : Launch} {Z : State} {a0 : Array Value} (hw : ∀ d ∈ tables_1, d.before a0 Z = true) {n0 : Nat} {P : Heap → Prop} (hst : ∀ b, n0 ≤ b → StB D b P) {F : Nat} {rr : Int} {O0 : Mo} {s0 s1 : Int} (hf : j_u_law_252 F O0 s0 s1 = some rr) :
    G_u_law l Z n0 P 252 [none, none, none, none, none, none, none, none, none, none, none, none, none, none, none, none, none] [vJ s0, vJ s1] [(n0, 7, O0)] ((n0 + 8)) 8 351 (QL rr) := by
  unfold j_u_law_252 at hf
  by_cases hc : s1 = s0
  · replace hf := ifp hc hf
    refine Go.lcmpF (pc3 := 253) (pc2 := 256) at_252 at_253 rfl (fun q => q hc) rfl ?_
    refine Go.iconst (pc2 := 257) at_256 rfl (by decide) ?_
    refine Go.goto (pc2 := 261) at_257 (by decide) (by decide) ?_
    cases hf
    exact Go.retz at_261 rfl rfl (Nat.le_of_ble_eq_true rfl) (Nat.le_of_ble_eq_true rfl) (fun _ _ => rfl)
  · replace hf := ifn hc hf
    refine Go.lcmpT (pc3 := 253) (pc2 := 260) at_252 at_253 rfl hc (by decide) (by decide) ?_
    refine Go.iconst (pc2 := 261) at_260 rfl (by decide) ?_
    cases hf
    exact Go.retz at_261 rfl rfl (Nat.le_of_ble_eq_true rfl) (Nat.le_of_ble_eq_true rfl) (fun _ _ => rfl)
set_option maxRecDepth 65536 in
set_option maxHeartbeats 4000000 in
theorem tj_u_law_233 {l : Launch} {Z : State} {a0 : Array Value} (hw : ∀ d ∈ tables_1, d.before a0 Z = true) {n0 : Nat} {P : Heap → Prop} (hst : ∀ b, n0 ≤ b → StB D b P) {F : Nat} {rr : Int} {O0 : Mo} {v6 v14 s0 s1 : Int} (hf : j_u_law_233 F O0 v6 v14 s0 s1 = some rr) :
    G_u_law l Z n0 P 233 [none, none, none, none, none, none, some (vI v6), none, none, none, none, none, none, none, some (vJ v14), none, none] [vI s0, vI s1] [(n0, 7, O0)] ((n0 + 8)) 8 351 (QL rr) := by
  unfold j_u_law_233 at hf
  by_cases hc : s1 = s0
  · replace hf := ifp hc hf
    refine Go.icmpT (pc2 := 238) at_233 hc (by decide) (by decide) ?_
    refine Go.lload (pc2 := 240) at_238 rfl rfl ?_
    refine Go.iload (pc2 := 242) at_240 rfl rfl ?_
    by_cases hc : v6 = 0
    · replace hf := ifp hc hf
      refine Go.ifT (pc2 := 251) at_242 hc (by decide) (by decide) ?_
      refine Go.lconst (pc2 := 252) (i := 0) at_251 rfl (by decide) ?_
      exact Go.mask [true, true, true, true, true, true, false, true, true, true, true, true, true, true, false, true, true] (tj_u_law_252 hw hst hf)
    · replace hf := ifn hc hf
      refine Go.ifF (pc2 := 245) at_242 hc rfl ?_
      refine Go.ldc2 (pc2 := 248) (i := (-1)) at_245 rfl xc (by exact w_117 hw) (by decide) ?_
      refine Go.goto (pc2 := 252) at_248 (by decide) (by decide) ?_
      exact Go.mask [true, true, true, true, true, true, false, true, true, true, true, true, true, true, false, true, true] (tj_u_law_252 hw hst hf)
  · replace hf := ifn hc hf
    refine Go.icmpF (pc2 := 236) at_233 hc rfl ?_
    refine Go.iconst (pc2 := 237) at_236 rfl (by decide) ?_
    cases hf
    exact Go.retz at_237 rfl rfl (Nat.le_of_ble_eq_true rfl) (Nat.le_of_ble_eq_true rfl) (fun _ _ => rfl)
set_option maxRecDepth 65536 in
set_option maxHeartbeats 4000000 in
theorem tj_u_law_202 {l : Launch} {Z : State} {a0 : Array Value} (hw : ∀ d ∈ tables_1, d.before a0 Z = true) {n0 : Nat} {P : Heap → Prop} (hst : ∀ b, n0 ≤ b → StB D b P) {F : Nat} {rr : Int} {O0 : Mo} {v6 v12 v13 v14 v16 s0 s1 : Int} (hf : j_u_law_202 F O0 v6 v12 v13 v14 v16 s0 s1 = some rr) :
    G_u_law l Z n0 P 202 [none, none, none, none, none, none, some (vI v6), none, none, none, none, none, some (vI v12), some (vI v13), some (vJ v14), none, some (vI v16)] [vI s0, vI s1] [(n0, 7, O0)] ((n0 + 8)) 8 351 (QL rr) := by
  unfold j_u_law_202 at hf
  by_cases hc : s1 = s0
  · replace hf := ifp hc hf
    refine Go.icmpT (pc2 := 207) at_202 hc (by decide) (by decide) ?_
    refine Go.iload (pc2 := 209) at_207 rfl rfl ?_
    refine Go.iload (pc2 := 211) at_209 rfl rfl ?_
    by_cases hc : v12 = v6
    · replace hf := ifp hc hf
      refine Go.icmpF (pc2 := 214) at_211 (fun q => q hc) rfl ?_
      refine Go.iload (pc2 := 216) at_214 rfl rfl ?_
      by_cases hc : v16 = 0
      · replace hf := ifp hc hf
        refine Go.ifT (pc2 := 221) at_216 hc (by decide) (by decide) ?_
        refine Go.iload (pc2 := 223) at_221 rfl rfl ?_
        refine Go.iload (pc2 := 225) at_223 rfl rfl ?_
        by_cases hc : v6 = 0
        · replace hf := ifp hc hf
          refine Go.ifT (pc2 := 232) at_225 hc (by decide) (by decide) ?_
          refine Go.iconst (pc2 := 233) at_232 rfl (by decide) ?_
          exact Go.mask [true, true, true, true, true, true, true, true, true, true, true, true, false, false, true, true, false] (tj_u_law_233 hw hst hf)
        · replace hf := ifn hc hf
          refine Go.ifF (pc2 := 228) at_225 hc rfl ?_
          refine Go.iconst (pc2 := 229) at_228 rfl (by decide) ?_
          refine Go.goto (pc2 := 233) at_229 (by decide) (by decide) ?_
          exact Go.mask [true, true, true, true, true, true, true, true, true, true, true, true, false, false, true, true, false] (tj_u_law_233 hw hst hf)
      · replace hf := ifn hc hf
        refine Go.ifF (pc2 := 219) at_216 hc rfl ?_
        refine Go.iconst (pc2 := 220) at_219 rfl (by decide) ?_
        cases hf
        exact Go.retz at_220 rfl rfl (Nat.le_of_ble_eq_true rfl) (Nat.le_of_ble_eq_true rfl) (fun _ _ => rfl)
    · replace hf := ifn hc hf
      refine Go.icmpT (pc2 := 219) at_211 hc (by decide) (by decide) ?_
      refine Go.iconst (pc2 := 220) at_219 rfl (by decide) ?_
      cases hf
      exact Go.retz at_220 rfl rfl (Nat.le_of_ble_eq_true rfl) (Nat.le_of_ble_eq_true rfl) (fun _ _ => rfl)
  · replace hf := ifn hc hf
    refine Go.icmpF (pc2 := 205) at_202 hc rfl ?_
    refine Go.iconst (pc2 := 206) at_205 rfl (by decide) ?_
    cases hf
    exact Go.retz at_206 rfl rfl (Nat.le_of_ble_eq_true rfl) (Nat.le_of_ble_eq_true rfl) (fun _ _ => rfl)
set_option maxRecDepth 65536 in
set_option maxHeartbeats 4000000 in
theorem tj_u_law_187 {l : Launch} {Z : State} {a0 : Array Value} (hw : ∀ d ∈ tables_1, d.before a0 Z = true) {n0 : Nat} {P : Heap → Prop} (hst : ∀ b, n0 ≤ b → StB D b P) {F : Nat} {rr : Int} {O0 : Mo} {v3 v6 v11 v12 v13 v14 v16 s0 s1 : Int} (hf : j_u_law_187 F O0 v3 v6 v11 v12 v13 v14 v16 s0 s1 = some rr) :
    G_u_law l Z n0 P 187 [none, none, none, some (vI v3), none, none, some (vI v6), none, none, none, none, some (vI v11), some (vI v12), some (vI v13), some (vJ v14), none, some (vI v16)] [vI s0, vI s1] [(n0, 7, O0)] ((n0 + 8)) 8 351 (QL rr) := by
  unfold j_u_law_187 at hf
  by_cases hc : s1 = s0
  · replace hf := ifp hc hf
    refine Go.icmpF (pc2 := 190) at_187 (fun q => q hc) rfl ?_
    refine Go.iload (pc2 := 192) at_190 rfl rfl ?_
    refine Go.iload (pc2 := 194) at_192 rfl rfl ?_
    by_cases hc : v6 = 0
    · replace hf := ifp hc hf
      refine Go.ifT (pc2 := 201) at_194 hc (by decide) (by decide) ?_
      refine Go.iconst (pc2 := 202) at_201 rfl (by decide) ?_
      exact Go.mask [true, true, true, false, true, true, true, true, true, true, true, false, true, true, true, true, true] (tj_u_law_202 hw hst hf)
    · replace hf := ifn hc hf
      refine Go.ifF (pc2 := 197) at_194 hc rfl ?_
      refine Go.iloadN (pc2 := 198) at_197 rfl rfl ?_
      refine Go.goto (pc2 := 202) at_198 (by decide) (by decide) ?_
      exact Go.mask [true, true, true, false, true, true, true, true, true, true, true, false, true, true, true, true, true] (tj_u_law_202 hw hst hf)
  · replace hf := ifn hc hf
    refine Go.icmpT (pc2 := 205) at_187 hc (by decide) (by decide) ?_
    refine Go.iconst (pc2 := 206) at_205 rfl (by decide) ?_
    cases hf
    exact Go.retz at_206 rfl rfl (Nat.le_of_ble_eq_true rfl) (Nat.le_of_ble_eq_true rfl) (fun _ _ => rfl)
set_option maxRecDepth 65536 in
set_option maxHeartbeats 4000000 in
theorem tj_u_law_163 {l : Launch} {Z : State} {a0 : Array Value} (hw : ∀ d ∈ tables_1, d.before a0 Z = true) {n0 : Nat} {P : Heap → Prop} (hst : ∀ b, n0 ≤ b → StB D b P) {F : Nat} {rr : Int} {O0 : Mo} {v2 v3 v6 v8 v9 v10 v11 v12 v13 v14 v16 s0 s1 : Int} (hf : j_u_law_163 F O0 v2 v3 v6 v8 v9 v10 v11 v12 v13 v14 v16 s0 s1 = some rr) :
    G_u_law l Z n0 P 163 [none, none, some (vI v2), some (vI v3), none, none, some (vI v6), none, some (vI v8), some (vI v9), some (vI v10), some (vI v11), some (vI v12), some (vI v13), some (vJ v14), none, some (vI v16)] [vI s0, vI s1] [(n0, 7, O0)] ((n0 + 8)) 8 351 (QL rr) := by
  unfold j_u_law_163 at hf
  by_cases hc : s1 = s0
  · replace hf := ifp hc hf
    refine Go.icmpF (pc2 := 166) at_163 (fun q => q hc) rfl ?_
    refine Go.iload (pc2 := 168) at_166 rfl rfl ?_
    refine Go.iload (pc2 := 170) at_168 rfl rfl ?_
    by_cases hc : v9 = v8
    · replace hf := ifp hc hf
      refine Go.icmpT (pc2 := 175) at_170 hc (by decide) (by decide) ?_
      refine Go.iload (pc2 := 177) at_175 rfl rfl ?_
      refine Go.iload (pc2 := 179) at_177 rfl rfl ?_
      by_cases hc : v6 = 0
      · replace hf := ifp hc hf
        refine Go.ifT (pc2 := 186) at_179 hc (by decide) (by decide) ?_
        refine Go.iconst (pc2 := 187) at_186 rfl (by decide) ?_
        exact Go.mask [true, true, false, true, true, true, true, true, false, false, false, true, true, true, true, true, true] (tj_u_law_187 hw hst hf)
      · replace hf := ifn hc hf
        refine Go.ifF (pc2 := 182) at_179 hc rfl ?_
        refine Go.iloadN (pc2 := 183) at_182 rfl rfl ?_
        refine Go.goto (pc2 := 187) at_183 (by decide) (by decide) ?_
        exact Go.mask [true, true, false, true, true, true, true, true, false, false, false, true, true, true, true, true, true] (tj_u_law_187 hw hst hf)
    · replace hf := ifn hc hf
      refine Go.icmpF (pc2 := 173) at_170 hc rfl ?_
      refine Go.iconst (pc2 := 174) at_173 rfl (by decide) ?_
      cases hf
      exact Go.retz at_174 rfl rfl (Nat.le_of_ble_eq_true rfl) (Nat.le_of_ble_eq_true rfl) (fun _ _ => rfl)
  · replace hf := ifn hc hf
    refine Go.icmpT (pc2 := 173) at_163 hc (by decide) (by decide) ?_
    refine Go.iconst (pc2 := 174) at_173 rfl (by decide) ?_
    cases hf
    exact Go.retz at_174 rfl rfl (Nat.le_of_ble_eq_true rfl) (Nat.le_of_ble_eq_true rfl) (fun _ _ => rfl)
set_option maxRecDepth 65536 in
set_option maxHeartbeats 4000000 in
theorem tj_u_law_146 {l : Launch} {Z : State} {a0 : Array Value} (hw : ∀ d ∈ tables_1, d.before a0 Z = true) {n0 : Nat} {P : Heap → Prop} (hst : ∀ b, n0 ≤ b → StB D b P) {F : Nat} {rr : Int} {O0 : Mo} {v2 v3 v6 v8 v9 v10 v11 v12 v13 v14 v16 s0 s1 : Int} (hf : j_u_law_146 F O0 v2 v3 v6 v8 v9 v10 v11 v12 v13 v14 v16 s0 s1 = some rr) :
    G_u_law l Z n0 P 146 [none, none, some (vI v2), some (vI v3), none, none, some (vI v6), none, some (vI v8), some (vI v9), some (vI v10), some (vI v11), some (vI v12), some (vI v13), some (vJ v14), none, some (vI v16)] [vI s0, vI s1] [(n0, 7, O0)] ((n0 + 8)) 8 351 (QL rr) := by
  unfold j_u_law_146 at hf
  by_cases hc : s1 = s0
  · replace hf := ifp hc hf
    refine Go.icmpT (pc2 := 151) at_146 hc (by decide) (by decide) ?_
    refine Go.iload (pc2 := 153) at_151 rfl rfl ?_
    refine Go.iload (pc2 := 155) at_153 rfl rfl ?_
    by_cases hc : v6 = 0
    · replace hf := ifp hc hf
      refine Go.ifT (pc2 := 162) at_155 hc (by decide) (by decide) ?_
      refine Go.iconst (pc2 := 163) at_162 rfl (by decide) ?_
      exact tj_u_law_163 hw hst hf
    · replace hf := ifn hc hf
      refine Go.ifF (pc2 := 158) at_155 hc rfl ?_
      refine Go.iconst (pc2 := 159) at_158 rfl (by decide) ?_
      refine Go.goto (pc2 := 163) at_159 (by decide) (by decide) ?_
      exact tj_u_law_163 hw hst hf
  · replace hf := ifn hc hf
    refine Go.icmpF (pc2 := 149) at_146 hc rfl ?_
    refine Go.iconst (pc2 := 150) at_149 rfl (by decide) ?_
    cases hf
    exact Go.retz at_150 rfl rfl (Nat.le_of_ble_eq_true rfl) (Nat.le_of_ble_eq_true rfl) (fun _ _ => rfl)
set_option maxRecDepth 65536 in
set_option maxHeartbeats 4000000 in
theorem tj_u_law_65 {l : Launch} {Z : State} {a0 : Array Value} (hw : ∀ d ∈ tables_1, d.before a0 Z = true) {n0 : Nat} {P : Heap → Prop} (hst : ∀ b, n0 ≤ b → StB D b P) {F : Nat} {rr : Int} {O0 : Mo} {v2 v3 s0 : Int} (hf : j_u_law_65 F O0 v2 v3 s0 = some rr) :
    G_u_law l Z n0 P 65 [none, none, some (vI v2), some (vI v3), some (vR n0), none, none, none, none, none, none, none, none, none, none, none, none] [vI s0] [(n0, 7, O0)] ((n0 + 8)) 8 351 (QL rr) := by
  unfold j_u_law_65 at hf
  refine Go.istore (pc2 := 67) (L2 := [none, none, some (vI v2), some (vI v3), some (vR n0), none, some (vI s0), none, none, none, none, none, none, none, none, none, none]) at_65 rfl (Nat.le_of_ble_eq_true rfl) rfl ?_
  refine Go.aload (pc2 := 69) at_67 rfl rfl ?_
  refine Go.iloadN (pc2 := 70) at_69 rfl rfl ?_
  refine Go.iloadN (pc2 := 71) at_70 rfl rfl ?_
  refine bind_in hf ?_
  clear hf
  intro r h_r hf
  refine Go.callv (pc2 := 74) (as := [vI v2, vI v3]) (S := []) (w := (some (vI r.1))) (os2 := [(n0, 7, r.2)]) (sz2 := (n0 + 8)) (S2 := [vI r.1]) (rm := R_k_addPoint) at_71 rfl xc (by exact w_32 hw) (by exact w_33 hw) D_C (by exact w_35 hw) (by exact w_34 hw) (by exact w_36 hw) rfl (by exact w_2 hw) (q := 0) rfl (by decide) pd_k_addPoint (by decide) (Nat.le_of_ble_eq_true rfl) (by decide) (by decide) (nc := 0) (ns := 0) rfl rfl rfl (cu2 := 8) rfl (su2 := 351) rfl rfl (Pays.one (q := 0) rfl rfl (fun P2 hP2 => th_k_addPoint hw h_r)) rfl ?_
  refine Go.istore (pc2 := 76) (L2 := [none, none, some (vI v2), some (vI v3), some (vR n0), none, some (vI s0), some (vI r.1), none, none, none, none, none, none, none, none, none]) at_74 rfl (Nat.le_of_ble_eq_true rfl) rfl ?_
  refine Go.aload (pc2 := 78) at_76 rfl rfl ?_
  refine bind_in hf ?_
  clear hf
  intro r_1 h_r_1 hf
  refine Go.callv (pc2 := 81) (as := []) (S := []) (w := (some (vI r_1.1))) (os2 := [(n0, 7, r_1.2)]) (sz2 := (n0 + 8)) (S2 := [vI r_1.1]) (rm := R_k_build) at_78 rfl xc (by exact w_41 hw) (by exact w_42 hw) D_C (by exact w_44 hw) (by exact w_43 hw) (by exact w_45 hw) rfl (by exact w_2 hw) (q := 0) rfl (by decide) pd_k_build (by decide) (Nat.le_of_ble_eq_true rfl) (by decide) (by decide) (nc := 0) (ns := 0) rfl rfl rfl (cu2 := 8) rfl (su2 := 351) rfl rfl (Pays.one (q := 0) rfl rfl (fun P2 hP2 => th_k_build hw h_r_1)) rfl ?_
  refine Go.istore (pc2 := 83) (L2 := [none, none, some (vI v2), some (vI v3), some (vR n0), none, some (vI s0), some (vI r.1), some (vI r_1.1), none, none, none, none, none, none, none, none]) at_81 rfl (Nat.le_of_ble_eq_true rfl) rfl ?_
  refine Go.aload (pc2 := 85) at_83 rfl rfl ?_
  refine Go.callv (pc2 := 88) (as := []) (S := []) (w := (some (vI (k_hullSize r_1.2)))) (os2 := [(n0, 7, r_1.2)]) (sz2 := (n0 + 8)) (S2 := [vI (k_hullSize r_1.2)]) (rm := R_k_hullSize) at_85 rfl xc (by exact w_86 hw) (by exact w_87 hw) D_C (by exact w_89 hw) (by exact w_88 hw) (by exact w_90 hw) rfl (by exact w_2 hw) (q := 0) rfl (by decide) pd_k_hullSize (by decide) (Nat.le_of_ble_eq_true rfl) (by decide) (by decide) (nc := 0) (ns := 0) rfl rfl rfl (cu2 := 8) rfl (su2 := 351) rfl rfl (Pays.one (q := 0) rfl rfl (fun P2 hP2 => th_k_hullSize hw rfl)) rfl ?_
  refine Go.istore (pc2 := 90) (L2 := [none, none, some (vI v2), some (vI v3), some (vR n0), none, some (vI s0), some (vI r.1), some (vI r_1.1), some (vI (k_hullSize r_1.2)), none, none, none, none, none, none, none]) at_88 rfl (Nat.le_of_ble_eq_true rfl) rfl ?_
  refine Go.aload (pc2 := 92) at_90 rfl rfl ?_
  refine Go.iconst (pc2 := 93) at_92 rfl (by decide) ?_
  refine bind_in hf ?_
  clear hf
  intro r_2 h_r_2 hf
  refine Go.callv (pc2 := 96) (as := [vI 0]) (S := []) (w := (some (vI r_2))) (os2 := [(n0, 7, r_1.2)]) (sz2 := (n0 + 8)) (S2 := [vI r_2]) (rm := R_k_hullX) at_93 rfl xc (by exact w_91 hw) (by exact w_92 hw) D_C (by exact w_94 hw) (by exact w_93 hw) (by exact w_95 hw) rfl (by exact w_2 hw) (q := 0) rfl (by decide) pd_k_hullX (by decide) (Nat.le_of_ble_eq_true rfl) (by decide) (by decide) (nc := 0) (ns := 0) rfl rfl rfl (cu2 := 8) rfl (su2 := 351) rfl rfl (Pays.one (q := 0) rfl rfl (fun P2 hP2 => th_k_hullX hw h_r_2)) rfl ?_
  refine Go.istore (pc2 := 98) (L2 := [none, none, some (vI v2), some (vI v3), some (vR n0), none, some (vI s0), some (vI r.1), some (vI r_1.1), some (vI (k_hullSize r_1.2)), some (vI r_2), none, none, none, none, none, none]) at_96 rfl (Nat.le_of_ble_eq_true rfl) rfl ?_
  refine Go.aload (pc2 := 100) at_98 rfl rfl ?_
  refine Go.iconst (pc2 := 101) at_100 rfl (by decide) ?_
  refine bind_in hf ?_
  clear hf
  intro r_3 h_r_3 hf
  refine Go.callv (pc2 := 104) (as := [vI 0]) (S := []) (w := (some (vI r_3))) (os2 := [(n0, 7, r_1.2)]) (sz2 := (n0 + 8)) (S2 := [vI r_3]) (rm := R_k_hullY) at_101 rfl xc (by exact w_96 hw) (by exact w_97 hw) D_C (by exact w_99 hw) (by exact w_98 hw) (by exact w_100 hw) rfl (by exact w_2 hw) (q := 0) rfl (by decide) pd_k_hullY (by decide) (Nat.le_of_ble_eq_true rfl) (by decide) (by decide) (nc := 0) (ns := 0) rfl rfl rfl (cu2 := 8) rfl (su2 := 351) rfl rfl (Pays.one (q := 0) rfl rfl (fun P2 hP2 => th_k_hullY hw h_r_3)) rfl ?_
  refine Go.istore (pc2 := 106) (L2 := [none, none, some (vI v2), some (vI v3), some (vR n0), none, some (vI s0), some (vI r.1), some (vI r_1.1), some (vI (k_hullSize r_1.2)), some (vI r_2), some (vI r_3), none, none, none, none, none]) at_104 rfl (Nat.le_of_ble_eq_true rfl) rfl ?_
  refine Go.aload (pc2 := 108) at_106 rfl rfl ?_
  refine bind_in hf ?_
  clear hf
  intro r_4 h_r_4 hf
  refine Go.callv (pc2 := 111) (as := []) (S := []) (w := (some (vI r_4.1))) (os2 := [(n0, 7, r_4.2)]) (sz2 := (n0 + 8)) (S2 := [vI r_4.1]) (rm := R_k_removeLast) at_108 rfl xc (by exact w_101 hw) (by exact w_102 hw) D_C (by exact w_104 hw) (by exact w_103 hw) (by exact w_105 hw) rfl (by exact w_2 hw) (q := 0) rfl (by decide) pd_k_removeLast (by decide) (Nat.le_of_ble_eq_true rfl) (by decide) (by decide) (nc := 0) (ns := 0) rfl rfl rfl (cu2 := 8) rfl (su2 := 351) rfl rfl (Pays.one (q := 0) rfl rfl (fun P2 hP2 => th_k_removeLast hw h_r_4)) rfl ?_
  refine Go.istore (pc2 := 113) (L2 := [none, none, some (vI v2), some (vI v3), some (vR n0), none, some (vI s0), some (vI r.1), some (vI r_1.1), some (vI (k_hullSize r_1.2)), some (vI r_2), some (vI r_3), some (vI r_4.1), none, none, none, none]) at_111 rfl (Nat.le_of_ble_eq_true rfl) rfl ?_
  refine Go.aload (pc2 := 115) at_113 rfl rfl ?_
  refine Go.callv (pc2 := 118) (as := []) (S := []) (w := (some (vI (k_hullSize r_4.2)))) (os2 := [(n0, 7, r_4.2)]) (sz2 := (n0 + 8)) (S2 := [vI (k_hullSize r_4.2)]) (rm := R_k_hullSize) at_115 rfl xc (by exact w_86 hw) (by exact w_87 hw) D_C (by exact w_89 hw) (by exact w_88 hw) (by exact w_90 hw) rfl (by exact w_2 hw) (q := 0) rfl (by decide) pd_k_hullSize (by decide) (Nat.le_of_ble_eq_true rfl) (by decide) (by decide) (nc := 0) (ns := 0) rfl rfl rfl (cu2 := 8) rfl (su2 := 351) rfl rfl (Pays.one (q := 0) rfl rfl (fun P2 hP2 => th_k_hullSize hw rfl)) rfl ?_
  refine Go.istore (pc2 := 120) (L2 := [none, none, some (vI v2), some (vI v3), some (vR n0), none, some (vI s0), some (vI r.1), some (vI r_1.1), some (vI (k_hullSize r_1.2)), some (vI r_2), some (vI r_3), some (vI r_4.1), some (vI (k_hullSize r_4.2)), none, none, none]) at_118 rfl (Nat.le_of_ble_eq_true rfl) rfl ?_
  refine Go.aload (pc2 := 122) at_120 rfl rfl ?_
  refine Go.callv (pc2 := 125) (as := []) (S := []) (w := (some (vJ (k_diameter2 r_4.2)))) (os2 := [(n0, 7, r_4.2)]) (sz2 := (n0 + 8)) (S2 := [vJ (k_diameter2 r_4.2)]) (rm := R_k_diameter2) at_122 rfl xc (by exact w_106 hw) (by exact w_107 hw) D_C (by exact w_109 hw) (by exact w_108 hw) (by exact w_110 hw) rfl (by exact w_2 hw) (q := 0) rfl (by decide) pd_k_diameter2 (by decide) (Nat.le_of_ble_eq_true rfl) (by decide) (by decide) (nc := 0) (ns := 0) rfl rfl rfl (cu2 := 8) rfl (su2 := 351) rfl rfl (Pays.one (q := 0) rfl rfl (fun P2 hP2 => th_k_diameter2 hw rfl)) rfl ?_
  refine Go.lstore (pc2 := 127) (L2 := [none, none, some (vI v2), some (vI v3), some (vR n0), none, some (vI s0), some (vI r.1), some (vI r_1.1), some (vI (k_hullSize r_1.2)), some (vI r_2), some (vI r_3), some (vI r_4.1), some (vI (k_hullSize r_4.2)), some (vJ (k_diameter2 r_4.2)), none, none]) at_125 rfl (Nat.le_of_ble_eq_true rfl) rfl ?_
  refine Go.aload (pc2 := 129) at_127 rfl rfl ?_
  refine Go.callv (pc2 := 132) (as := []) (S := []) (w := (some (vI (k_pointCount r_4.2)))) (os2 := [(n0, 7, r_4.2)]) (sz2 := (n0 + 8)) (S2 := [vI (k_pointCount r_4.2)]) (rm := R_k_pointCount) at_129 rfl xc (by exact w_112 hw) (by exact w_113 hw) D_C (by exact w_115 hw) (by exact w_114 hw) (by exact w_116 hw) rfl (by exact w_2 hw) (q := 0) rfl (by decide) pd_k_pointCount (by decide) (Nat.le_of_ble_eq_true rfl) (by decide) (by decide) (nc := 0) (ns := 0) rfl rfl rfl (cu2 := 8) rfl (su2 := 351) rfl rfl (Pays.one (q := 0) rfl rfl (fun P2 hP2 => th_k_pointCount hw rfl)) rfl ?_
  refine Go.istore (pc2 := 134) (L2 := [none, none, some (vI v2), some (vI v3), some (vR n0), none, some (vI s0), some (vI r.1), some (vI r_1.1), some (vI (k_hullSize r_1.2)), some (vI r_2), some (vI r_3), some (vI r_4.1), some (vI (k_hullSize r_4.2)), some (vJ (k_diameter2 r_4.2)), none, some (vI (k_pointCount r_4.2))]) at_132 rfl (Nat.le_of_ble_eq_true rfl) rfl ?_
  refine Go.iload (pc2 := 136) at_134 rfl rfl ?_
  refine Go.iload (pc2 := 138) at_136 rfl rfl ?_
  by_cases hc : s0 = 0
  · replace hf := ifp hc hf
    refine Go.ifT (pc2 := 145) at_138 hc (by decide) (by decide) ?_
    refine Go.iconst (pc2 := 146) at_145 rfl (by decide) ?_
    exact Go.mask [true, true, true, true, false, true, true, false, true, true, true, true, true, true, true, true, true] (tj_u_law_146 hw hst hf)
  · replace hf := ifn hc hf
    refine Go.ifF (pc2 := 141) at_138 hc rfl ?_
    refine Go.iconst (pc2 := 142) at_141 rfl (by decide) ?_
    refine Go.goto (pc2 := 146) at_142 (by decide) (by decide) ?_
    exact Go.mask [true, true, true, true, false, true, true, false, true, true, true, true, true, true, true, true, true] (tj_u_law_146 hw hst hf)
set_option maxRecDepth 65536 in
set_option maxHeartbeats 4000000 in
theorem tj_u_law_32 {l : Launch} {Z : State} {a0 : Array Value} (hw : ∀ d ∈ tables_1, d.before a0 Z = true) {n0 : Nat} {P : Heap → Prop} (hst : ∀ b, n0 ≤ b → StB D b P) {F : Nat} {rr : Int} {O0 : Mo} {v2 v3 s0 : Int} (hf : j_u_law_32 F O0 v2 v3 s0 = some rr) :
    G_u_law l Z n0 P 32 [none, none, some (vI v2), some (vI v3), some (vR n0), none, none, none, none, none, none, none, none, none, none, none, none] [vI s0] [(n0, 7, O0)] ((n0 + 8)) 8 351 (QL rr) := by
  unfold j_u_law_32 at hf
  refine Go.istore (pc2 := 34) (L2 := [none, none, some (vI v2), some (vI v3), some (vR n0), some (vI s0), none, none, none, none, none, none, none, none, none, none, none]) at_32 rfl (Nat.le_of_ble_eq_true rfl) rfl ?_
  refine Go.iloadN (pc2 := 35) at_34 rfl rfl ?_
  refine Go.iload (pc2 := 37) at_35 rfl rfl ?_
  refine Go.ineg (pc2 := 38) at_37 rfl ?_
  by_cases hc : v2 < w32 (-s0)
  · replace hf := ifp hc hf
    refine Go.icmpT (pc2 := 64) at_38 hc (by decide) (by decide) ?_
    refine Go.iconst (pc2 := 65) at_64 rfl (by decide) ?_
    exact Go.mask [true, true, true, true, true, false, true, true, true, true, true, true, true, true, true, true, true] (tj_u_law_65 hw hst hf)
  · replace hf := ifn hc hf
    refine Go.icmpF (pc2 := 41) at_38 hc rfl ?_
    refine Go.iloadN (pc2 := 42) at_41 rfl rfl ?_
    refine Go.iload (pc2 := 44) at_42 rfl rfl ?_
    by_cases hc : s0 < v2
    · replace hf := ifp hc hf
      refine Go.icmpT (pc2 := 64) at_44 hc (by decide) (by decide) ?_
      refine Go.iconst (pc2 := 65) at_64 rfl (by decide) ?_
      exact Go.mask [true, true, true, true, true, false, true, true, true, true, true, true, true, true, true, true, true] (tj_u_law_65 hw hst hf)
    · replace hf := ifn hc hf
      refine Go.icmpF (pc2 := 47) at_44 hc rfl ?_
      refine Go.iloadN (pc2 := 48) at_47 rfl rfl ?_
      refine Go.iload (pc2 := 50) at_48 rfl rfl ?_
      refine Go.ineg (pc2 := 51) at_50 rfl ?_
      by_cases hc : v3 < w32 (-s0)
      · replace hf := ifp hc hf
        refine Go.icmpT (pc2 := 64) at_51 hc (by decide) (by decide) ?_
        refine Go.iconst (pc2 := 65) at_64 rfl (by decide) ?_
        exact Go.mask [true, true, true, true, true, false, true, true, true, true, true, true, true, true, true, true, true] (tj_u_law_65 hw hst hf)
      · replace hf := ifn hc hf
        refine Go.icmpF (pc2 := 54) at_51 hc rfl ?_
        refine Go.iloadN (pc2 := 55) at_54 rfl rfl ?_
        refine Go.iload (pc2 := 57) at_55 rfl rfl ?_
        by_cases hc : s0 < v3
        · replace hf := ifp hc hf
          refine Go.icmpT (pc2 := 64) at_57 hc (by decide) (by decide) ?_
          refine Go.iconst (pc2 := 65) at_64 rfl (by decide) ?_
          exact Go.mask [true, true, true, true, true, false, true, true, true, true, true, true, true, true, true, true, true] (tj_u_law_65 hw hst hf)
        · replace hf := ifn hc hf
          refine Go.icmpF (pc2 := 60) at_57 hc rfl ?_
          refine Go.iconst (pc2 := 61) at_60 rfl (by decide) ?_
          refine Go.goto (pc2 := 65) at_61 (by decide) (by decide) ?_
          exact Go.mask [true, true, true, true, true, false, true, true, true, true, true, true, true, true, true, true, true] (tj_u_law_65 hw hst hf)
set_option maxRecDepth 65536 in
set_option maxHeartbeats 4000000 in
theorem th_u_law {l : Launch} {Z : State} {a0 : Array Value} (hw : ∀ d ∈ tables_1, d.before a0 Z = true) {n0 : Nat} {P : Heap → Prop} (hst : ∀ b, n0 ≤ b → StB D b P) {F : Nat} {rr : Int} {v0 v1 v2 v3 : Int} (hf : u_law F v0 v1 v2 v3 = some rr) :
    Meth l Z D n0 P x code maxLocals ret room_1 [vI v0, vI v1, vI v2, vI v3] [] n0 (QL rr) := by
  refine Meth.of (plainFor_of_name pn_law) (Nat.le_of_ble_eq_true rfl) ?_
  show G_u_law l Z n0 P 0 [some (vI v0), some (vI v1), some (vI v2), some (vI v3), none, none, none, none, none, none, none, none, none, none, none, none, none] [] [] n0 0 0 (QL rr)
  unfold u_law at hf
  refine Go.newo (pc2 := 3) (cw_ok hw) at_0 rfl xc D_C (by exact w_0 hw) (by exact w_1 hw) (by exact w_2 hw) (fun o h => nomatch h) hst (by decide) (by decide) (os2 := [(n0, 0, zM)]) rfl (sz2 := (n0 + 1)) rfl (cu2 := 1) rfl (su2 := 31) rfl ?_
  refine Go.dup (pc2 := 4) at_3 rfl rfl ?_
  refine Go.iloadN (pc2 := 5) at_4 rfl rfl ?_
  refine Go.iloadN (pc2 := 6) at_5 rfl rfl ?_
  refine bind_in hf ?_
  clear hf
  intro r h_r hf
  refine Go.callc (pc2 := 9) (as := [vI v0, vI v1]) (S := [vR n0]) (w := none) (os2 := [(n0, 7, r)]) (sz2 := (n0 + 8)) (S2 := [vR n0]) (rm := R_k_ctor) at_6 rfl rfl rfl xc (by exact w_3 hw) (by exact w_4 hw) (by exact w_5 hw) rfl (by exact w_2 hw) (by decide) pd_k_ctor (by decide) (Nat.le_of_ble_eq_true rfl) (by decide) (by decide) (nc := 7) (ns := 320) rfl rfl rfl (cu2 := 8) rfl (su2 := 351) rfl rfl (Pays.one (q := 0) rfl rfl (fun P2 hP2 => th_k_ctor hw h_r)) rfl ?_
  refine Go.astore (pc2 := 11) (L2 := [some (vI v0), some (vI v1), some (vI v2), some (vI v3), some (vR n0), none, none, none, none, none, none, none, none, none, none, none, none]) at_9 rfl (Nat.le_of_ble_eq_true rfl) rfl ?_
  refine Go.iloadN (pc2 := 12) at_11 rfl rfl ?_
  refine Go.iconst (pc2 := 13) at_12 rfl (by decide) ?_
  by_cases hc : v1 < 1
  · replace hf := ifp hc hf
    refine Go.icmpF (pc2 := 16) at_13 (Int.not_le.mpr hc) rfl ?_
    refine Go.iconst (pc2 := 17) at_16 rfl (by decide) ?_
    refine Go.goto (pc2 := 32) at_17 (by decide) (by decide) ?_
    exact Go.mask [false, false, true, true, true, true, true, true, true, true, true, true, true, true, true, true, true] (tj_u_law_32 hw hst hf)
  · replace hf := ifn hc hf
    refine Go.icmpT (pc2 := 20) at_13 (Int.not_lt.mp hc) (by decide) (by decide) ?_
    refine Go.iloadN (pc2 := 21) at_20 rfl rfl ?_
    refine Go.bipush (pc2 := 23) at_21 rfl (by decide) ?_
    by_cases hc : v1 ≤ 100
    · replace hf := ifp hc hf
      refine Go.icmpT (pc2 := 31) at_23 hc (by decide) (by decide) ?_
      refine Go.iloadN (pc2 := 32) at_31 rfl rfl ?_
      exact Go.mask [false, false, true, true, true, true, true, true, true, true, true, true, true, true, true, true, true] (tj_u_law_32 hw hst hf)
    · replace hf := ifn hc hf
      refine Go.icmpF (pc2 := 26) at_23 hc rfl ?_
      refine Go.bipush (pc2 := 28) at_26 rfl (by decide) ?_
      refine Go.goto (pc2 := 32) at_28 (by decide) (by decide) ?_
      exact Go.mask [false, false, true, true, true, true, true, true, true, true, true, true, true, true, true, true, true] (tj_u_law_32 hw hst hf)
set_option maxRecDepth 65536 in
set_option maxHeartbeats 4000000 in
theorem comes_1 {Post : Tables → Env → Array Value → State → Outcome → State → Prop} (hpost : ∀ tb e args s v u, (limb_1_1.after args s (.returned v) u = true ∧ limb_1_2.after args s (.returned v) u = true ∧ True) → FrameEnd s (.returned v) u (Jvm.fieldLocs frame_1_writes args s ++ Jvm.arrayLocs frame_1_arrays args s ++ Jvm.staticLocs frame_1_statics s) 24 768 → Post tb e args s (.returned v) u) :
    ArmFor flags0 classFile x code maxLocals ret World_1 tables_1 room_1 Calls_1 rest_1 Pre_1 Post := by
  intro l hfl _ _ p e ha hc hk s m args below hf hA hF happ hP
  obtain ⟨hcalls, hrest, hpre⟩ := hP
  obtain ⟨-, -, -, hnamed, -, -, -, hat⟩ := (Spec.applies_iff hf).mp happ
  obtain ⟨hg, hn⟩ := and_e (Cond.before_iff.mp (show (Jvm.Cond.and given_1 narrow_1).before args s = true from hpre))
  obtain ⟨g6, g7⟩ := and_e hg
  have hw := fun d (hd : d ∈ tables_1) => atoms_spec (ws := Jvm.Cond.code x code maxLocals ret :: tables_1) hat d (List.mem_cons_of_mem _ hd)
  obtain ⟨w0, w1, w2, w3, rfl⟩ : ∃ w0 w1 w2 w3 : Value, args = #[w0, w1, w2, w3] := by
    have hs : args.size = 4 := by simpa [Cond.value, given_1] using g6
    obtain ⟨L⟩ := args
    match L, hs with
    | [w0, w1, w2, w3], _ => exact ⟨w0, w1, w2, w3, rfl⟩
  obtain ⟨q0, g7'⟩ := and_e g7
  obtain ⟨i0, e0⟩ := is_v q0
  obtain rfl : w0 = (.int i0) := Option.some.inj e0
  obtain ⟨q1, g7'⟩ := and_e g7'
  obtain ⟨i1, e1⟩ := is_v q1
  obtain rfl : w1 = (.int i1) := Option.some.inj e1
  obtain ⟨q2, g7'⟩ := and_e g7'
  obtain ⟨i2, e2⟩ := is_v q2
  obtain rfl : w2 = (.int i2) := Option.some.inj e2
  obtain ⟨i3, e3⟩ := is_v g7'
  obtain rfl : w3 = (.int i3) := Option.some.inj e3
  have hlaw := u_law_ok (r32t i0) (r32t i1) (r32t i2) (r32t i3)
  have M := th_u_law (l := l) (Z := s) hw (n0 := s.heap.size) (P := fun _ => True) (fun _ _ _ _ _ _ _ _ _ _ _ => trivial) hlaw
  obtain ⟨n, o, h1, h2, h3, _, L, rfl, ⟨_, rfl, rfl, N, -⟩, hq⟩ := M ((okS_cons (r32t i0) (okS_cons (r32t i1) (okS_cons (r32t i2) (okS_cons (r32t i3) (fun u hu => nomatch hu)))))) s.heap ⟨rfl, Nat.le_refl _, fun q b k O e => by simp at e, fun q q2 b k O b2 k2 O2 e => by simp at e, fun _ _ _ _ => trivial, trivial⟩ tables_1 p e ha hc hk s m _ below hf ((Spec.applies_iff_loose hf).mp happ).1 ⟨by simp only [List.map_cons, List.map_nil, Jvm.Own.rv, of32], State.Warmed39.refl s, rfl⟩ trivial
  refine ⟨n, _, h1, h2, h3, hpost _ _ _ _ _ _ ⟨Cond.after_iff.mpr rfl, Cond.after_iff.mpr (eq_i res_at (Term.int_eval (1)) rfl), trivial⟩ ⟨hq.1, hq.2.1, (hq.2.2.sift fun y hy => Or.inr (N y hy)).mono (by decide) (by decide)⟩⟩
theorem main_1_1 : Claimed_1_1 := comes_1 fun _ _ _ _ _ _ h hF => ⟨h.1, hF⟩
theorem main_1_2 : Claimed_1_2 := comes_1 fun _ _ _ _ _ _ h hF => ⟨h.2.1, hF⟩

end Jvm.Pilot.@@N@@
namespace Jvm.Pilot.@@N@@
open Jvm Jvm.ClassFile Sem Op Lib Jvm.Free Jvm.Stand Jvm.Pilot.@@N@@.Jvm.D
/-! MADE BY PROGRAM (witnessworld.py) out of the Statement's table words and the real class files: 9 classes; the members and pool entries that the words name. The judged class is class 1, her method 1. -/
namespace start1
open Jvm.ClassFile
def u (s : String) : CpInfo := .utf8 (stringToUtf16 s)
/-- a pool by its gaps: so many unusable entries, then the entry; so many at the end -/
def gap : Nat → List CpInfo → List CpInfo
  | 0, r => r
  | n + 1, r => .unusable :: gap n r
def poolList (es : List (Nat × CpInfo)) (last : Nat) : List CpInfo := es.foldr (fun e r => gap e.1 (e.2 :: r)) (gap last [])
def pool (es : List (Nat × CpInfo)) (last : Nat) : Array CpInfo := ⟨poolList es last⟩
def fileOf (pool : Array CpInfo) (this : Nat) (attrs : Array Attribute := #[]) (ms : Array MethodInfo := #[]) (fl : Nat := 33) (sup : Nat := 0) (ifs : Array Nat := #[]) (fds : Array FieldInfo := #[]) : ClassFile where
  minorVersion := 0
  majorVersion := 65
  constantPool := pool
  accessFlags := fl
  thisClass := this
  superClass := sup
  interfaces := ifs
  fields := fds
  methods := ms
  attributes := attrs
def plain (name : String) (sup : Option ClassId) : Class where
  name := name
  kind := .ordinary
  loader := none
  accessFlags := 33
  super := sup
  interfaces := #[]
  cf := none
  fields := #[]
  methods := #[]
  instanceTypes := #[]
  staticTypes := #[]
  resolved := #[]
  callSites := []
  init := .initialized
  statics := none
  mirror := none

def pool0 : Array CpInfo := pool [(5, u "<init>"), (0, u "()V"), (1, .class_ 10), (1, u "java/lang/Object")] 113

def k0c0 : Code := { maxStack := 0, maxLocals := 1, code := object_method_1_code, exceptionTable := #[], attributes := #[] }
def k0m0 : Method := { name := "<init>", desc := "()V", sig := { parameters := [], returnType := none }, accessFlags := 1, code := some k0c0 }
/-- java/lang/Object -/
def k0 : Class := { plain "java/lang/Object" none with
  accessFlags := 33
  interfaces := #[]
  cf := some (fileOf pool0 8 #[] #[{ accessFlags := 1, nameIndex := 5, descriptorIndex := 6, attributes := #[] }] 33 0 #[] #[])
  fields := #[]
  methods := #[k0m0]
  instanceTypes := #[]
  staticTypes := #[]
  resolved := Array.replicate 124 none
  statics := none }

def pool1 : Array CpInfo := pool [(2, .class_ 4), (1, u "java/lang/Object"), (0, u "<init>"), (0, u "()V"), (0, .class_ 8), (0, u "CaliperHull"), (0, .methodref 7 10), (0, .nameAndType 5 11), (0, u "(II)V"), (0, .methodref 7 13), (0, .nameAndType 14 15), (0, u "addPoint"), (0, u "(II)I"), (0, .methodref 7 17), (0, .nameAndType 18 19), (0, u "build"), (0, u "()I"), (0, .methodref 7 21), (0, .nameAndType 22 19), (0, u "hullSize"), (0, .methodref 7 24), (0, .nameAndType 25 26), (0, u "hullX"), (0, u "(I)I"), (0, .methodref 7 28), (0, .nameAndType 29 26), (0, u "hullY"), (0, .methodref 7 31), (0, .nameAndType 32 33), (0, u "removeLast"), (0, u "()Z"), (0, .methodref 7 35), (0, .nameAndType 36 37), (0, u "diameter2"), (0, u "()J"), (0, .methodref 7 39), (0, .nameAndType 40 19), (0, u "pointCount"), (0, .long 18446744073709551615), (1, .class_ 44), (0, u "CaliperHullL2"), (2, u "law"), (0, u "(IIII)Z")] 3

def k1m0 : Method := { name := "<init>", desc := "()V", sig := { parameters := [], returnType := none }, accessFlags := 1, code := none }
def k1c1 : Code := { maxStack := 4, maxLocals := 17, code := code, exceptionTable := #[], attributes := #[] }
def k1m1 : Method := { name := "law", desc := "(IIII)Z", sig := { parameters := [.int, .int, .int, .int], returnType := some .boolean }, accessFlags := 9, code := some k1c1 }
/-- CaliperHullL2 -/
def k1 : Class := { plain "CaliperHullL2" (some 0) with
  accessFlags := 49
  interfaces := #[]
  cf := some (fileOf pool1 43 #[] #[{ accessFlags := 1, nameIndex := 5, descriptorIndex := 6, attributes := #[] }, { accessFlags := 9, nameIndex := 47, descriptorIndex := 48, attributes := #[] }] 49 2 #[] #[])
  fields := #[]
  methods := #[k1m0, k1m1]
  instanceTypes := #[]
  staticTypes := #[]
  resolved := Array.replicate 52 none
  statics := none }

def pool2 : Array CpInfo := pool [(1, .methodref 2 3), (0, .class_ 4), (0, .nameAndType 5 6), (0, u "java/lang/Object"), (0, u "<init>"), (0, u "()V"), (0, .fieldref 8 9), (0, .class_ 10), (0, .nameAndType 11 12), (0, u "CaliperHull"), (0, u "px"), (0, u "[I"), (0, .fieldref 8 14), (0, .nameAndType 15 12), (0, u "py"), (0, .fieldref 8 17), (0, .nameAndType 18 12), (0, u "hx"), (0, .fieldref 8 20), (0, .nameAndType 21 12), (0, u "hy"), (0, .fieldref 8 23), (0, .nameAndType 24 12), (0, u "work"), (0, .fieldref 8 26), (0, .nameAndType 27 12), (0, u "stx"), (0, .fieldref 8 29), (0, .nameAndType 30 12), (0, u "sty"), (0, .fieldref 8 32), (0, .nameAndType 33 34), (0, u "capacity"), (0, u "I"), (0, .fieldref 8 36), (0, .nameAndType 37 34), (0, u "range"), (0, .fieldref 8 39), (0, .nameAndType 40 34), (0, u "count"), (0, .fieldref 8 42), (0, .nameAndType 43 44), (0, u "built"), (0, u "Z"), (0, .methodref 8 46), (0, .nameAndType 47 48), (0, u "inRange"), (0, u "(II)Z"), (0, .methodref 8 50), (0, .nameAndType 51 52), (0, u "sortUnique"), (0, u "()I"), (0, .fieldref 8 54), (0, .nameAndType 55 34), (0, u "hullCount"), (4, .methodref 8 61), (0, .nameAndType 62 6), (0, u "computeDiameter"), (0, .methodref 8 64), (0, .nameAndType 65 6), (0, u "computeEdges"), (0, .long 18446744073709551615), (1, .fieldref 8 69), (0, .nameAndType 70 71), (0, u "diam2"), (0, u "J"), (0, .fieldref 8 73), (0, .nameAndType 74 34), (0, u "diamA"), (0, .fieldref 8 76), (0, .nameAndType 77 34), (0, u "diamB"), (0, .fieldref 8 79), (0, .nameAndType 80 71), (0, u "wNum"), (0, .fieldref 8 82), (0, .nameAndType 83 71), (0, u "wDen"), (0, .fieldref 8 85), (0, .nameAndType 86 34), (0, u "wEdge"), (0, .fieldref 8 88), (0, .nameAndType 89 34), (0, u "wFar"), (0, .fieldref 8 91), (0, .nameAndType 92 71), (0, u "bNum"), (0, .fieldref 8 94), (0, .nameAndType 95 71), (0, u "bDen"), (0, .fieldref 8 97), (0, .nameAndType 98 34), (0, u "bEdge"), (0, .fieldref 8 100), (0, .nameAndType 101 34), (0, u "bFar"), (0, .fieldref 8 103), (0, .nameAndType 104 34), (0, u "bLow"), (0, .fieldref 8 106), (0, .nameAndType 107 34), (0, u "bHigh"), (7, u "(II)I"), (6, u "(II)V"), (15, .fieldref 8 139), (0, .nameAndType 140 34), (0, u "eH"), (0, .fieldref 8 142), (0, .nameAndType 143 34), (0, u "eFar"), (0, .fieldref 8 145), (0, .nameAndType 146 34), (0, u "eHi"), (0, .fieldref 8 148), (0, .nameAndType 149 34), (0, u "eLo"), (0, .fieldref 8 151), (0, .nameAndType 152 34), (0, u "eLow"), (0, .fieldref 8 154), (0, .nameAndType 155 34), (0, u "eHigh"), (0, u "REFUSED_RANGE"), (2, u "REFUSED_FULL"), (1, u "NOT_BUILT"), (0, u "OUTSIDE"), (1, u "ON_BOUNDARY"), (1, u "INSIDE"), (1, u "Q_NUM"), (0, u "Q_DEN"), (0, u "Q_EDGE"), (0, u "Q_FAR"), (1, u "Q_LOW"), (1, u "Q_HIGH"), (4, u "addPoint"), (0, u "removeLast"), (0, u "()Z"), (1, u "pointCount"), (1, u "(I)I"), (1, u "build"), (0, u "hullSize"), (0, u "hullX"), (0, u "hullY"), (0, u "diameter2"), (0, u "()J")] 7

def k2c0 : Code := { maxStack := 2, maxLocals := 5, code := prog_1_method_1_code, exceptionTable := #[], attributes := #[] }
def k2m0 : Method := { name := "<init>", desc := "(II)V", sig := { parameters := [.int, .int], returnType := none }, accessFlags := 1, code := some k2c0 }
def k2c1 : Code := { maxStack := 3, maxLocals := 3, code := prog_1_method_2_code, exceptionTable := #[], attributes := #[] }
def k2m1 : Method := { name := "addPoint", desc := "(II)I", sig := { parameters := [.int, .int], returnType := some .int }, accessFlags := 1, code := some k2c1 }
def k2c2 : Code := { maxStack := 3, maxLocals := 1, code := prog_1_method_3_code, exceptionTable := #[], attributes := #[] }
def k2m2 : Method := { name := "removeLast", desc := "()Z", sig := { parameters := [], returnType := some .boolean }, accessFlags := 1, code := some k2c2 }
def k2c3 : Code := { maxStack := 1, maxLocals := 1, code := prog_1_method_5_code, exceptionTable := #[], attributes := #[] }
def k2m3 : Method := { name := "pointCount", desc := "()I", sig := { parameters := [], returnType := some .int }, accessFlags := 1, code := some k2c3 }
def k2c4 : Code := { maxStack := 4, maxLocals := 2, code := prog_1_method_8_code, exceptionTable := #[], attributes := #[] }
def k2m4 : Method := { name := "build", desc := "()I", sig := { parameters := [], returnType := some .int }, accessFlags := 1, code := some k2c4 }
def k2c5 : Code := { maxStack := 1, maxLocals := 1, code := prog_1_method_9_code, exceptionTable := #[], attributes := #[] }
def k2m5 : Method := { name := "hullSize", desc := "()I", sig := { parameters := [], returnType := some .int }, accessFlags := 1, code := some k2c5 }
def k2c6 : Code := { maxStack := 2, maxLocals := 2, code := prog_1_method_10_code, exceptionTable := #[], attributes := #[] }
def k2m6 : Method := { name := "hullX", desc := "(I)I", sig := { parameters := [.int], returnType := some .int }, accessFlags := 1, code := some k2c6 }
def k2c7 : Code := { maxStack := 2, maxLocals := 2, code := prog_1_method_11_code, exceptionTable := #[], attributes := #[] }
def k2m7 : Method := { name := "hullY", desc := "(I)I", sig := { parameters := [.int], returnType := some .int }, accessFlags := 1, code := some k2c7 }
def k2c8 : Code := { maxStack := 2, maxLocals := 1, code := prog_1_method_12_code, exceptionTable := #[], attributes := #[] }
def k2m8 : Method := { name := "diameter2", desc := "()J", sig := { parameters := [], returnType := some .long }, accessFlags := 1, code := some k2c8 }
def k2c9 : Code := { maxStack := 2, maxLocals := 3, code := prog_1_method_17_code, exceptionTable := #[], attributes := #[] }
def k2m9 : Method := { name := "inRange", desc := "(II)Z", sig := { parameters := [.int, .int], returnType := some .boolean }, accessFlags := 2, code := some k2c9 }
def k2c10 : Code := { maxStack := 5, maxLocals := 4, code := prog_1_method_18_code, exceptionTable := #[], attributes := #[] }
def k2m10 : Method := { name := "sortUnique", desc := "()I", sig := { parameters := [], returnType := some .int }, accessFlags := 2, code := some k2c10 }
def k2c11 : Code := { maxStack := 4, maxLocals := 6, code := prog_1_method_25_code, exceptionTable := #[], attributes := #[] }
def k2m11 : Method := { name := "computeDiameter", desc := "()V", sig := { parameters := [], returnType := none }, accessFlags := 2, code := some k2c11 }
def k2c12 : Code := { maxStack := 6, maxLocals := 10, code := prog_1_method_26_code, exceptionTable := #[], attributes := #[] }
def k2m12 : Method := { name := "computeEdges", desc := "()V", sig := { parameters := [], returnType := none }, accessFlags := 2, code := some k2c12 }
/-- CaliperHull -/
def k2 : Class := { plain "CaliperHull" (some 0) with
  accessFlags := 49
  interfaces := #[]
  cf := some (fileOf pool2 8 #[] #[{ accessFlags := 1, nameIndex := 5, descriptorIndex := 122, attributes := #[] }, { accessFlags := 1, nameIndex := 180, descriptorIndex := 115, attributes := #[] }, { accessFlags := 1, nameIndex := 181, descriptorIndex := 182, attributes := #[] }, { accessFlags := 1, nameIndex := 184, descriptorIndex := 52, attributes := #[] }, { accessFlags := 1, nameIndex := 188, descriptorIndex := 52, attributes := #[] }, { accessFlags := 1, nameIndex := 189, descriptorIndex := 52, attributes := #[] }, { accessFlags := 1, nameIndex := 190, descriptorIndex := 186, attributes := #[] }, { accessFlags := 1, nameIndex := 191, descriptorIndex := 186, attributes := #[] }, { accessFlags := 1, nameIndex := 192, descriptorIndex := 193, attributes := #[] }, { accessFlags := 2, nameIndex := 47, descriptorIndex := 48, attributes := #[] }, { accessFlags := 2, nameIndex := 51, descriptorIndex := 52, attributes := #[] }, { accessFlags := 2, nameIndex := 62, descriptorIndex := 6, attributes := #[] }, { accessFlags := 2, nameIndex := 65, descriptorIndex := 6, attributes := #[] }] 49 2 #[] #[{ accessFlags := 25, nameIndex := 156, descriptorIndex := 34, attributes := #[] }, { accessFlags := 25, nameIndex := 159, descriptorIndex := 34, attributes := #[] }, { accessFlags := 25, nameIndex := 161, descriptorIndex := 34, attributes := #[] }, { accessFlags := 25, nameIndex := 162, descriptorIndex := 34, attributes := #[] }, { accessFlags := 25, nameIndex := 164, descriptorIndex := 34, attributes := #[] }, { accessFlags := 25, nameIndex := 166, descriptorIndex := 34, attributes := #[] }, { accessFlags := 25, nameIndex := 168, descriptorIndex := 34, attributes := #[] }, { accessFlags := 25, nameIndex := 169, descriptorIndex := 34, attributes := #[] }, { accessFlags := 25, nameIndex := 170, descriptorIndex := 34, attributes := #[] }, { accessFlags := 25, nameIndex := 171, descriptorIndex := 34, attributes := #[] }, { accessFlags := 25, nameIndex := 173, descriptorIndex := 34, attributes := #[] }, { accessFlags := 25, nameIndex := 175, descriptorIndex := 34, attributes := #[] }, { accessFlags := 2, nameIndex := 33, descriptorIndex := 34, attributes := #[] }, { accessFlags := 2, nameIndex := 37, descriptorIndex := 34, attributes := #[] }, { accessFlags := 2, nameIndex := 40, descriptorIndex := 34, attributes := #[] }, { accessFlags := 2, nameIndex := 43, descriptorIndex := 44, attributes := #[] }, { accessFlags := 2, nameIndex := 11, descriptorIndex := 12, attributes := #[] }, { accessFlags := 2, nameIndex := 15, descriptorIndex := 12, attributes := #[] }, { accessFlags := 2, nameIndex := 18, descriptorIndex := 12, attributes := #[] }, { accessFlags := 2, nameIndex := 21, descriptorIndex := 12, attributes := #[] }, { accessFlags := 2, nameIndex := 24, descriptorIndex := 12, attributes := #[] }, { accessFlags := 2, nameIndex := 27, descriptorIndex := 12, attributes := #[] }, { accessFlags := 2, nameIndex := 30, descriptorIndex := 12, attributes := #[] }, { accessFlags := 2, nameIndex := 55, descriptorIndex := 34, attributes := #[] }, { accessFlags := 2, nameIndex := 70, descriptorIndex := 71, attributes := #[] }, { accessFlags := 2, nameIndex := 74, descriptorIndex := 34, attributes := #[] }, { accessFlags := 2, nameIndex := 77, descriptorIndex := 34, attributes := #[] }, { accessFlags := 2, nameIndex := 80, descriptorIndex := 71, attributes := #[] }, { accessFlags := 2, nameIndex := 83, descriptorIndex := 71, attributes := #[] }, { accessFlags := 2, nameIndex := 86, descriptorIndex := 34, attributes := #[] }, { accessFlags := 2, nameIndex := 89, descriptorIndex := 34, attributes := #[] }, { accessFlags := 2, nameIndex := 92, descriptorIndex := 71, attributes := #[] }, { accessFlags := 2, nameIndex := 95, descriptorIndex := 71, attributes := #[] }, { accessFlags := 2, nameIndex := 98, descriptorIndex := 34, attributes := #[] }, { accessFlags := 2, nameIndex := 101, descriptorIndex := 34, attributes := #[] }, { accessFlags := 2, nameIndex := 104, descriptorIndex := 34, attributes := #[] }, { accessFlags := 2, nameIndex := 107, descriptorIndex := 34, attributes := #[] }, { accessFlags := 2, nameIndex := 140, descriptorIndex := 34, attributes := #[] }, { accessFlags := 2, nameIndex := 143, descriptorIndex := 34, attributes := #[] }, { accessFlags := 2, nameIndex := 149, descriptorIndex := 34, attributes := #[] }, { accessFlags := 2, nameIndex := 152, descriptorIndex := 34, attributes := #[] }, { accessFlags := 2, nameIndex := 146, descriptorIndex := 34, attributes := #[] }, { accessFlags := 2, nameIndex := 155, descriptorIndex := 34, attributes := #[] }])
  fields := #[{ name := "REFUSED_RANGE", type := .int, accessFlags := 25, slot := 0, constantValue := 0 }, { name := "REFUSED_FULL", type := .int, accessFlags := 25, slot := 1, constantValue := 0 }, { name := "NOT_BUILT", type := .int, accessFlags := 25, slot := 2, constantValue := 0 }, { name := "OUTSIDE", type := .int, accessFlags := 25, slot := 3, constantValue := 0 }, { name := "ON_BOUNDARY", type := .int, accessFlags := 25, slot := 4, constantValue := 0 }, { name := "INSIDE", type := .int, accessFlags := 25, slot := 5, constantValue := 0 }, { name := "Q_NUM", type := .int, accessFlags := 25, slot := 6, constantValue := 0 }, { name := "Q_DEN", type := .int, accessFlags := 25, slot := 7, constantValue := 0 }, { name := "Q_EDGE", type := .int, accessFlags := 25, slot := 8, constantValue := 0 }, { name := "Q_FAR", type := .int, accessFlags := 25, slot := 9, constantValue := 0 }, { name := "Q_LOW", type := .int, accessFlags := 25, slot := 10, constantValue := 0 }, { name := "Q_HIGH", type := .int, accessFlags := 25, slot := 11, constantValue := 0 }, { name := "capacity", type := .int, accessFlags := 2, slot := 0, constantValue := 0 }, { name := "range", type := .int, accessFlags := 2, slot := 1, constantValue := 0 }, { name := "count", type := .int, accessFlags := 2, slot := 2, constantValue := 0 }, { name := "built", type := .boolean, accessFlags := 2, slot := 3, constantValue := 0 }, { name := "px", type := (.array .int), accessFlags := 2, slot := 4, constantValue := 0 }, { name := "py", type := (.array .int), accessFlags := 2, slot := 5, constantValue := 0 }, { name := "hx", type := (.array .int), accessFlags := 2, slot := 6, constantValue := 0 }, { name := "hy", type := (.array .int), accessFlags := 2, slot := 7, constantValue := 0 }, { name := "work", type := (.array .int), accessFlags := 2, slot := 8, constantValue := 0 }, { name := "stx", type := (.array .int), accessFlags := 2, slot := 9, constantValue := 0 }, { name := "sty", type := (.array .int), accessFlags := 2, slot := 10, constantValue := 0 }, { name := "hullCount", type := .int, accessFlags := 2, slot := 11, constantValue := 0 }, { name := "diam2", type := .long, accessFlags := 2, slot := 12, constantValue := 0 }, { name := "diamA", type := .int, accessFlags := 2, slot := 13, constantValue := 0 }, { name := "diamB", type := .int, accessFlags := 2, slot := 14, constantValue := 0 }, { name := "wNum", type := .long, accessFlags := 2, slot := 15, constantValue := 0 }, { name := "wDen", type := .long, accessFlags := 2, slot := 16, constantValue := 0 }, { name := "wEdge", type := .int, accessFlags := 2, slot := 17, constantValue := 0 }, { name := "wFar", type := .int, accessFlags := 2, slot := 18, constantValue := 0 }, { name := "bNum", type := .long, accessFlags := 2, slot := 19, constantValue := 0 }, { name := "bDen", type := .long, accessFlags := 2, slot := 20, constantValue := 0 }, { name := "bEdge", type := .int, accessFlags := 2, slot := 21, constantValue := 0 }, { name := "bFar", type := .int, accessFlags := 2, slot := 22, constantValue := 0 }, { name := "bLow", type := .int, accessFlags := 2, slot := 23, constantValue := 0 }, { name := "bHigh", type := .int, accessFlags := 2, slot := 24, constantValue := 0 }, { name := "eH", type := .int, accessFlags := 2, slot := 25, constantValue := 0 }, { name := "eFar", type := .int, accessFlags := 2, slot := 26, constantValue := 0 }, { name := "eLo", type := .int, accessFlags := 2, slot := 27, constantValue := 0 }, { name := "eLow", type := .int, accessFlags := 2, slot := 28, constantValue := 0 }, { name := "eHi", type := .int, accessFlags := 2, slot := 29, constantValue := 0 }, { name := "eHigh", type := .int, accessFlags := 2, slot := 30, constantValue := 0 }]
  methods := #[k2m0, k2m1, k2m2, k2m3, k2m4, k2m5, k2m6, k2m7, k2m8, k2m9, k2m10, k2m11, k2m12]
  instanceTypes := #[.int, .int, .int, .boolean, (.array .int), (.array .int), (.array .int), (.array .int), (.array .int), (.array .int), (.array .int), .int, .long, .int, .int, .long, .long, .int, .int, .long, .long, .int, .int, .int, .int, .int, .int, .int, .int, .int, .int]
  staticTypes := #[.int, .int, .int, .int, .int, .int, .int, .int, .int, .int, .int, .int]
  resolved := Array.replicate 201 none
  statics := none }

def pool3 : Array CpInfo := pool [(1, u "java/lang/Cloneable"), (0, .class_ 1), (0, u "java/lang/Object"), (0, .class_ 3)] 3

/-- java/lang/Cloneable -/
def k3 : Class := { plain "java/lang/Cloneable" (some 0) with
  accessFlags := 1537
  interfaces := #[]
  cf := some (fileOf pool3 2 #[] #[] 1537 4 #[] #[])
  fields := #[]
  methods := #[]
  instanceTypes := #[]
  staticTypes := #[]
  resolved := Array.replicate 8 none
  statics := none }

def pool4 : Array CpInfo := pool [(1, u "java/io/Serializable"), (0, .class_ 1), (0, u "java/lang/Object"), (0, .class_ 3)] 3

/-- java/io/Serializable -/
def k4 : Class := { plain "java/io/Serializable" (some 0) with
  accessFlags := 1537
  interfaces := #[]
  cf := some (fileOf pool4 2 #[] #[] 1537 4 #[] #[])
  fields := #[]
  methods := #[]
  instanceTypes := #[]
  staticTypes := #[]
  resolved := Array.replicate 8 none
  statics := none }

/-- the primitive byte -/
def k5 : Class := { plain "byte" none with kind := .primitive 'B', accessFlags := 0x411 }
/-- [B -/
def k6 : Class := { plain "[B" (some 0) with kind := .array 5 .byte, interfaces := #[3, 4], accessFlags := 1041 }

/-- the primitive int -/
def k7 : Class := { plain "int" none with kind := .primitive 'I', accessFlags := 0x411 }
/-- [I -/
def k8 : Class := { plain "[I" (some 0) with kind := .array 7 .int, interfaces := #[3, 4], accessFlags := 1041 }

def heap : Heap := #[]
def classes : Array Class := #[k0, k1, k2, k3, k4, k5, k6, k7, k8]
def interned : List (Array UInt16 × Addr) := []
def slotsUsed : Nat := 0
def theMethod : MethodId := ⟨1, 1⟩
def args0 : Array Value := #[.int 5, .int 5, .int 5, .int 5]
def aboutOver (below : List Frame) : State where
  vm := { classes := classes, interned := interned.toArray }
  heap := heap
  slotsUsed := slotsUsed
  threads := #[{ frames := .invoking theMethod args0 :: below }]
def below0 : List Frame := [.native { method := ⟨0, 0⟩, args := #[] }]
def about1 : State := aboutOver below0
def p0 : Program := .bare "" "" ""
def e0 : Env := launch0.env 0 0 0
theorem w_frames : about1.frames = Frame.invoking theMethod args0 :: below0 := rfl
set_option maxRecDepth 65536 in
theorem w_args : argsFit about1.vm theMethod args0 = true := by decide +kernel
set_option maxRecDepth 65536 in
theorem w_heap : heapFits about1 = true := by decide +kernel
set_option maxRecDepth 65536 in
theorem w_runnable : about1.curStatus? = some .runnable := by decide +kernel
set_option maxRecDepth 65536 in
theorem w_alone : about1.alone = true := by decide +kernel
set_option maxRecDepth 65536 in
theorem w_named : about1.methodNamed? x = some theMethod := by decide +kernel
set_option maxRecDepth 65536 in
theorem w_hears : about1.hears theMethod below0 = true := by decide +kernel
set_option maxRecDepth 65536 in
theorem w_ripe : about1.ripe theMethod args0 below0 = true := by decide +kernel
theorem w_running : about1.status = .running := rfl
set_option maxRecDepth 65536 in
theorem w_room : about1.hasRoom e0.platform room_1 = true :=
  launch0.hasRoom_least _ room_1 (by decide +kernel) (by decide +kernel) (by decide +kernel) (by decide +kernel) (by decide +kernel) (by decide +kernel)
theorem allAtoms_all (ts : List Jvm.Cond) (a : Array Jvm.Value) (st : Jvm.State) : (allAtoms ts).before a st = ts.all (fun c => c.before a st) := by
  induction ts with
  | nil => rfl
  | cons c t ih =>
    show (Jvm.Cond.and c (allAtoms t)).before a st = _
    rw [Jvm.Cond.before_and, ih, List.all_cons]
def words1 : List Jvm.Cond := Jvm.Cond.code x code maxLocals ret :: tables_1
/-- a 'code' word, met by the world's own term for the bytes: nothing is compared byte by byte -/
theorem code_word {y : MethodName} {bytes : ByteArray} {mx : Nat} {rt : Option FieldType} {a : Array Value} {s : State} {m : MethodId} {meth : Method} {c : Code} (h1 : s.methodNamed? y = some m) (h2 : s.vm.method? m = some meth) (h3 : meth.code = some c) (h4 : c.code = bytes)
    (h5 : (c.maxLocals == mx && c.exceptionTable.isEmpty && decide (c.maxStack ≤ mostOperands) && decide (meth.sig.returnType = rt) && !meth.locks && decide (parseMethodDescriptor y.desc = some meth.sig)) = true) : (Jvm.Cond.code y bytes mx rt).before a s = true := by
  simp only [Bool.and_eq_true, beq_iff_eq, Bool.not_eq_true', decide_eq_true_eq] at h5
  obtain ⟨⟨⟨⟨⟨g1, g2⟩, g3⟩, g4⟩, g5⟩, g6⟩ := h5
  simp [Cond.before, Cond.holds, Cond.value, h1, h2, h3, h4, g1, g2, g3, g4, g5, g6]
def isCode : Jvm.Cond → Bool
  | .code _ _ _ _ => true
  | _ => false
theorem all_split {L : List Jvm.Cond} {P : Jvm.Cond → Bool} (h1 : L.all (fun c => isCode c || P c) = true) (h2 : ∀ c ∈ L.filter isCode, P c = true) : L.all P = true := by
  refine List.all_eq_true.mpr fun c hc => ?_
  have h := List.all_eq_true.mp h1 c hc
  rcases Bool.eq_false_or_eq_true (isCode c) with hi | hi
  · exact h2 c (List.mem_filter.mpr ⟨hc, hi⟩)
  · simpa [hi] using h
set_option maxRecDepth 65536 in
theorem w_c0 : (Jvm.Cond.code x code maxLocals ret).before args0 about1 = true := code_word (m := ⟨1, 1⟩) (meth := k1m1) (c := k1c1) (by decide +kernel) rfl rfl rfl (by decide +kernel)
set_option maxRecDepth 65536 in
theorem w_c1 : (Jvm.Cond.code ({ cls := "CaliperHull", name := "<init>", desc := "(II)V" } : Jvm.MethodName) prog_1_method_1_code (5 : Nat) (Option.none : Option Jvm.ClassFile.FieldType)).before args0 about1 = true := code_word (m := ⟨2, 0⟩) (meth := k2m0) (c := k2c0) (by decide +kernel) rfl rfl rfl (by decide +kernel)
set_option maxRecDepth 65536 in
theorem w_c2 : (Jvm.Cond.code ({ cls := "java/lang/Object", name := "<init>", desc := "()V" } : Jvm.MethodName) object_method_1_code (1 : Nat) (Option.none : Option Jvm.ClassFile.FieldType)).before args0 about1 = true := code_word (m := ⟨0, 0⟩) (meth := k0m0) (c := k0c0) (by decide +kernel) rfl rfl rfl (by decide +kernel)
set_option maxRecDepth 65536 in
theorem w_c3 : (Jvm.Cond.code ({ cls := "CaliperHull", name := "addPoint", desc := "(II)I" } : Jvm.MethodName) prog_1_method_2_code (3 : Nat) (Option.some Jvm.ClassFile.FieldType.int)).before args0 about1 = true := code_word (m := ⟨2, 1⟩) (meth := k2m1) (c := k2c1) (by decide +kernel) rfl rfl rfl (by decide +kernel)
set_option maxRecDepth 65536 in
theorem w_c4 : (Jvm.Cond.code ({ cls := "CaliperHull", name := "inRange", desc := "(II)Z" } : Jvm.MethodName) prog_1_method_17_code (3 : Nat) (Option.some Jvm.ClassFile.FieldType.boolean)).before args0 about1 = true := code_word (m := ⟨2, 9⟩) (meth := k2m9) (c := k2c9) (by decide +kernel) rfl rfl rfl (by decide +kernel)
set_option maxRecDepth 65536 in
theorem w_c5 : (Jvm.Cond.code ({ cls := "CaliperHull", name := "build", desc := "()I" } : Jvm.MethodName) prog_1_method_8_code (2 : Nat) (Option.some Jvm.ClassFile.FieldType.int)).before args0 about1 = true := code_word (m := ⟨2, 4⟩) (meth := k2m4) (c := k2c4) (by decide +kernel) rfl rfl rfl (by decide +kernel)
set_option maxRecDepth 65536 in
theorem w_c6 : (Jvm.Cond.code ({ cls := "CaliperHull", name := "sortUnique", desc := "()I" } : Jvm.MethodName) prog_1_method_18_code (4 : Nat) (Option.some Jvm.ClassFile.FieldType.int)).before args0 about1 = true := code_word (m := ⟨2, 10⟩) (meth := k2m10) (c := k2c10) (by decide +kernel) rfl rfl rfl (by decide +kernel)
set_option maxRecDepth 65536 in
theorem w_c7 : (Jvm.Cond.code ({ cls := "CaliperHull", name := "computeDiameter", desc := "()V" } : Jvm.MethodName) prog_1_method_25_code (6 : Nat) (Option.none : Option Jvm.ClassFile.FieldType)).before args0 about1 = true := code_word (m := ⟨2, 11⟩) (meth := k2m11) (c := k2c11) (by decide +kernel) rfl rfl rfl (by decide +kernel)
set_option maxRecDepth 65536 in
theorem w_c8 : (Jvm.Cond.code ({ cls := "CaliperHull", name := "computeEdges", desc := "()V" } : Jvm.MethodName) prog_1_method_26_code (10 : Nat) (Option.none : Option Jvm.ClassFile.FieldType)).before args0 about1 = true := code_word (m := ⟨2, 12⟩) (meth := k2m12) (c := k2c12) (by decide +kernel) rfl rfl rfl (by decide +kernel)
set_option maxRecDepth 65536 in
theorem w_c9 : (Jvm.Cond.code ({ cls := "CaliperHull", name := "hullSize", desc := "()I" } : Jvm.MethodName) prog_1_method_9_code (1 : Nat) (Option.some Jvm.ClassFile.FieldType.int)).before args0 about1 = true := code_word (m := ⟨2, 5⟩) (meth := k2m5) (c := k2c5) (by decide +kernel) rfl rfl rfl (by decide +kernel)
set_option maxRecDepth 65536 in
theorem w_c10 : (Jvm.Cond.code ({ cls := "CaliperHull", name := "hullX", desc := "(I)I" } : Jvm.MethodName) prog_1_method_10_code (2 : Nat) (Option.some Jvm.ClassFile.FieldType.int)).before args0 about1 = true := code_word (m := ⟨2, 6⟩) (meth := k2m6) (c := k2c6) (by decide +kernel) rfl rfl rfl (by decide +kernel)
set_option maxRecDepth 65536 in
theorem w_c11 : (Jvm.Cond.code ({ cls := "CaliperHull", name := "hullY", desc := "(I)I" } : Jvm.MethodName) prog_1_method_11_code (2 : Nat) (Option.some Jvm.ClassFile.FieldType.int)).before args0 about1 = true := code_word (m := ⟨2, 7⟩) (meth := k2m7) (c := k2c7) (by decide +kernel) rfl rfl rfl (by decide +kernel)
set_option maxRecDepth 65536 in
theorem w_c12 : (Jvm.Cond.code ({ cls := "CaliperHull", name := "removeLast", desc := "()Z" } : Jvm.MethodName) prog_1_method_3_code (1 : Nat) (Option.some Jvm.ClassFile.FieldType.boolean)).before args0 about1 = true := code_word (m := ⟨2, 2⟩) (meth := k2m2) (c := k2c2) (by decide +kernel) rfl rfl rfl (by decide +kernel)
set_option maxRecDepth 65536 in
theorem w_c13 : (Jvm.Cond.code ({ cls := "CaliperHull", name := "diameter2", desc := "()J" } : Jvm.MethodName) prog_1_method_12_code (1 : Nat) (Option.some Jvm.ClassFile.FieldType.long)).before args0 about1 = true := code_word (m := ⟨2, 8⟩) (meth := k2m8) (c := k2c8) (by decide +kernel) rfl rfl rfl (by decide +kernel)
set_option maxRecDepth 65536 in
theorem w_c14 : (Jvm.Cond.code ({ cls := "CaliperHull", name := "pointCount", desc := "()I" } : Jvm.MethodName) prog_1_method_5_code (1 : Nat) (Option.some Jvm.ClassFile.FieldType.int)).before args0 about1 = true := code_word (m := ⟨2, 3⟩) (meth := k2m3) (c := k2c3) (by decide +kernel) rfl rfl rfl (by decide +kernel)
def codes1 : List Jvm.Cond := [Jvm.Cond.code x code maxLocals ret, Jvm.Cond.code ({ cls := "CaliperHull", name := "<init>", desc := "(II)V" } : Jvm.MethodName) prog_1_method_1_code (5 : Nat) (Option.none : Option Jvm.ClassFile.FieldType), Jvm.Cond.code ({ cls := "java/lang/Object", name := "<init>", desc := "()V" } : Jvm.MethodName) object_method_1_code (1 : Nat) (Option.none : Option Jvm.ClassFile.FieldType), Jvm.Cond.code ({ cls := "CaliperHull", name := "addPoint", desc := "(II)I" } : Jvm.MethodName) prog_1_method_2_code (3 : Nat) (Option.some Jvm.ClassFile.FieldType.int), Jvm.Cond.code ({ cls := "CaliperHull", name := "inRange", desc := "(II)Z" } : Jvm.MethodName) prog_1_method_17_code (3 : Nat) (Option.some Jvm.ClassFile.FieldType.boolean), Jvm.Cond.code ({ cls := "CaliperHull", name := "build", desc := "()I" } : Jvm.MethodName) prog_1_method_8_code (2 : Nat) (Option.some Jvm.ClassFile.FieldType.int), Jvm.Cond.code ({ cls := "CaliperHull", name := "sortUnique", desc := "()I" } : Jvm.MethodName) prog_1_method_18_code (4 : Nat) (Option.some Jvm.ClassFile.FieldType.int), Jvm.Cond.code ({ cls := "CaliperHull", name := "computeDiameter", desc := "()V" } : Jvm.MethodName) prog_1_method_25_code (6 : Nat) (Option.none : Option Jvm.ClassFile.FieldType), Jvm.Cond.code ({ cls := "CaliperHull", name := "computeEdges", desc := "()V" } : Jvm.MethodName) prog_1_method_26_code (10 : Nat) (Option.none : Option Jvm.ClassFile.FieldType), Jvm.Cond.code ({ cls := "CaliperHull", name := "hullSize", desc := "()I" } : Jvm.MethodName) prog_1_method_9_code (1 : Nat) (Option.some Jvm.ClassFile.FieldType.int), Jvm.Cond.code ({ cls := "CaliperHull", name := "hullX", desc := "(I)I" } : Jvm.MethodName) prog_1_method_10_code (2 : Nat) (Option.some Jvm.ClassFile.FieldType.int), Jvm.Cond.code ({ cls := "CaliperHull", name := "hullY", desc := "(I)I" } : Jvm.MethodName) prog_1_method_11_code (2 : Nat) (Option.some Jvm.ClassFile.FieldType.int), Jvm.Cond.code ({ cls := "CaliperHull", name := "removeLast", desc := "()Z" } : Jvm.MethodName) prog_1_method_3_code (1 : Nat) (Option.some Jvm.ClassFile.FieldType.boolean), Jvm.Cond.code ({ cls := "CaliperHull", name := "diameter2", desc := "()J" } : Jvm.MethodName) prog_1_method_12_code (1 : Nat) (Option.some Jvm.ClassFile.FieldType.long), Jvm.Cond.code ({ cls := "CaliperHull", name := "pointCount", desc := "()I" } : Jvm.MethodName) prog_1_method_5_code (1 : Nat) (Option.some Jvm.ClassFile.FieldType.int)]
set_option maxRecDepth 65536 in
theorem codes_eq : words1.filter isCode = codes1 := rfl
theorem w_codes : ∀ c ∈ words1.filter isCode, c.before args0 about1 = true := by
  rw [codes_eq]
  intro c hc
  simp only [codes1, List.mem_cons, List.not_mem_nil, or_false] at hc
  rcases hc with rfl | rfl | rfl | rfl | rfl | rfl | rfl | rfl | rfl | rfl | rfl | rfl | rfl | rfl | rfl
  · exact w_c0
  · exact w_c1
  · exact w_c2
  · exact w_c3
  · exact w_c4
  · exact w_c5
  · exact w_c6
  · exact w_c7
  · exact w_c8
  · exact w_c9
  · exact w_c10
  · exact w_c11
  · exact w_c12
  · exact w_c13
  · exact w_c14
set_option maxRecDepth 65536 in
theorem w_t1 : (words1.take 24).all (fun c => isCode c || c.before args0 about1) = true := by decide +kernel
set_option maxRecDepth 65536 in
theorem w_t2 : ((words1.drop 24).take 24).all (fun c => isCode c || c.before args0 about1) = true := by decide +kernel
set_option maxRecDepth 65536 in
theorem w_t3 : (((words1.drop 24).drop 24).take 24).all (fun c => isCode c || c.before args0 about1) = true := by decide +kernel
set_option maxRecDepth 65536 in
theorem w_t4 : ((((words1.drop 24).drop 24).drop 24).take 24).all (fun c => isCode c || c.before args0 about1) = true := by decide +kernel
set_option maxRecDepth 65536 in
theorem w_t5 : (((((words1.drop 24).drop 24).drop 24).drop 24).take 24).all (fun c => isCode c || c.before args0 about1) = true := by decide +kernel
set_option maxRecDepth 65536 in
theorem w_t6 : (((((words1.drop 24).drop 24).drop 24).drop 24).drop 24).all (fun c => isCode c || c.before args0 about1) = true := by decide +kernel
theorem w_tables : (allAtoms (Jvm.Cond.code x code maxLocals ret :: tables_1)).before args0 about1 = true := by
  rw [allAtoms_all]
  show words1.all (fun c => c.before args0 about1) = true
  refine all_split ?_ w_codes
  rw [← List.take_append_drop 24 words1, List.all_append, w_t1, ← List.take_append_drop 24 (words1.drop 24), List.all_append, w_t2, ← List.take_append_drop 24 ((words1.drop 24).drop 24), List.all_append, w_t3, ← List.take_append_drop 24 (((words1.drop 24).drop 24).drop 24), List.all_append, w_t4, ← List.take_append_drop 24 ((((words1.drop 24).drop 24).drop 24).drop 24), List.all_append, w_t5, w_t6]
  rfl
set_option maxRecDepth 65536 in
theorem w_case : (Jvm.Cond.and given_1 narrow_1).before args0 about1 = true := by decide +kernel
theorem w_applies : (headSpec (Jvm.Cond.code x code maxLocals ret :: tables_1) room_1).applies x e0.platform about1 = true :=
  (Spec.applies_iff w_frames).mpr ⟨w_running, w_runnable, w_alone, w_named, w_hears, w_ripe, w_room, w_tables⟩
theorem atStart : AtStart classFile x code maxLocals ret World_1 tables_1 room_1 Calls_1 rest_1 Pre_1 launch0 p0 e0 about1 theMethod args0 below0 :=
  ⟨lists_1, trivial, launch0.admits_env _ _ _, launch0.least_env, fairChoices_fair.cas, fairChoices_fair.clock, w_frames, w_args, w_heap, w_applies, trivial, trivial, w_case⟩
end start1
theorem witness_1 : WitnessClaimed_1 := ⟨start1.p0, start1.e0, start1.about1, start1.theMethod, start1.args0, start1.below0, start1.atStart⟩
end Jvm.Pilot.@@N@@
