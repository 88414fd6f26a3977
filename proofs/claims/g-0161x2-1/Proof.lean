import JvmDerived
import JvmDerived.Pilot.@@N@@Statement
import JvmDerived.Pilot.@@N@@Code
set_option linter.unusedVariables false
set_option linter.unusedSimpArgs false
namespace Jvm.RoadKit
open Sem ClassFile Op Lib Jvm.Stand Jvm.Free Jvm.LawKit
section New
variable {p : Program} {l : Launch} {e : Env} {R : Room} {s : State} {m : MethodId} {args : Array Value} {below : List Frame} {meth : Method} {c : Code} {T : State} {locs : List Loc} {cells slots : Nat}
theorem retI (X : Stand p l e R s m args below meth c T locs cells slots) (hx : p.tables.exec = Jvm.exec) {pc : Nat} {Ls : Array Slot} {z : Int32} {rest : List Value} (hret : meth.sig.returnType = some .int) (hd : decode c.code pc = .ok (.ireturn, 1)) {fs : List Frame}
    (hl : ∀ (f : JFrame) (acts : List Action), f.method = m → f.locked = none → f.entered = [] → (doReturn e (T.setTop f) acts (some (.int z))).1 = T.setFrames fs) : Steps p.tables e below (T.setTop (mkF m pc Ls (.int z :: rest))) (T.setFrames fs) := by
  have hm' : T.vm.method? m = some meth := X.method'
  have hn : narrow .int (.int z) = .int z := rfl
  show Steps p.tables e below (T.setTop { method := m, pc := pc, locals := Ls, stack := _ :: rest, locked := none }) _
  jvm_step X.here [X.here.top, hx, hd, hm', hret, hn]
  first | (intro acts; rw [hl _ acts rfl rfl rfl]) | rw [hl _ _ rfl rfl rfl]
  exact Steps.refl _
end New
end Jvm.RoadKit
namespace Jvm.Own
abbrev R32 (x : Int) : Prop := -2147483648 ≤ x ∧ x < 2147483648
abbrev R64 (x : Int) : Prop := -9223372036854775808 ≤ x ∧ x < 9223372036854775808
def w32 (x : Int) : Int := Int.bmod x 4294967296
def w64 (x : Int) : Int := Int.bmod x 18446744073709551616
def w8 (x : Int) : Int := Int.bmod x 256
def and32 (x y : Int) : Int := (Int32.ofInt x &&& Int32.ofInt y).toInt
def or32 (x y : Int) : Int := (Int32.ofInt x ||| Int32.ofInt y).toInt
def xor32 (x y : Int) : Int := (Int32.ofInt x ^^^ Int32.ofInt y).toInt
def and64 (x y : Int) : Int := (Int64.ofInt x &&& Int64.ofInt y).toInt
def or64 (x y : Int) : Int := (Int64.ofInt x ||| Int64.ofInt y).toInt
def xor64 (x y : Int) : Int := (Int64.ofInt x ^^^ Int64.ofInt y).toInt
def shl32 (x y : Int) : Int := (Int32.ofInt x <<< (Int32.ofInt y &&& 31)).toInt
def shr32 (x y : Int) : Int := (Int32.ofInt x >>> (Int32.ofInt y &&& 31)).toInt
def ushr32 (x y : Int) : Int := (((Int32.ofInt x).toUInt32 >>> (Int32.ofInt y &&& 31).toUInt32).toInt32).toInt
def shl64 (x y : Int) : Int := (Int64.ofInt x <<< ((Int32.ofInt y).toInt64 &&& 63)).toInt
def shr64 (x y : Int) : Int := (Int64.ofInt x >>> ((Int32.ofInt y).toInt64 &&& 63)).toInt
def ushr64 (x y : Int) : Int := (((Int64.ofInt x).toUInt64 >>> ((Int32.ofInt y).toInt64.toUInt64 &&& Int64.toUInt64 63)).toInt64).toInt
abbrev Mo := Nat → Nat → Int
def zM : Mo := fun _ _ => 0
def upd (O : Mo) (j i : Nat) (x : Int) : Mo := fun j' i' => if j' = j ∧ i' = i then x else O j' i'
theorem upd_same (O : Mo) (j i : Nat) (x : Int) : upd O j i x j i = x := by simp [upd]
theorem upd_ne {O : Mo} {j i j' i' : Nat} {x : Int} (h : ¬ (j' = j ∧ i' = i)) : upd O j i x j' i' = O j' i' := by simp only [upd]; rw [if_neg h]
def lt {α : Type} (e : Int) (K : Int → α) : α := K e
def loop {σ ρ : Type} (body : σ → Option (σ ⊕ ρ)) : Nat → σ → Option ρ
  | 0, _ => none
  | n + 1, s => (body s).bind (Sum.elim (loop body n) some)
theorem lt_in {α : Type} {e : Int} {K : Int → α} {r : α} {G : Int → Prop} (hf : lt e K = r) (h : ∀ x, K x = r → G x) : G e := h e hf
theorem bind_in {α β : Type} {x : Option α} {k : α → Option β} {r : β} {Q : Prop} (hf : x.bind k = some r) (h : ∀ a, x = some a → k a = some r → Q) : Q := by
  cases x with
  | none => cases hf
  | some a => exact h a rfl hf
theorem loop_ind {σ ρ : Type} {body : σ → Option (σ ⊕ ρ)} {Gs : σ → Prop} {Gr : ρ → Prop} (hb : ∀ s x, body s = some x → Sum.elim Gs Gr x → Gs s) : ∀ n s r, loop body n s = some r → Gr r → Gs s
  | 0, s, r, h, _ => by cases h
  | n + 1, s, r, h, k => by
    unfold loop at h
    cases hx : body s with
    | none => rw [hx] at h; cases h
    | some x =>
      rw [hx] at h
      cases x with
      | inl s' => exact hb s _ hx (loop_ind hb n s' r h k)
      | inr r' =>
        have h' : some r' = some r := h
        cases h'
        exact hb s _ hx k
theorem loop_go {σ ρ β : Type} {body : σ → Option (σ ⊕ ρ)} {n : Nat} {s0 : σ} {k : ρ → Option β} {res : β} {Gs : σ → Prop} {Gr : ρ → Prop} (hf : (loop body n s0).bind k = some res)
    (hb : ∀ s x, body s = some x → Sum.elim Gs Gr x → Gs s) (hk : ∀ r, k r = some res → Gr r) : Gs s0 :=
  bind_in hf fun r h1 h2 => loop_ind hb n s0 r h1 (hk r h2)
theorem ifp {α : Type} {c : Prop} [inst : Decidable c] {a b r : α} (hc : c) (hf : (if c then a else b) = r) : a = r := (if_pos hc).symm.trans hf
theorem ifn {α : Type} {c : Prop} [inst : Decidable c] {a b r : α} (hc : ¬ c) (hf : (if c then a else b) = r) : b = r := (if_neg hc).symm.trans hf
theorem okb {α : Type} {c : Prop} [inst : Decidable c] {a : Option α} {r : α} (hf : (if c then a else none) = some r) : c := by
  by_cases h : c
  · exact h
  · rw [if_neg h] at hf; cases hf
theorem okn {α : Type} {c : Prop} [inst : Decidable c] {a : Option α} {r : α} (hf : (if c then none else a) = some r) : ¬ c := by
  by_cases h : c
  · rw [if_pos h] at hf; cases hf
  · exact h
end Jvm.Own

namespace Jvm.Own
open Sem ClassFile Op Lib Jvm.Stand Jvm.Free Jvm.LawKit Jvm.RoadKit
/-! values: ints and longs as Int, references as addresses -/
abbrev V := Int ⊕ (Int ⊕ Nat)
abbrev vI (x : Int) : V := Sum.inl x
abbrev vJ (x : Int) : V := Sum.inr (Sum.inl x)
abbrev vR (a : Nat) : V := Sum.inr (Sum.inr a)
def rv : V → Value
  | .inl x => .int (Int32.ofInt x)
  | .inr (.inl x) => .long (Int64.ofInt x)
  | .inr (.inr a) => .ref a
def okV : V → Prop
  | .inl x => R32 x
  | .inr (.inl x) => R64 x
  | .inr (.inr _) => True
def okS (S : List V) : Prop := ∀ u ∈ S, okV u
theorem ofw32 (x : Int) : Int32.ofInt (w32 x) = Int32.ofInt x := Int32.toInt_inj.mp (by simp [w32, Int32.toInt_ofInt])
theorem ofw64 (x : Int) : Int64.ofInt (w64 x) = Int64.ofInt x := Int64.toInt_inj.mp (by simp [w64, Int64.toInt_ofInt])
theorem rw32 (x : Int) : R32 (w32 x) := by unfold R32 w32; have := @Int.le_bmod x 4294967296 (by decide); have := @Int.bmod_lt x 4294967296 (by decide); omega
theorem rw64 (x : Int) : R64 (w64 x) := by unfold R64 w64; have := @Int.le_bmod x 18446744073709551616 (by decide); have := @Int.bmod_lt x 18446744073709551616 (by decide); omega
theorem w32_id {x : Int} (h : R32 x) : w32 x = x := Int.bmod_eq_of_le (by have := h.1; omega) (by have := h.2; omega)
theorem w64_id {x : Int} (h : R64 x) : w64 x = x := Int.bmod_eq_of_le (by have := h.1; omega) (by have := h.2; omega)
theorem ti32 {x : Int} (h : R32 x) : (Int32.ofInt x).toInt = x := by rw [Int32.toInt_ofInt]; exact w32_id h
theorem ti64 {x : Int} (h : R64 x) : (Int64.ofInt x).toInt = x := by rw [Int64.toInt_ofInt]; exact w64_id h
theorem r32t (x : Int32) : R32 x.toInt := ⟨by have := Int32.le_toInt x; omega, by have := Int32.toInt_lt x; omega⟩
theorem r64t (x : Int64) : R64 x.toInt := ⟨by have := Int64.le_toInt x; omega, by have := Int64.toInt_lt x; omega⟩
theorem of32 (x : Int32) : Int32.ofInt x.toInt = x := Int32.ofInt_toInt x
theorem of64 (x : Int64) : Int64.ofInt x.toInt = x := Int64.ofInt_toInt x
theorem eq32 {x y : Int} (hx : R32 x) (hy : R32 y) : Int32.ofInt x = Int32.ofInt y ↔ x = y := ⟨fun h => by rw [← ti32 hx, ← ti32 hy, h], fun h => by rw [h]⟩
theorem eq64 {x y : Int} (hx : R64 x) (hy : R64 y) : Int64.ofInt x = Int64.ofInt y ↔ x = y := ⟨fun h => by rw [← ti64 hx, ← ti64 hy, h], fun h => by rw [h]⟩
theorem lt32 {x y : Int} (hx : R32 x) (hy : R32 y) : Int32.ofInt x < Int32.ofInt y ↔ x < y := by rw [Int32.lt_iff_toInt_lt, ti32 hx, ti32 hy]
theorem lt64 {x y : Int} (hx : R64 x) (hy : R64 y) : Int64.ofInt x < Int64.ofInt y ↔ x < y := by rw [Int64.lt_iff_toInt_lt, ti64 hx, ti64 hy]
theorem add32o (x y : Int) : Int32.ofInt x + Int32.ofInt y = Int32.ofInt (w32 (x + y)) := by rw [ofw32, Int32.ofInt_add]
theorem sub32o (x y : Int) : Int32.ofInt x - Int32.ofInt y = Int32.ofInt (w32 (x - y)) := by rw [ofw32, Int32.ofInt_sub]
theorem mul32o (x y : Int) : Int32.ofInt x * Int32.ofInt y = Int32.ofInt (w32 (x * y)) := by rw [ofw32, Int32.ofInt_mul]
theorem neg32o (x : Int) : -Int32.ofInt x = Int32.ofInt (w32 (-x)) := by rw [ofw32, Int32.ofInt_neg]
theorem div32o {x y : Int} (hx : R32 x) (hy : R32 y) : Int32.ofInt x / Int32.ofInt y = Int32.ofInt (w32 (x.tdiv y)) := Int32.toInt_inj.mp (by rw [Int32.toInt_div, ti32 hx, ti32 hy, ti32 (rw32 _)]; rfl)
theorem add64o (x y : Int) : Int64.ofInt x + Int64.ofInt y = Int64.ofInt (w64 (x + y)) := by rw [ofw64, Int64.ofInt_add]
theorem sub64o (x y : Int) : Int64.ofInt x - Int64.ofInt y = Int64.ofInt (w64 (x - y)) := by rw [ofw64, Int64.ofInt_sub]
theorem mul64o (x y : Int) : Int64.ofInt x * Int64.ofInt y = Int64.ofInt (w64 (x * y)) := by rw [ofw64, Int64.ofInt_mul]
theorem neg64o (x : Int) : -Int64.ofInt x = Int64.ofInt (w64 (-x)) := by rw [ofw64, Int64.ofInt_neg]
theorem div64o {x y : Int} (hx : R64 x) (hy : R64 y) : Int64.ofInt x / Int64.ofInt y = Int64.ofInt (w64 (x.tdiv y)) := Int64.toInt_inj.mp (by rw [Int64.toInt_div, ti64 hx, ti64 hy, ti64 (rw64 _)]; rfl)
theorem rem64o {x y : Int} (hx : R64 x) (hy : R64 y) : Int64.ofInt x - Int64.ofInt x / Int64.ofInt y * Int64.ofInt y = Int64.ofInt (w64 (x.tmod y)) := by
  rw [div64o hx hy, ofw64, mul64o, ofw64, sub64o, ofw64, ofw64]
  congr 1
  have := Int.mul_tdiv_add_tmod x y
  rw [Int.mul_comm] at this
  omega
theorem rem32o {x y : Int} (hx : R32 x) (hy : R32 y) : Int32.ofInt x - Int32.ofInt x / Int32.ofInt y * Int32.ofInt y = Int32.ofInt (w32 (x.tmod y)) := by
  rw [div32o hx hy, ofw32, mul32o, ofw32, sub32o, ofw32, ofw32]
  congr 1
  have := Int.mul_tdiv_add_tmod x y
  rw [Int.mul_comm] at this
  omega
theorem i2l_o {x : Int} (hx : R32 x) : (Int32.ofInt x).toInt64 = Int64.ofInt x := Int64.toInt_inj.mp (by rw [Int32.toInt_toInt64, ti32 hx, ti64 ⟨by have := hx.1; omega, by have := hx.2; omega⟩])
theorem l2i_o (x : Int) : (Int64.ofInt x).toInt32 = Int32.ofInt (w32 x) := Int32.toInt_inj.mp (by
  rw [Int64.toInt_toInt32, Int64.toInt_ofInt, ti32 (rw32 _)]
  exact Int.bmod_bmod_of_dvd (by decide))
theorem i2b_o (x : Int) : (Int32.ofInt x).toInt8.toInt32 = Int32.ofInt (w8 x) := Int32.toInt_inj.mp (by
  rw [Int8.toInt_toInt32, Int32.toInt_toInt8, Int32.toInt_ofInt]
  have h1 := @Int.le_bmod x 256 (by decide)
  have h2 := @Int.bmod_lt x 256 (by decide)
  rw [ti32 (x := w8 x) ⟨by unfold w8; omega, by unfold w8; omega⟩]
  exact Int.bmod_bmod_of_dvd (by decide))
theorem r8 (x : Int) : -128 ≤ w8 x ∧ w8 x < 128 := by
  have h1 := @Int.le_bmod x 256 (by decide)
  have h2 := @Int.bmod_lt x 256 (by decide)
  unfold w8; omega
theorem and1_o (x : Int) : Int32.ofInt x &&& 1 = Int32.ofInt (x % 2) := by
  apply Int32.toInt_inj.mp
  rw [ti32 (x := x % 2) ⟨by omega, by omega⟩]
  have e1 : (Int32.ofInt x &&& 1).toInt = ((BitVec.ofInt 32 x) &&& 1#32).toInt := rfl
  rw [e1]
  have e2 : (BitVec.ofInt 32 x &&& 1#32).toNat = (x % 2).toNat := by
    rw [BitVec.toNat_and, show (1#32).toNat = 2 ^ 1 - 1 from rfl, Nat.and_two_pow_sub_one_eq_mod, BitVec.toNat_ofInt]
    omega
  rw [BitVec.toInt_eq_toNat_cond, e2]
  omega
/-! the local variables -/
def st1 (L : List (Option V)) (i : Nat) (v : V) : List (Option V) :=
  match i with
  | 0 => L.set 0 (some v)
  | i' + 1 => match L[i']? with
    | some (some (.inr (.inl _))) => (L.set i' none).set (i' + 1) (some v)
    | _ => L.set (i' + 1) (some v)
def st2 (L : List (Option V)) (i : Nat) (x : Int) : List (Option V) := (st1 L i (vJ x)).set (i + 1) none
def WF (Ls : Array Slot) : Prop := (∀ (i : Nat) (v : Value), Ls[i]? = some (.val v) → v.category = 2 → Ls[i + 1]? = some .second) ∧ (∀ i : Nat, Ls[i]? = some .second → ∃ (j : Nat) (v : Value), i = j + 1 ∧ Ls[j]? = some (.val v) ∧ v.category = 2)
def LocRel (L : List (Option V)) (Ls : Array Slot) : Prop := Ls.size = L.length ∧ WF Ls ∧ ∀ (i : Nat) (u : V), L[i]? = some (some u) → Ls[i]? = some (.val (rv u)) ∧ okV u
theorem st1_len (L : List (Option V)) (i : Nat) (v : V) : (st1 L i v).length = L.length := by
  unfold st1; split
  · simp
  · split <;> simp
theorem cat_rv (u : V) : (rv u).category = 2 ↔ ∃ x, u = vJ x := by
  rcases u with x | x | a <;> simp [rv, Value.category]
theorem cat_rv1 {u : V} (h : (rv u).category ≠ 2) : ∀ x, u ≠ vJ x := fun x e => h ((cat_rv u).mpr ⟨x, e⟩)
theorem st1_get {L : List (Option V)} {i : Nat} {v : V} {t : Nat} {u : V} (h : (st1 L i v)[t]? = some (some u)) : (t = i ∧ u = v) ∨ (t ≠ i ∧ L[t]? = some (some u) ∧ ¬ (t + 1 = i ∧ ∃ x, u = vJ x)) := by
  unfold st1 at h
  split at h
  · rw [List.getElem?_set] at h
    split at h
    · rename_i e; subst e
      split at h
      · left; exact ⟨rfl, by simpa using h.symm⟩
      · cases h
    · rename_i e; exact Or.inr ⟨fun q => e q.symm, h, by omega⟩
  · rename_i i'
    split at h
    · rename_i x hx
      rw [List.getElem?_set] at h
      split at h
      · rename_i e; subst e
        split at h
        · left; exact ⟨rfl, by simpa using h.symm⟩
        · cases h
      · rename_i e
        rw [List.getElem?_set] at h
        split at h
        · split at h <;> simp at h
        · rename_i e2
          exact Or.inr ⟨fun q => e q.symm, h, fun q => e2 (by omega)⟩
    · rename_i hn
      rw [List.getElem?_set] at h
      split at h
      · rename_i e; subst e
        split at h
        · left; exact ⟨rfl, by simpa using h.symm⟩
        · cases h
      · rename_i e
        refine Or.inr ⟨fun q => e q.symm, h, fun q => ?_⟩
        obtain ⟨q1, x, rfl⟩ := q
        have : t = i' := by omega
        subst this
        exact hn x h
theorem aset {Ls : Array Slot} {i : Nat} {x : Slot} (hi : i < Ls.size) (t : Nat) : (Ls.setIfInBounds i x)[t]? = if t = i then some x else Ls[t]? := by
  rw [Array.getElem?_setIfInBounds]
  by_cases e : i = t
  · subst e; simp [hi]
  · rw [if_neg e, if_neg (fun q => e q.symm)]
theorem setAt_ok {Ls : Array Slot} {i : Nat} {x : Slot} (hi : i < Ls.size) : setAt Ls i x = some (Ls.setIfInBounds i x) := by simp [setAt, hi]
theorem stage1 {L : List (Option V)} {Ls : Array Slot} (H : LocRel L Ls) {i : Nat} (hi : i < L.length) (v : Value) : ∃ l1 : Array Slot, storeLocals Ls i v = storeSelf l1 i v ∧ l1.size = Ls.size ∧
    (∀ (t : Nat) (w : Value), t ≠ i → l1[t]? = some (.val w) → w.category = 2 → t + 1 ≠ i ∧ l1[t + 1]? = some .second) ∧ (∀ t : Nat, t ≠ i → l1[t]? = some .second → ∃ (j : Nat) (w : Value), t = j + 1 ∧ j ≠ i ∧ l1[j]? = some (.val w) ∧ w.category = 2) ∧
    (∀ (t : Nat) (u : V), t ≠ i → L[t]? = some (some u) → ¬ (t + 1 = i ∧ ∃ x, u = vJ x) → l1[t]? = some (.val (rv u)) ∧ okV u) := by
  obtain ⟨hs, ⟨w1, w2⟩, hr⟩ := H
  have hi' : i < Ls.size := by omega
  obtain ⟨y, hy⟩ : ∃ y, Ls[i]? = some y := ⟨_, Array.getElem?_eq_getElem hi'⟩
  cases y with
  | unset =>
    refine ⟨Ls, by simp [storeLocals, hy], rfl, fun t w ht h c => ⟨fun e => ?_, w1 t w h c⟩, fun t ht h => ?_, fun t u ht h _ => hr t u h⟩
    · subst e; have := w1 t w h c; rw [hy] at this; cases this
    · obtain ⟨j, w, e, h2, c⟩ := w2 t h
      refine ⟨j, w, e, fun q => ?_, h2, c⟩
      subst q; rw [hy] at h2; cases h2
  | second =>
    obtain ⟨j, w, e, hj, cw⟩ := w2 i hy
    have hj' : j < Ls.size := by omega
    refine ⟨Ls.setIfInBounds j .unset, by subst e; simp [storeLocals, hy, setAt, hj'], by simp, fun t x ht h c => ?_, fun t ht h => ?_, fun t u ht h hn => ?_⟩
    · rw [aset hj'] at h
      split at h
      · cases h
      · rename_i q
        refine ⟨by omega, ?_⟩
        rw [aset hj', if_neg ?_]
        · exact w1 t x h c
        · intro e2; have := w1 t x h c; rw [e2, hj] at this; cases this
    · rw [aset hj'] at h
      split at h
      · cases h
      · rename_i q
        obtain ⟨j2, x, e2, h2, c2⟩ := w2 t h
        refine ⟨j2, x, e2, fun q2 => ?_, ?_, c2⟩
        · subst q2; rw [hy] at h2; cases h2
        · rw [aset hj', if_neg (by omega)]; exact h2
    · have := hr t u h
      refine ⟨?_, this.2⟩
      rw [aset hj', if_neg ?_]
      · exact this.1
      · intro q
        subst q
        have h3 := this.1
        rw [hj] at h3
        cases h3
        exact hn ⟨e.symm, (cat_rv u).mp cw⟩
  | val old =>
    by_cases co : old.category = 2
    · have hn := w1 i old hy co
      have hi2 : i + 1 < Ls.size := by have := (Array.getElem?_eq_some_iff.mp hn).1; exact this
      refine ⟨Ls.setIfInBounds (i + 1) .unset, by simp [storeLocals, hy, setAt, co, hi2], by simp, fun t x ht h c => ?_, fun t ht h => ?_, fun t u ht h hq => ?_⟩
      · rw [aset hi2] at h
        split at h
        · cases h
        · rename_i q
          refine ⟨fun e => ?_, ?_⟩
          · subst e; have := w1 t x h c; rw [hy] at this; cases this
          · rw [aset hi2, if_neg (by omega)]; exact w1 t x h c
      · rw [aset hi2] at h
        split at h
        · cases h
        · rename_i q
          obtain ⟨j2, x, e2, h2, c2⟩ := w2 t h
          refine ⟨j2, x, e2, by omega, ?_, c2⟩
          rw [aset hi2, if_neg ?_]
          · exact h2
          · intro q2; subst q2; rw [hn] at h2; cases h2
      · have := hr t u h
        refine ⟨?_, this.2⟩
        rw [aset hi2, if_neg ?_]
        · exact this.1
        · intro q; subst q; rw [hn] at this; cases this.1
    · refine ⟨Ls, by simp [storeLocals, hy, co], rfl, fun t w ht h c => ⟨fun e => ?_, w1 t w h c⟩, fun t ht h => ?_, fun t u ht h _ => hr t u h⟩
      · subst e; have := w1 t w h c; rw [hy] at this; cases this
      · obtain ⟨j, w, e, h2, c⟩ := w2 t h
        refine ⟨j, w, e, fun q => ?_, h2, c⟩
        subst q; rw [hy] at h2; cases h2; exact co c
theorem st1_ok {L : List (Option V)} {Ls : Array Slot} (H : LocRel L Ls) {i : Nat} {u : V} (hi : i < L.length) (hu : okV u) (hc : ∀ x, u ≠ vJ x) : ∃ Ls', storeLocals Ls i (rv u) = some Ls' ∧ LocRel (st1 L i u) Ls' := by
  obtain ⟨l1, e1, e2, a1, a2, a3⟩ := stage1 H hi (rv u)
  have hi' : i < l1.size := by have := H.1; omega
  have c1 : (rv u).category ≠ 2 := fun q => by obtain ⟨x, hx⟩ := (cat_rv u).mp q; exact hc x hx
  refine ⟨l1.setIfInBounds i (.val (rv u)), by rw [e1]; simp [storeSelf, setAt, hi', c1], by rw [st1_len]; simp [e2, H.1], ⟨fun t w h c => ?_, fun t h => ?_⟩, fun t w h => ?_⟩
  · rw [aset hi'] at h
    split at h
    · cases h; exact absurd c c1
    · rename_i q
      obtain ⟨b1, b2⟩ := a1 t w q h c
      rw [aset hi', if_neg b1]; exact b2
  · rw [aset hi'] at h
    split at h
    · cases h
    · rename_i q
      obtain ⟨j, w, b1, b2, b3, b4⟩ := a2 t q h
      exact ⟨j, w, b1, by rw [aset hi', if_neg b2]; exact b3, b4⟩
  · rcases st1_get h with ⟨rfl, rfl⟩ | ⟨q1, q2, q3⟩
    · exact ⟨by rw [aset hi', if_pos rfl], hu⟩
    · obtain ⟨b1, b2⟩ := a3 t w q1 q2 q3
      exact ⟨by rw [aset hi', if_neg q1]; exact b1, b2⟩
theorem st2_get {L : List (Option V)} {i : Nat} {x : Int} {t : Nat} {u : V} (h : (st2 L i x)[t]? = some (some u)) : t ≠ i + 1 ∧ ((t = i ∧ u = vJ x) ∨ (t ≠ i ∧ L[t]? = some (some u) ∧ ¬ (t + 1 = i ∧ ∃ x, u = vJ x))) := by
  unfold st2 at h
  rw [List.getElem?_set] at h
  split at h
  · split at h <;> simp at h
  · rename_i q
    exact ⟨fun e => q e.symm, st1_get h⟩
theorem st2_ok {L : List (Option V)} {Ls : Array Slot} (H : LocRel L Ls) {i : Nat} {x : Int} (hi : i + 1 < L.length) (hu : R64 x) : ∃ Ls', storeLocals Ls i (rv (vJ x)) = some Ls' ∧ LocRel (st2 L i x) Ls' := by
  obtain ⟨l1, e1, e2, a1, a2, a3⟩ := stage1 H (by omega : i < L.length) (rv (vJ x))
  have hs : l1.size = L.length := e2.trans H.1
  have hi' : i < l1.size := by omega
  have hi2 : i + 1 < l1.size := by omega
  have hlen : (st2 L i x).length = L.length := by simp [st2, st1_len]
  have c2 : (rv (vJ x)).category = 2 := rfl
  have g1 : (l1.setIfInBounds i (.val (rv (vJ x))))[i + 1]? = l1[i + 1]? := by rw [aset hi', if_neg (by omega)]
  obtain ⟨y, hy⟩ : ∃ y, l1[i + 1]? = some y := ⟨_, Array.getElem?_eq_getElem hi2⟩
  by_cases hb : ∃ w, y = .val w ∧ w.category = 2
  · obtain ⟨w, rfl, cw⟩ := hb
    have hn := (a1 (i + 1) w (by omega) hy cw).2
    have hi3 : i + 1 + 1 < l1.size := (Array.getElem?_eq_some_iff.mp hn).1
    refine ⟨((l1.setIfInBounds i (.val (rv (vJ x)))).setIfInBounds (i + 2) .unset).setIfInBounds (i + 1) .second, ?_, by rw [hlen]; simp [hs], ⟨fun t w2 h c => ?_, fun t h => ?_⟩, fun t w2 h => ?_⟩
    · rw [e1]
      have hi3' : i + 2 < l1.size := hi3
      have hy2 := (Array.getElem?_eq_some_iff.mp hy).2
      simp [storeSelf, setAt, hi', c2, g1, hy2, cw, hi3', hi2]
    · rw [aset (by simp; omega), aset (by simp; omega), aset hi'] at h
      split at h
      · cases h
      · split at h
        · cases h
        · split at h
          · rename_i q1 q2 q3
            subst q3
            rw [aset (by simp; omega), if_pos rfl]
          · rename_i q1 q2 q3
            obtain ⟨b1, b2⟩ := a1 t w2 q3 h c
            rw [aset (by simp; omega), if_neg (by omega), aset (by simp; omega), if_neg (by omega), aset hi', if_neg b1]
            exact b2
    · rw [aset (by simp; omega), aset (by simp; omega), aset hi'] at h
      split at h
      · rename_i q1
        exact ⟨i, rv (vJ x), q1, by rw [aset (by simp; omega), if_neg (by omega), aset (by simp; omega), if_neg (by omega), aset hi', if_pos rfl], c2⟩
      · split at h
        · cases h
        · split at h
          · cases h
          · rename_i q1 q2 q3
            obtain ⟨j, w3, b1, b2, b3, b4⟩ := a2 t q3 h
            refine ⟨j, w3, b1, ?_, b4⟩
            rw [aset (by simp; omega), if_neg (by omega), aset (by simp; omega), if_neg ?_, aset hi', if_neg b2]
            · exact b3
            · intro q; subst q
              have : l1[i + 1 + 1]? = some (.val w3) := b3
              rw [hn] at this; cases this
    · obtain ⟨q0, q⟩ := st2_get h
      rw [aset (by simp; omega), if_neg q0, aset (by simp; omega), aset hi']
      rcases q with ⟨rfl, rfl⟩ | ⟨q1, q2, q3⟩
      · rw [if_neg (by omega), if_pos rfl]; exact ⟨rfl, hu⟩
      · obtain ⟨b1, b2⟩ := a3 t w2 q1 q2 q3
        refine ⟨?_, b2⟩
        rw [if_neg ?_, if_neg q1]
        · exact b1
        · intro q; subst q
          have : l1[i + 1 + 1]? = some (.val (rv w2)) := b1
          rw [hn] at this; cases this
  · refine ⟨(l1.setIfInBounds i (.val (rv (vJ x)))).setIfInBounds (i + 1) .second, ?_, by rw [hlen]; simp [hs], ⟨fun t w2 h c => ?_, fun t h => ?_⟩, fun t w2 h => ?_⟩
    · rw [e1]
      cases y with
      | val w =>
        have cw : w.category ≠ 2 := fun q => hb ⟨w, rfl, q⟩
        have hy2 := (Array.getElem?_eq_some_iff.mp hy).2
        simp [storeSelf, setAt, hi', c2, g1, hy2, cw, hi2]
      | unset => have hy2 := (Array.getElem?_eq_some_iff.mp hy).2; simp [storeSelf, setAt, hi', c2, g1, hy2, hi2]
      | second => have hy2 := (Array.getElem?_eq_some_iff.mp hy).2; simp [storeSelf, setAt, hi', c2, g1, hy2, hi2]
    · rw [aset (by simp; omega), aset hi'] at h
      split at h
      · cases h
      · split at h
        · rename_i q1 q2
          subst q2
          rw [aset (by simp; omega), if_pos rfl]
        · rename_i q1 q2
          obtain ⟨b1, b2⟩ := a1 t w2 q2 h c
          rw [aset (by simp; omega), if_neg (by omega), aset hi', if_neg b1]
          exact b2
    · rw [aset (by simp; omega), aset hi'] at h
      split at h
      · rename_i q1
        exact ⟨i, rv (vJ x), q1, by rw [aset (by simp; omega), if_neg (by omega), aset hi', if_pos rfl], c2⟩
      · split at h
        · cases h
        · rename_i q1 q2
          obtain ⟨j, w3, b1, b2, b3, b4⟩ := a2 t q2 h
          refine ⟨j, w3, b1, ?_, b4⟩
          rw [aset (by simp; omega), if_neg ?_, aset hi', if_neg b2]
          · exact b3
          · intro q; subst q
            rw [hy] at b3; cases b3
            exact hb ⟨w3, rfl, b4⟩
    · obtain ⟨q0, q⟩ := st2_get h
      rw [aset (by simp; omega), if_neg q0, aset hi']
      rcases q with ⟨rfl, rfl⟩ | ⟨q1, q2, q3⟩
      · rw [if_pos rfl]; exact ⟨rfl, hu⟩
      · obtain ⟨b1, b2⟩ := a3 t w2 q1 q2 q3
        exact ⟨by rw [if_neg q1]; exact b1, b2⟩
/-! entry -/
def laid : List V → List (Option V)
  | [] => []
  | .inr (.inl x) :: r => some (vJ x) :: none :: laid r
  | u :: r => some u :: laid r
def ent (as : List V) (maxL : Nat) : List (Option V) := laid as ++ List.replicate (maxL - (laid as).length) none
def mask : List Bool → List (Option V) → List (Option V)
  | true :: bs, u :: r => u :: mask bs r
  | false :: bs, _ :: r => none :: mask bs r
  | _, r => r
theorem mask_len (bs : List Bool) (L : List (Option V)) : (mask bs L).length = L.length := by
  induction L generalizing bs with
  | nil => rcases bs with _ | ⟨_ | _, bs⟩ <;> rfl
  | cons a r ih => rcases bs with _ | ⟨_ | _, bs⟩ <;> simp [mask, ih]
theorem mask_get {bs : List Bool} {L : List (Option V)} {i : Nat} {u : V} (h : (mask bs L)[i]? = some (some u)) : L[i]? = some (some u) := by
  induction L generalizing bs i with
  | nil => cases bs <;> simp [mask] at h
  | cons a r ih =>
    rcases bs with _ | ⟨_ | _, bs⟩
    · exact h
    · cases i with
      | zero => simp [mask] at h
      | succ i => simp only [mask, List.getElem?_cons_succ] at h ⊢; exact ih h
    · cases i with
      | zero => exact h
      | succ i => simp only [mask, List.getElem?_cons_succ] at h ⊢; exact ih h
theorem LocRel.mask {L : List (Option V)} {Ls : Array Slot} (H : LocRel L Ls) (bs : List Bool) : LocRel (mask bs L) Ls := ⟨by rw [mask_len]; exact H.1, H.2.1, fun i u h => H.2.2 i u (mask_get h)⟩
def WFl (Ls : List Slot) : Prop := (∀ (i : Nat) (v : Value), Ls[i]? = some (.val v) → v.category = 2 → Ls[i + 1]? = some .second) ∧ (∀ i : Nat, Ls[i]? = some .second → ∃ (j : Nat) (v : Value), i = j + 1 ∧ Ls[j]? = some (.val v) ∧ v.category = 2)
theorem wfl_rep (n : Nat) : WFl (List.replicate n .unset) := by
  refine ⟨fun i v h => ?_, fun i h => ?_⟩ <;> (rw [List.getElem?_replicate] at h; split at h <;> simp at h)
theorem wfl_cons1 {a : Value} {r : List Slot} (H : WFl r) (c : a.category ≠ 2) : WFl (.val a :: r) := by
  refine ⟨fun i v h cv => ?_, fun i h => ?_⟩
  · cases i with
    | zero => simp at h; subst h; exact absurd cv c
    | succ i => simp only [List.getElem?_cons_succ] at h ⊢; exact H.1 i v h cv
  · cases i with
    | zero => simp at h
    | succ i =>
      simp only [List.getElem?_cons_succ] at h
      obtain ⟨j, v, e, h2, c2⟩ := H.2 i h
      exact ⟨j + 1, v, by omega, by simpa using h2, c2⟩
theorem wfl_cons2 {a : Value} {r : List Slot} (H : WFl r) (c : a.category = 2) : WFl (.val a :: .second :: r) := by
  refine ⟨fun i v h cv => ?_, fun i h => ?_⟩
  · rcases i with _ | _ | i
    · rfl
    · simp at h
    · simp only [List.getElem?_cons_succ] at h ⊢; exact H.1 i v h cv
  · rcases i with _ | _ | i
    · simp at h
    · exact ⟨0, a, rfl, rfl, c⟩
    · simp only [List.getElem?_cons_succ] at h
      obtain ⟨j, v, e, h2, c2⟩ := H.2 i h
      exact ⟨j + 2, v, by omega, by simpa using h2, c2⟩
theorem laid_ok (n : Nat) : ∀ as : List V, okS as → (laid as).length = (Jvm.Sym.laidSlots (as.map rv)).length ∧ WFl (Jvm.Sym.laidSlots (as.map rv) ++ List.replicate n .unset) ∧ ∀ (i : Nat) (u : V), (laid as)[i]? = some (some u) → (Jvm.Sym.laidSlots (as.map rv))[i]? = some (.val (rv u)) ∧ okV u
  | [], _ => ⟨rfl, by simpa [Jvm.Sym.laidSlots] using wfl_rep n, fun i u h => by simp [laid] at h⟩
  | .inl x :: r, ho => by
    obtain ⟨h1, h2, h3⟩ := laid_ok n r (fun u hu => ho u (List.mem_cons_of_mem _ hu))
    refine ⟨by simp [laid, Jvm.Sym.laidSlots, rv, Value.category, h1], ?_, fun i u h => ?_⟩
    · exact wfl_cons1 (a := rv (vI x)) h2 (by simp [rv, Value.category])
    · cases i with
      | zero => simp [laid] at h; subst h; exact ⟨rfl, ho _ (List.mem_cons_self ..)⟩
      | succ i => simp only [laid, List.getElem?_cons_succ] at h; exact h3 i u h
  | .inr (.inr x) :: r, ho => by
    obtain ⟨h1, h2, h3⟩ := laid_ok n r (fun u hu => ho u (List.mem_cons_of_mem _ hu))
    refine ⟨by simp [laid, Jvm.Sym.laidSlots, rv, Value.category, h1], ?_, fun i u h => ?_⟩
    · exact wfl_cons1 (a := rv (vR x)) h2 (by simp [rv, Value.category])
    · cases i with
      | zero => simp [laid] at h; subst h; exact ⟨rfl, ho _ (List.mem_cons_self ..)⟩
      | succ i => simp only [laid, List.getElem?_cons_succ] at h; exact h3 i u h
  | .inr (.inl x) :: r, ho => by
    obtain ⟨h1, h2, h3⟩ := laid_ok n r (fun u hu => ho u (List.mem_cons_of_mem _ hu))
    refine ⟨by simp [laid, Jvm.Sym.laidSlots, rv, Value.category, h1], ?_, fun i u h => ?_⟩
    · exact wfl_cons2 (a := rv (vJ x)) h2 rfl
    · rcases i with _ | _ | i
      · simp [laid] at h; subst h; exact ⟨rfl, ho _ (List.mem_cons_self ..)⟩
      · simp [laid] at h
      · simp only [laid, List.getElem?_cons_succ] at h; exact h3 i u h
theorem ent_ok {as : List V} {maxL : Nat} (ho : okS as) (hl : (laid as).length ≤ maxL) : LocRel (ent as maxL) (argsToLocals (as.map rv).toArray maxL) := by
  have e : (argsToLocals (as.map rv).toArray maxL).toList = Jvm.Sym.laidSlots (as.map rv) ++ List.replicate (maxL - (Jvm.Sym.laidSlots (as.map rv)).length) .unset := by rw [Jvm.Sym.argsToLocals_toList]
  obtain ⟨h1, h2, h3⟩ := laid_ok (maxL - (Jvm.Sym.laidSlots (as.map rv)).length) as ho
  have g : ∀ i, (argsToLocals (as.map rv).toArray maxL)[i]? = (Jvm.Sym.laidSlots (as.map rv) ++ List.replicate (maxL - (Jvm.Sym.laidSlots (as.map rv)).length) .unset)[i]? := fun i => by rw [← e, Array.getElem?_toList]
  refine ⟨?_, ⟨fun i v h c => ?_, fun i h => ?_⟩, fun i u h => ?_⟩
  · rw [← Array.length_toList, e]; simp [ent, h1]
  · rw [g] at h ⊢; exact h2.1 i v h c
  · rw [g] at h
    obtain ⟨j, v, q1, q2, q3⟩ := h2.2 i h
    exact ⟨j, v, q1, by rw [g]; exact q2, q3⟩
  · rw [g]
    unfold ent at h
    by_cases q : i < (laid as).length
    · rw [List.getElem?_append_left q] at h
      rw [List.getElem?_append_left (by omega)]
      exact h3 i u h
    · rw [List.getElem?_append_right (by omega), List.getElem?_replicate] at h
      split at h <;> simp at h
/-! the heap: objects of one class, each with its arrays laid right behind it -/
def fv : FieldType → Int → Value
  | .long, x => .long (Int64.ofInt x)
  | _, x => .int (Int32.ofInt x)
def tv : FieldType → Int → V
  | .long, x => vJ x
  | _, x => vI x
def okT : FieldType → Int → Prop
  | .long, x => R64 x
  | .boolean, x => x = 0 ∨ x = 1
  | .byte, x => -128 ≤ x ∧ x < 128
  | _, x => R32 x
def norm : FieldType → Int → Int
  | .boolean, x => x % 2
  | .byte, x => w8 x
  | _, x => x
def pt (t : FieldType) : Prop := t = .int ∨ t = .boolean ∨ t = .byte ∨ t = .long
theorem rv_tv (t : FieldType) (x : Int) : rv (tv t x) = fv t x := by cases t <;> rfl
theorem okV_tv {t : FieldType} {x : Int} (h : okT t x) : okV (tv t x) := by
  cases t <;> simp only [okT, tv, okV, R32, R64] at * <;> omega
theorem dflt_fv {t : FieldType} (h : pt t) : defaultValue t = fv t 0 := by rcases h with rfl | rfl | rfl | rfl <;> rfl
theorem okT0 {t : FieldType} (h : pt t) : okT t 0 := by rcases h with rfl | rfl | rfl | rfl <;> simp [okT, R32, R64]
theorem norm_ok {t : FieldType} {x : Int} (h : pt t) (hx : okV (tv t x)) : narrow t (fv t x) = fv t (norm t x) ∧ fits t (fv t (norm t x)) = true ∧ okT t (norm t x) := by
  rcases h with rfl | rfl | rfl | rfl
  · exact ⟨rfl, rfl, hx⟩
  · refine ⟨?_, ?_, ?_⟩
    · show Value.int (Int32.ofInt x &&& 1) = _; rw [and1_o]; rfl
    · have := fits_nar_bool (Int32.ofInt x)
      rw [show nar .boolean (Int32.ofInt x) = Int32.ofInt x &&& 1 from rfl, and1_o] at this
      exact this
    · simp only [okT, norm]; omega
  · refine ⟨?_, ?_, ?_⟩
    · show Value.int ((Int32.ofInt x).toInt8.toInt32) = _; rw [i2b_o]; rfl
    · have := fits_nar_byte (Int32.ofInt x)
      rw [i2b_o] at this
      exact this
    · exact r8 x
  · exact ⟨rfl, rfl, hx⟩
abbrev OB := Nat × Nat × Mo
/-- the class: its name, its plain fields (number, name, descriptor, type), its arrays (name, descriptor, component type, length) -/
abbrev Cls := String × List (Nat × String × String × FieldType) × List (String × String × FieldType × Nat)
abbrev Cls.C (D : Cls) : String := D.1
abbrev Cls.FS (D : Cls) : List (Nat × String × String × FieldType) := D.2.1
abbrev Cls.AS (D : Cls) : List (String × String × FieldType × Nat) := D.2.2
def Obj (Z : State) (D : Cls) (b k : Nat) (O : Mo) (h : Heap) : Prop :=
  Exa Z h b D.C ∧ (∀ (i : Nat) (n d : String) (t : FieldType), (i, n, d, t) ∈ D.FS → Fld Z h b D.C n d (fv t (O 0 i)) ∧ okT t (O 0 i)) ∧
  (∀ (j : Nat) (n d : String) (t : FieldType) (len : Nat), D.AS[j]? = some (n, d, t, len) → Fld Z h b D.C n d (if j < k then .ref (b + j + 1) else .null)) ∧
  (∀ (j : Nat) (n d : String) (t : FieldType) (len : Nat), D.AS[j]? = some (n, d, t, len) → j < k → ∃ c : Cell, Arr Z h (b + j + 1) c t ∧ c.slots.size = len ∧ ∀ i : Nat, i < len → c.slots[i]? = some (fv t (O (j + 1) i)) ∧ okT t (O (j + 1) i))
def StB (D : Cls) (b : Nat) (P : Heap → Prop) : Prop := ∀ (h h' : Heap) (a sl : Nat) (v : Value), b ≤ a → a ≤ b + D.AS.length → Wr h h' a sl v → P h → P h'
def StE (P : Heap → Prop) : Prop := ∀ h h' : Heap, Ext h h' → P h → P h'
def HS (Z : State) (D : Cls) (n0 : Nat) (P : Heap → Prop) (os : List OB) (sz : Nat) (h : Heap) : Prop :=
  h.size = sz ∧ n0 ≤ sz ∧ (∀ (q b k : Nat) (O : Mo), os[q]? = some (b, k, O) → Obj Z D b k O h ∧ n0 ≤ b ∧ StB D b P) ∧
  (∀ (q q' b k : Nat) (O : Mo) (b' k' : Nat) (O' : Mo), os[q]? = some (b, k, O) → os[q']? = some (b', k', O') → q ≠ q' → b + D.AS.length < b' ∨ b' + D.AS.length < b) ∧ StE P ∧ P h
/-- what the sheet's words say of the class -/
def CW (Z : State) (a0 : Array Value) (D : Cls) : Prop :=
  (∀ (i : Nat) (n d : String) (t : FieldType), (i, n, d, t) ∈ D.FS → Laid Z a0 D.C D.C n d ∧ parseFieldDescriptor d = some t ∧ pt t) ∧
  (∀ (j : Nat) (n d : String) (t : FieldType) (len : Nat), D.AS[j]? = some (n, d, t, len) → Laid Z a0 D.C D.C n d ∧ parseFieldDescriptor d = some (.array t) ∧ pt t ∧ len * 8 ≤ 536870912) ∧
  (∀ (i : Nat) (n d : String) (t : FieldType) (i' : Nat) (n' d' : String) (t' : FieldType), (i, n, d, t) ∈ D.FS → (i', n', d', t') ∈ D.FS → (i = i' ∧ n = n' ∧ d = d' ∧ t = t') ∨ (i ≠ i' ∧ n ≠ n')) ∧
  (∀ (i : Nat) (n d : String) (t : FieldType) (j : Nat) (n' d' : String) (t' : FieldType) (len : Nat), (i, n, d, t) ∈ D.FS → D.AS[j]? = some (n', d', t', len) → n ≠ n') ∧
  (∀ (j : Nat) (n d : String) (t : FieldType) (len j' : Nat) (n' d' : String) (t' : FieldType) (len' : Nat), D.AS[j]? = some (n, d, t, len) → D.AS[j']? = some (n', d', t', len') → j ≠ j' → n ≠ n')
theorem nne {x y : Nat} (h : ¬ x = y) : @Ne Addr x y := h
section Heaps
variable {Z : State} {a0 : Array Value} {D : Cls} {n0 : Nat} {P : Heap → Prop} {b k : Nat} {O : Mo} {h h' : Heap} {os : List OB} {sz q : Nat}
theorem Obj.putf (cw : CW Z a0 D) (H : Obj Z D b k O h) {i : Nat} {n d : String} {t : FieldType} {x : Int} (hf : (i, n, d, t) ∈ D.FS) (W : Wr h h' b (Jvm.RoadKit.slotOf Z D.C n d) (fv t x)) (hx : okT t x) : Obj Z D b k (upd O 0 i x) h' := by
  obtain ⟨h1, h2, h3, h4⟩ := H
  obtain ⟨c1, c2, c3, c4, c5⟩ := cw
  obtain ⟨l1, p1, t1⟩ := c1 _ _ _ _ hf
  refine ⟨h1.wr W, fun i' n' d' t' hf' => ?_, fun j n' d' t' len ha => ?_, fun j n' d' t' len ha hj => ?_⟩
  · obtain ⟨f1, f2⟩ := h2 _ _ _ _ hf'
    rcases c3 _ _ _ _ _ _ _ _ hf hf' with ⟨rfl, rfl, rfl, rfl⟩ | ⟨ne, nn⟩
    · rw [upd_same]; exact ⟨f1.same W, hx⟩
    · rw [upd_ne (fun q => ne q.2.symm)]
      obtain ⟨l2, p2, _⟩ := c1 _ _ _ _ hf'
      exact ⟨f1.other W (Or.inr (slot_ne l2 l1 (fun e => nn e.symm) p2 p1)), f2⟩
  · have f1 := h3 _ _ _ _ _ ha
    obtain ⟨l2, p2, _⟩ := c2 _ _ _ _ _ ha
    exact f1.other W (Or.inr (slot_ne l2 l1 (fun e => c4 _ _ _ _ _ _ _ _ _ hf ha e.symm) p2 p1))
  · obtain ⟨c, A, s, g⟩ := h4 _ _ _ _ _ ha hj
    refine ⟨c, A.other W (nne (by omega)), s, fun i' hi' => ?_⟩
    rw [upd_ne (by omega)]; exact g i' hi'
theorem Obj.puta (H : Obj Z D b k O h) {j i len : Nat} {n d : String} {t : FieldType} {x : Int} (ha : D.AS[j]? = some (n, d, t, len)) (hj : j < k) (hi : i < len) (W : Wr h h' (b + j + 1) i (fv t x)) (hx : okT t x) : Obj Z D b k (upd O (j + 1) i x) h' := by
  obtain ⟨h1, h2, h3, h4⟩ := H
  refine ⟨h1.wr W, fun i' n' d' t' hf' => ?_, fun j' n' d' t' len' ha' => ?_, fun j' n' d' t' len' ha' hj' => ?_⟩
  · obtain ⟨f1, f2⟩ := h2 _ _ _ _ hf'
    rw [upd_ne (by omega)]
    exact ⟨f1.other W (Or.inl (nne (by omega))), f2⟩
  · exact (h3 _ _ _ _ _ ha').other W (Or.inl (nne (by omega)))
  · obtain ⟨c, A, s, g⟩ := h4 _ _ _ _ _ ha' hj'
    by_cases e : j' = j
    · subst e
      cases ha.symm.trans ha'
      refine ⟨_, A.same W, by rw [sz_set]; exact s, fun i' hi' => ?_⟩
      by_cases e2 : i' = i
      · subst e2
        rw [upd_same]
        exact ⟨by simp [Cell.setSlot, s, hi'], hx⟩
      · rw [upd_ne (fun q => e2 q.2)]
        refine ⟨?_, (g i' hi').2⟩
        have := (g i' hi').1
        simp only [Cell.setSlot]
        rw [Array.getElem?_setIfInBounds_ne (fun q => e2 q.symm)]
        exact this
    · refine ⟨c, A.other W (nne (by omega)), s, fun i' hi' => ?_⟩
      rw [upd_ne (by omega)]; exact g i' hi'
theorem Obj.other (H : Obj Z D b k O h) {a sl : Nat} {v : Value} (W : Wr h h' a sl v) (hne : a < b ∨ b + D.AS.length < a) : Obj Z D b k O h' := by
  obtain ⟨h1, h2, h3, h4⟩ := H
  refine ⟨h1.wr W, fun i' n' d' t' hf' => ⟨(h2 _ _ _ _ hf').1.other W (Or.inl (nne (by omega))), (h2 _ _ _ _ hf').2⟩, fun j' n' d' t' len' ha' => (h3 _ _ _ _ _ ha').other W (Or.inl (nne (by omega))), fun j' n' d' t' len' ha' hj' => ?_⟩
  obtain ⟨c, A, s, g⟩ := h4 _ _ _ _ _ ha' hj'
  have hl : j' < D.AS.length := (List.getElem?_eq_some_iff.mp ha').1
  exact ⟨c, A.other W (nne (by omega)), s, g⟩
theorem Obj.ext (H : Obj Z D b k O h) (E : Ext h h') : Obj Z D b k O h' := by
  obtain ⟨h1, h2, h3, h4⟩ := H
  refine ⟨h1.ext E, fun i' n' d' t' hf' => ⟨(h2 _ _ _ _ hf').1.ext E, (h2 _ _ _ _ hf').2⟩, fun j' n' d' t' len' ha' => (h3 _ _ _ _ _ ha').ext E, fun j' n' d' t' len' ha' hj' => ?_⟩
  obtain ⟨c, A, s, g⟩ := h4 _ _ _ _ _ ha' hj'
  exact ⟨c, A.ext E, s, g⟩
theorem Obj.top (H : Obj Z D b k O h) (hk : k = D.AS.length) : b + D.AS.length < h.size := by
  obtain ⟨h1, h2, h3, h4⟩ := H
  by_cases z : D.AS.length = 0
  · have : b < h.size := h1.lt
    omega
  · obtain ⟨⟨n, d, t, len⟩, hx⟩ : ∃ y, D.AS[D.AS.length - 1]? = some y := ⟨_, List.getElem?_eq_getElem (by omega)⟩
    obtain ⟨c, A, -⟩ := h4 _ _ _ _ _ hx (by omega)
    have : b + (D.AS.length - 1) + 1 < h.size := A.lt
    omega
theorem Obj.mkArr (cw : CW Z a0 D) (H : Obj Z D b k O h) {n d : String} {t : FieldType} {len : Nat} {h1 h2 : Heap} {cA : ClassId} (ha : D.AS[k]? = some (n, d, t, len)) (E : Ext h h1) (A : Arr Z h1 (b + k + 1) (newA cA t (Int32.ofInt len)) t)
    (W : Wr h1 h2 b (Jvm.RoadKit.slotOf Z D.C n d) (.ref (b + k + 1))) (hO : ∀ i, O (k + 1) i = 0) : Obj Z D b (k + 1) O h2 := by
  have H1 := H.ext E
  obtain ⟨g1, g2, g3, g4⟩ := H1
  obtain ⟨c1, c2, c3, c4, c5⟩ := cw
  obtain ⟨l1, p1, t1, b1⟩ := c2 _ _ _ _ _ ha
  refine ⟨g1.wr W, fun i' n' d' t' hf' => ?_, fun j n' d' t' len' ha' => ?_, fun j n' d' t' len' ha' hj => ?_⟩
  · obtain ⟨f1, f2⟩ := g2 _ _ _ _ hf'
    obtain ⟨l2, p2, _⟩ := c1 _ _ _ _ hf'
    exact ⟨f1.other W (Or.inr (slot_ne l2 l1 (fun e => c4 _ _ _ _ _ _ _ _ _ hf' ha e) p2 p1)), f2⟩
  · by_cases e : j = k
    · subst e
      cases ha.symm.trans ha'
      rw [if_pos (by omega)]
      exact (g3 _ _ _ _ _ ha).same W
    · have f1 := g3 _ _ _ _ _ ha'
      obtain ⟨l2, p2, _⟩ := c2 _ _ _ _ _ ha'
      have e3 : (j < k + 1) = (j < k) := propext ⟨fun q => by omega, fun q => by omega⟩
      simp only [e3]
      exact f1.other W (Or.inr (slot_ne l2 l1 (fun e2 => c5 _ _ _ _ _ _ _ _ _ _ ha' ha e e2) p2 p1))
  · by_cases e : j = k
    · subst e
      cases ha.symm.trans ha'
      have e32 : (Int32.ofInt (len : Int)).toNatClampNeg = len := by
        unfold Int32.toNatClampNeg
        rw [ti32 ⟨by omega, by omega⟩]; simp
      refine ⟨_, A.other W (nne (by omega)), by rw [sz_new, e32], fun i hi => ?_⟩
      rw [hO]
      refine ⟨?_, okT0 t1⟩
      simp [newA, e32, hi, dflt_fv t1]
    · obtain ⟨c, A', s, g⟩ := g4 _ _ _ _ _ ha' (by omega)
      exact ⟨c, A'.other W (nne (by omega)), s, g⟩
theorem HS.wr (H : HS Z D n0 P os sz h) (hq : os[q]? = some (b, k, O)) {a sl : Nat} {v : Value} {k' : Nat} {O' : Mo} (h1 : b ≤ a) (h2 : a ≤ b + D.AS.length) (W : Wr h h' a sl v) (hO : Obj Z D b k' O' h') : HS Z D n0 P (os.set q (b, k', O')) sz h' := by
  obtain ⟨g1, g2, g3, g4, g5, g6⟩ := H
  have hlt : q < os.length := (List.getElem?_eq_some_iff.mp hq).1
  have key : ∀ q2 b2 k2 O2, (os.set q (b, k', O'))[q2]? = some (b2, k2, O2) → (q2 = q ∧ b2 = b ∧ k2 = k' ∧ O2 = O') ∨ (q2 ≠ q ∧ os[q2]? = some (b2, k2, O2)) := fun q2 b2 k2 O2 e => by
    rw [List.getElem?_set] at e
    split at e
    · rename_i e2; subst e2
      cases e; exact Or.inl ⟨rfl, rfl, rfl, rfl⟩
    · rename_i e2; exact Or.inr ⟨fun e3 => e2 e3.symm, e⟩
  refine ⟨by rw [W.size]; exact g1, g2, fun q2 b2 k2 O2 e => ?_, fun q2 q3 b2 k2 O2 b3 k3 O3 e2 e3 ne => ?_, g5, (g3 _ _ _ _ hq).2.2 h h' a sl v h1 h2 W g6⟩
  · rcases key _ _ _ _ e with ⟨rfl, rfl, rfl, rfl⟩ | ⟨ne, e⟩
    · exact ⟨hO, (g3 _ _ _ _ hq).2⟩
    · obtain ⟨m1, m2⟩ := g3 _ _ _ _ e
      refine ⟨m1.other W ?_, m2⟩
      have := g4 _ _ _ _ _ _ _ _ e hq ne
      omega
  · rcases key _ _ _ _ e2 with ⟨rfl, rfl, rfl, rfl⟩ | ⟨ne2, f2⟩
    · rcases key _ _ _ _ e3 with ⟨rfl, rfl, rfl, rfl⟩ | ⟨ne3, f3⟩
      · exact absurd rfl ne
      · exact g4 _ _ _ _ _ _ _ _ hq f3 ne
    · rcases key _ _ _ _ e3 with ⟨rfl, rfl, rfl, rfl⟩ | ⟨ne3, f3⟩
      · exact g4 _ _ _ _ _ _ _ _ f2 hq ne
      · exact g4 _ _ _ _ _ _ _ _ f2 f3 ne
theorem HS.ext (H : HS Z D n0 P os sz h) (E : Ext h h') : HS Z D n0 P os h'.size h' := by
  obtain ⟨g1, g2, g3, g4, g5, g6⟩ := H
  exact ⟨rfl, by have := E.1; omega, fun q2 b2 k2 O2 e => ⟨(g3 _ _ _ _ e).1.ext E, (g3 _ _ _ _ e).2⟩, g4, g5, g5 _ _ E g6⟩
theorem HS.new (cw : CW Z a0 D) (H : HS Z D n0 P os sz h) (hk : ∀ o ∈ os, o.2.1 = D.AS.length) (hP : ∀ b, n0 ≤ b → StB D b P) (E : Ext h h') (hs : h'.size = sz + 1) (A : Exa Z h' h.size D.C)
    (F : ∀ {O nm d : String} {ty : FieldType}, Laid Z a0 D.C O nm d → parseFieldDescriptor d = some ty → Fld Z h' h.size O nm d (defaultValue ty)) : HS Z D n0 P (os ++ [(sz, 0, zM)]) (sz + 1) h' := by
  obtain ⟨g1, g2, g3, g4, g5, g6⟩ := H
  subst g1
  obtain ⟨c1, c2, c3, c4, c5⟩ := cw
  have key : ∀ q2 b2 k2 O2, (os ++ [(h.size, 0, zM)])[q2]? = some (b2, k2, O2) → (q2 < os.length ∧ os[q2]? = some (b2, k2, O2)) ∨ (q2 = os.length ∧ b2 = h.size ∧ k2 = 0 ∧ O2 = zM) := fun q2 b2 k2 O2 e => by
    by_cases l : q2 < os.length
    · rw [List.getElem?_append_left l] at e; exact Or.inl ⟨l, e⟩
    · rw [List.getElem?_append_right (by omega)] at e
      have : q2 - os.length = 0 := by have := (List.getElem?_eq_some_iff.mp e).1; simp at this; omega
      rw [this] at e
      simp at e
      exact Or.inr ⟨by omega, e.1.symm, e.2.1.symm, e.2.2.symm⟩
  have low : ∀ q2 b2 k2 O2, os[q2]? = some (b2, k2, O2) → b2 + D.AS.length < h.size := fun q2 b2 k2 O2 e => (g3 _ _ _ _ e).1.top (hk _ (List.mem_of_getElem? e))
  refine ⟨hs, by omega, fun q2 b2 k2 O2 e => ?_, fun q2 q3 b2 k2 O2 b3 k3 O3 e2 e3 ne => ?_, g5, g5 _ _ E g6⟩
  · rcases key _ _ _ _ e with ⟨-, e⟩ | ⟨-, rfl, rfl, rfl⟩
    · exact ⟨(g3 _ _ _ _ e).1.ext E, (g3 _ _ _ _ e).2⟩
    · refine ⟨⟨A, fun i n d t hf => ?_, fun j n d t len ha => ?_, fun j n d t len ha hj => absurd hj (by omega)⟩, by omega, hP _ (by omega)⟩
      · obtain ⟨l1, p1, t1⟩ := c1 _ _ _ _ hf
        have := F l1 p1
        rw [dflt_fv t1] at this
        exact ⟨this, okT0 t1⟩
      · obtain ⟨l1, p1, t1, -⟩ := c2 _ _ _ _ _ ha
        have := F l1 p1
        rw [if_neg (by omega)]
        exact this
  · rcases key _ _ _ _ e2 with ⟨-, e2⟩ | ⟨n2, rfl, rfl, rfl⟩ <;> rcases key _ _ _ _ e3 with ⟨-, e3⟩ | ⟨n3, rfl, rfl, rfl⟩
    · exact g4 _ _ _ _ _ _ _ _ e2 e3 ne
    · exact Or.inl (low _ _ _ _ e2)
    · exact Or.inr (low _ _ _ _ e3)
    · omega
/-- all objects but the q-th, with P: what a call on the q-th keeps -/
def Rest (Z : State) (D : Cls) (P : Heap → Prop) (os : List OB) (q : Nat) (h : Heap) : Prop := P h ∧ ∀ (q' b k : Nat) (O : Mo), q' ≠ q → os[q']? = some (b, k, O) → Obj Z D b k O h
theorem HS.split (H : HS Z D n0 P os sz h) (hq : os[q]? = some (b, k, O)) : HS Z D n0 (Rest Z D P os q) [(b, k, O)] sz h := by
  obtain ⟨g1, g2, g3, g4, g5, g6⟩ := H
  refine ⟨g1, g2, fun q2 b2 k2 O2 e => ?_, fun q2 q3 b2 k2 O2 b3 k3 O3 e2 e3 ne => ?_, fun x x' E hx => ⟨g5 _ _ E hx.1, fun q' b' k' O' n e => (hx.2 _ _ _ _ n e).ext E⟩, g6, fun q' b' k' O' n e => (g3 _ _ _ _ e).1⟩
  · have : q2 = 0 := by have := (List.getElem?_eq_some_iff.mp e).1; simp at this; omega
    subst this
    simp at e
    obtain ⟨rfl, rfl, rfl⟩ := e
    refine ⟨(g3 _ _ _ _ hq).1, (g3 _ _ _ _ hq).2.1, fun x x' a sl v l1 l2 W hx => ⟨(g3 _ _ _ _ hq).2.2 x x' a sl v l1 l2 W hx.1, fun q' b' k' O' n e => (hx.2 _ _ _ _ n e).other W ?_⟩⟩
    have := g4 _ _ _ _ _ _ _ _ e hq n
    omega
  · have h2 : q2 = 0 := by have := (List.getElem?_eq_some_iff.mp e2).1; simp at this; omega
    have h3 : q3 = 0 := by have := (List.getElem?_eq_some_iff.mp e3).1; simp at this; omega
    omega
theorem HS.merge (H : HS Z D n0 P os sz h) (hq : os[q]? = some (b, k, O)) {k' : Nat} {O' : Mo} {sz' : Nat} (M : HS Z D n0 (Rest Z D P os q) [(b, k', O')] sz' h') : HS Z D n0 P (os.set q (b, k', O')) sz' h' := by
  obtain ⟨g1, g2, g3, g4, g5, g6⟩ := H
  obtain ⟨m1, m2, m3, m4, m5, m6⟩ := M
  have hlt : q < os.length := (List.getElem?_eq_some_iff.mp hq).1
  have key : ∀ q2 b2 k2 O2, (os.set q (b, k', O'))[q2]? = some (b2, k2, O2) → (q2 = q ∧ b2 = b ∧ k2 = k' ∧ O2 = O') ∨ (q2 ≠ q ∧ os[q2]? = some (b2, k2, O2)) := fun q2 b2 k2 O2 e => by
    rw [List.getElem?_set] at e
    split at e
    · rename_i e2; subst e2
      cases e; exact Or.inl ⟨rfl, rfl, rfl, rfl⟩
    · rename_i e2; exact Or.inr ⟨fun e3 => e2 e3.symm, e⟩
  refine ⟨m1, m2, fun q2 b2 k2 O2 e => ?_, fun q2 q3 b2 k2 O2 b3 k3 O3 e2 e3 ne => ?_, g5, m6.1⟩
  · rcases key _ _ _ _ e with ⟨rfl, rfl, rfl, rfl⟩ | ⟨ne, e⟩
    · exact ⟨(m3 0 _ _ _ rfl).1, (g3 _ _ _ _ hq).2⟩
    · exact ⟨m6.2 _ _ _ _ ne e, (g3 _ _ _ _ e).2⟩
  · rcases key _ _ _ _ e2 with ⟨rfl, rfl, rfl, rfl⟩ | ⟨ne2, f2⟩
    · rcases key _ _ _ _ e3 with ⟨rfl, rfl, rfl, rfl⟩ | ⟨ne3, f3⟩
      · exact absurd rfl ne
      · exact g4 _ _ _ _ _ _ _ _ hq f3 ne
    · rcases key _ _ _ _ e3 with ⟨rfl, rfl, rfl, rfl⟩ | ⟨ne3, f3⟩
      · exact g4 _ _ _ _ _ _ _ _ f2 hq ne
      · exact g4 _ _ _ _ _ _ _ _ f2 f3 ne
def RestA (Z : State) (D : Cls) (P : Heap → Prop) (os : List OB) (h : Heap) : Prop := P h ∧ ∀ (q' b k : Nat) (O : Mo), os[q']? = some (b, k, O) → Obj Z D b k O h
theorem HS.split0 (H : HS Z D n0 P os sz h) : HS Z D n0 (RestA Z D P os) [] sz h := by
  obtain ⟨g1, g2, g3, g4, g5, g6⟩ := H
  exact ⟨g1, g2, fun q2 b2 k2 O2 e => by simp at e, fun q2 q3 b2 k2 O2 b3 k3 O3 e2 e3 ne => by simp at e2, fun x x' E hx => ⟨g5 _ _ E hx.1, fun q' b' k' O' e => (hx.2 _ _ _ _ e).ext E⟩, g6, fun q' b' k' O' e => (g3 _ _ _ _ e).1⟩
theorem HS.merge0 (H : HS Z D n0 P os sz h) {sz' : Nat} (M : HS Z D n0 (RestA Z D P os) [] sz' h') : HS Z D n0 P os sz' h' := by
  obtain ⟨g1, g2, g3, g4, g5, g6⟩ := H
  obtain ⟨m1, m2, m3, m4, m5, m6⟩ := M
  exact ⟨m1, m2, fun q2 b2 k2 O2 e => ⟨m6.2 _ _ _ _ e, (g3 _ _ _ _ e).2⟩, g4, g5, m6.1⟩
end Heaps
section Runs
def Cx (Z : State) (y : MethodName) (bytes : ByteArray) (maxL : Nat) (ret : Option FieldType) (p : Program) (s : State) (m : MethodId) (meth : Method) (c : Code) : Prop :=
  p.tables.exec = Jvm.exec ∧ c.code = bytes ∧ c.maxLocals = maxL ∧ meth.sig.returnType = ret ∧ s.vm.findClass y.cls = some m.cls ∧ meth.name = y.name ∧ Z.Warmed39 s.vm ∧ meth.locks = false
/-- from here the method returns v, and leaves the objects os' -/
def Go (l : Launch) (Z : State) (D : Cls) (n0 : Nat) (P : Heap → Prop) (y : MethodName) (bytes : ByteArray) (maxL : Nat) (ret : Option FieldType) (R : Room)
    (pc : Nat) (L : List (Option V)) (S : List V) (os : List OB) (sz cu su : Nat) (Q : Option V → Heap → Prop) : Prop :=
  ∀ (p : Program) (e : Env) (s : State) (m : MethodId) (args : Array Value) (below : List Frame) (meth : Method) (c : Code), Cx Z y bytes maxL ret p s m meth c →
  ∀ (T : State) (locs : List Loc), Stand p l e R s m args below meth c T locs cu su → HS Z D n0 P os sz T.heap → sz = s.heap.size + cu → Fr n0 locs → ∀ Ls : Array Slot, Ls.size = maxL → LocRel L Ls → okS S →
  ∃ (s₂ : State) (locs' : List Loc) (cu' su' : Nat) (v : Option V), Steps p.tables e below (T.setTop (mkF m pc Ls (S.map rv))) s₂ ∧ s₂.status = .running ∧ Ended s₂ below (.returned (v.map rv)) ∧ s.WarmedH s₂.vm ∧
    s.sameButNew ({ s₂ with vm := s.vm } : State) locs' cu' su' ∧ cu' ≤ R.cells ∧ su' ≤ R.slots ∧ Q v s₂.heap ∧ Fr n0 locs' ∧ (∀ w, v = some w → okV w)
variable {l : Launch} {Z : State} {a0 : Array Value} {D : Cls} {n0 : Nat} {P : Heap → Prop} {y : MethodName} {bytes : ByteArray} {maxL : Nat} {ret : Option FieldType} {R : Room} {pc pc2 pc3 : Nat} {L L2 : List (Option V)} {S S2 : List V} {os os2 os' : List OB} {sz sz2 sz' cu cu2 su su2 : Nat} {v : Option V} {Q : Option V → Heap → Prop}
theorem okS_cons {u : V} (h : okV u) (hS : okS S) : okS (u :: S) := fun w hw => (List.mem_cons.mp hw).elim (fun e => e ▸ h) (hS w)
theorem okS_tail {u : V} (hS : okS (u :: S)) : okS S := fun w hw => hS w (List.mem_cons_of_mem _ hw)
theorem okS_head {u : V} (hS : okS (u :: S)) : okV u := hS u (List.mem_cons_self ..)
theorem Go.step (h : Go l Z D n0 P y bytes maxL ret R pc2 L2 S2 os2 sz2 cu2 su2 Q)
    (hs : ∀ (p : Program) (e : Env) (s : State) (m : MethodId) (args : Array Value) (below : List Frame) (meth : Method) (c : Code), Cx Z y bytes maxL ret p s m meth c →
      ∀ (T : State) (locs : List Loc), Stand p l e R s m args below meth c T locs cu su → HS Z D n0 P os sz T.heap → sz = s.heap.size + cu → Fr n0 locs → ∀ Ls : Array Slot, Ls.size = maxL → LocRel L Ls → okS S →
      ∃ (T2 : State) (locs2 : List Loc) (Ls2 : Array Slot), Stand p l e R s m args below meth c T2 locs2 cu2 su2 ∧ HS Z D n0 P os2 sz2 T2.heap ∧ sz2 = s.heap.size + cu2 ∧ Fr n0 locs2 ∧ Ls2.size = maxL ∧ LocRel L2 Ls2 ∧ okS S2 ∧
        ∀ target, Steps p.tables e below (T2.setTop (mkF m pc2 Ls2 (S2.map rv))) target → Steps p.tables e below (T.setTop (mkF m pc Ls (S.map rv))) target) :
    Go l Z D n0 P y bytes maxL ret R pc L S os sz cu su Q := by
  intro p e s m args below meth c hc T locs X H hz hF Ls hl hL hS
  obtain ⟨T2, locs2, Ls2, X2, H2, hz2, hF2, hl2, hL2, hS2, st⟩ := hs p e s m args below meth c hc T locs X H hz hF Ls hl hL hS
  obtain ⟨s2, locs', cu', su', v, g, r⟩ := h p e s m args below meth c hc T2 locs2 X2 H2 hz2 hF2 Ls2 hl2 hL2 hS2
  exact ⟨s2, locs', cu', su', v, st _ g, r⟩
theorem Go.pure (h : Go l Z D n0 P y bytes maxL ret R pc2 L S2 os sz cu su Q)
    (hok : ∀ Ls, LocRel L Ls → okS S → okS S2)
    (hs : ∀ (p : Program) (e : Env) (s : State) (m : MethodId) (args : Array Value) (below : List Frame) (meth : Method) (c : Code), Cx Z y bytes maxL ret p s m meth c →
      ∀ (T : State) (locs : List Loc), Stand p l e R s m args below meth c T locs cu su → HS Z D n0 P os sz T.heap → ∀ Ls : Array Slot, Ls.size = maxL → LocRel L Ls → okS S →
        ∀ target, Steps p.tables e below (T.setTop (mkF m pc2 Ls (S2.map rv))) target → Steps p.tables e below (T.setTop (mkF m pc Ls (S.map rv))) target) :
    Go l Z D n0 P y bytes maxL ret R pc L S os sz cu su Q :=
  Go.step h fun p e s m args below meth c hc T locs X H hz hF Ls hl hL hS => ⟨T, locs, Ls, X, H, hz, hF, hl, hL, hok Ls hL hS, hs p e s m args below meth c hc T locs X H Ls hl hL hS⟩
theorem Go.mask (bs : List Bool) (h : Go l Z D n0 P y bytes maxL ret R pc (mask bs L) S os sz cu su Q) : Go l Z D n0 P y bytes maxL ret R pc L S os sz cu su Q :=
  Go.step h fun p e s m args below meth c hc T locs X H hz hF Ls hl hL hS => ⟨T, locs, Ls, X, H, hz, hF, hl, hL.mask bs, hS, fun _ k => k⟩

theorem Go.iloadN {k : Fin 4} {x : Int} (hd : decode bytes pc = .ok (.iload_n k, 1)) (hp : pc + 1 = pc2) (hx : L[k.val]? = some (some (vI x))) (h : Go l Z D n0 P y bytes maxL ret R pc2 L (vI x :: S) os sz cu su Q) : Go l Z D n0 P y bytes maxL ret R pc L S os sz cu su Q := by
  subst hp
  refine Go.pure h (fun Ls hL hS => okS_cons (hL.2.2 _ _ hx).2 hS) (fun p e s m args below meth c hc T locs X H Ls hl hL hS target hr => ?_)
  exact XS.iloadN X.here hc.1 rfl (hb hc.2.1 hd) (hL.2.2 _ _ hx).1 hr
theorem Go.iload {k : Nat} {x : Int} (hd : decode bytes pc = .ok (.iload k, 2)) (hp : pc + 2 = pc2) (hx : L[k]? = some (some (vI x))) (h : Go l Z D n0 P y bytes maxL ret R pc2 L (vI x :: S) os sz cu su Q) : Go l Z D n0 P y bytes maxL ret R pc L S os sz cu su Q := by
  subst hp
  refine Go.pure h (fun Ls hL hS => okS_cons (hL.2.2 _ _ hx).2 hS) (fun p e s m args below meth c hc T locs X H Ls hl hL hS target hr => ?_)
  exact XS.iload X.here hc.1 rfl (hb hc.2.1 hd) (hL.2.2 _ _ hx).1 hr
theorem Go.lloadN {k : Fin 4} {x : Int} (hd : decode bytes pc = .ok (.lload_n k, 1)) (hp : pc + 1 = pc2) (hx : L[k.val]? = some (some (vJ x))) (h : Go l Z D n0 P y bytes maxL ret R pc2 L (vJ x :: S) os sz cu su Q) : Go l Z D n0 P y bytes maxL ret R pc L S os sz cu su Q := by
  subst hp
  refine Go.pure h (fun Ls hL hS => okS_cons (hL.2.2 _ _ hx).2 hS) (fun p e s m args below meth c hc T locs X H Ls hl hL hS target hr => ?_)
  exact XT.lloadN X.here hc.1 rfl (hb hc.2.1 hd) (hL.2.2 _ _ hx).1 hr
theorem Go.lload {k : Nat} {x : Int} (hd : decode bytes pc = .ok (.lload k, 2)) (hp : pc + 2 = pc2) (hx : L[k]? = some (some (vJ x))) (h : Go l Z D n0 P y bytes maxL ret R pc2 L (vJ x :: S) os sz cu su Q) : Go l Z D n0 P y bytes maxL ret R pc L S os sz cu su Q := by
  subst hp
  refine Go.pure h (fun Ls hL hS => okS_cons (hL.2.2 _ _ hx).2 hS) (fun p e s m args below meth c hc T locs X H Ls hl hL hS target hr => ?_)
  exact XT.lload X.here hc.1 rfl (hb hc.2.1 hd) (hL.2.2 _ _ hx).1 hr
theorem Go.aloadN {k : Fin 4} {x : Nat} (hd : decode bytes pc = .ok (.aload_n k, 1)) (hp : pc + 1 = pc2) (hx : L[k.val]? = some (some (vR x))) (h : Go l Z D n0 P y bytes maxL ret R pc2 L (vR x :: S) os sz cu su Q) : Go l Z D n0 P y bytes maxL ret R pc L S os sz cu su Q := by
  subst hp
  refine Go.pure h (fun Ls hL hS => okS_cons (hL.2.2 _ _ hx).2 hS) (fun p e s m args below meth c hc T locs X H Ls hl hL hS target hr => ?_)
  exact XS.aloadN X.here hc.1 rfl (hb hc.2.1 hd) (hL.2.2 _ _ hx).1 rfl hr
theorem Go.aload {k : Nat} {x : Nat} (hd : decode bytes pc = .ok (.aload k, 2)) (hp : pc + 2 = pc2) (hx : L[k]? = some (some (vR x))) (h : Go l Z D n0 P y bytes maxL ret R pc2 L (vR x :: S) os sz cu su Q) : Go l Z D n0 P y bytes maxL ret R pc L S os sz cu su Q := by
  subst hp
  refine Go.pure h (fun Ls hL hS => okS_cons (hL.2.2 _ _ hx).2 hS) (fun p e s m args below meth c hc T locs X H Ls hl hL hS target hr => ?_)
  exact XS.aload X.here hc.1 rfl (hb hc.2.1 hd) (hL.2.2 _ _ hx).1 rfl hr
theorem Go.istoreN {k : Fin 4} {x : Int} (hd : decode bytes pc = .ok (.istore_n k, 1)) (hp : pc + 1 = pc2) (hk : k.val < L.length) (hL2 : st1 L k.val (vI x) = L2) (h : Go l Z D n0 P y bytes maxL ret R pc2 L2 S os sz cu su Q) : Go l Z D n0 P y bytes maxL ret R pc L (vI x :: S) os sz cu su Q := by
  subst hp hL2
  refine Go.step h fun p e s m args below meth c hc T locs X H hz hF Ls hl hL hS => ?_
  obtain ⟨Ls', e1, e2⟩ := st1_ok hL hk (okS_head hS) (fun _ q => by cases q)
  exact ⟨T, locs, Ls', X, H, hz, hF, by rw [← hl, e2.1, hL.1]; simp [st2, st1_len], e2, okS_tail hS, fun target hr => XS.istoreN X.here hc.1 rfl (hb hc.2.1 hd) rfl e1 hr⟩
theorem Go.istore {k : Nat} {x : Int} (hd : decode bytes pc = .ok (.istore k, 2)) (hp : pc + 2 = pc2) (hk : k < L.length) (hL2 : st1 L k (vI x) = L2) (h : Go l Z D n0 P y bytes maxL ret R pc2 L2 S os sz cu su Q) : Go l Z D n0 P y bytes maxL ret R pc L (vI x :: S) os sz cu su Q := by
  subst hp hL2
  refine Go.step h fun p e s m args below meth c hc T locs X H hz hF Ls hl hL hS => ?_
  obtain ⟨Ls', e1, e2⟩ := st1_ok hL hk (okS_head hS) (fun _ q => by cases q)
  exact ⟨T, locs, Ls', X, H, hz, hF, by rw [← hl, e2.1, hL.1]; simp [st2, st1_len], e2, okS_tail hS, fun target hr => XS.istore X.here hc.1 rfl (hb hc.2.1 hd) rfl e1 hr⟩
theorem Go.astoreN {k : Fin 4} {x : Nat} (hd : decode bytes pc = .ok (.astore_n k, 1)) (hp : pc + 1 = pc2) (hk : k.val < L.length) (hL2 : st1 L k.val (vR x) = L2) (h : Go l Z D n0 P y bytes maxL ret R pc2 L2 S os sz cu su Q) : Go l Z D n0 P y bytes maxL ret R pc L (vR x :: S) os sz cu su Q := by
  subst hp hL2
  refine Go.step h fun p e s m args below meth c hc T locs X H hz hF Ls hl hL hS => ?_
  obtain ⟨Ls', e1, e2⟩ := st1_ok hL hk (okS_head hS) (fun _ q => by cases q)
  exact ⟨T, locs, Ls', X, H, hz, hF, by rw [← hl, e2.1, hL.1]; simp [st2, st1_len], e2, okS_tail hS, fun target hr => XS.astoreN X.here hc.1 rfl (hb hc.2.1 hd) rfl rfl e1 hr⟩
theorem Go.astore {k : Nat} {x : Nat} (hd : decode bytes pc = .ok (.astore k, 2)) (hp : pc + 2 = pc2) (hk : k < L.length) (hL2 : st1 L k (vR x) = L2) (h : Go l Z D n0 P y bytes maxL ret R pc2 L2 S os sz cu su Q) : Go l Z D n0 P y bytes maxL ret R pc L (vR x :: S) os sz cu su Q := by
  subst hp hL2
  refine Go.step h fun p e s m args below meth c hc T locs X H hz hF Ls hl hL hS => ?_
  obtain ⟨Ls', e1, e2⟩ := st1_ok hL hk (okS_head hS) (fun _ q => by cases q)
  exact ⟨T, locs, Ls', X, H, hz, hF, by rw [← hl, e2.1, hL.1]; simp [st2, st1_len], e2, okS_tail hS, fun target hr => XS.astore X.here hc.1 rfl (hb hc.2.1 hd) rfl rfl e1 hr⟩
theorem Go.lstoreN {k : Fin 4} {x : Int} (hd : decode bytes pc = .ok (.lstore_n k, 1)) (hp : pc + 1 = pc2) (hk : k.val + 1 < L.length) (hL2 : st2 L k.val x = L2) (h : Go l Z D n0 P y bytes maxL ret R pc2 L2 S os sz cu su Q) : Go l Z D n0 P y bytes maxL ret R pc L (vJ x :: S) os sz cu su Q := by
  subst hp hL2
  refine Go.step h fun p e s m args below meth c hc T locs X H hz hF Ls hl hL hS => ?_
  obtain ⟨Ls', e1, e2⟩ := st2_ok hL hk (okS_head hS)
  exact ⟨T, locs, Ls', X, H, hz, hF, by rw [← hl, e2.1, hL.1]; simp [st2, st1_len], e2, okS_tail hS, fun target hr => XT.lstoreN X.here hc.1 rfl (hb hc.2.1 hd) rfl e1 hr⟩
theorem Go.lstore {k : Nat} {x : Int} (hd : decode bytes pc = .ok (.lstore k, 2)) (hp : pc + 2 = pc2) (hk : k + 1 < L.length) (hL2 : st2 L k x = L2) (h : Go l Z D n0 P y bytes maxL ret R pc2 L2 S os sz cu su Q) : Go l Z D n0 P y bytes maxL ret R pc L (vJ x :: S) os sz cu su Q := by
  subst hp hL2
  refine Go.step h fun p e s m args below meth c hc T locs X H hz hF Ls hl hL hS => ?_
  obtain ⟨Ls', e1, e2⟩ := st2_ok hL hk (okS_head hS)
  exact ⟨T, locs, Ls', X, H, hz, hF, by rw [← hl, e2.1, hL.1]; simp [st2, st1_len], e2, okS_tail hS, fun target hr => XT.lstore X.here hc.1 rfl (hb hc.2.1 hd) rfl e1 hr⟩
theorem Go.iconst {i : Int} (hd : decode bytes pc = .ok (.iconst i, 1)) (hp : pc + 1 = pc2) (hi : R32 i) (h : Go l Z D n0 P y bytes maxL ret R pc2 L (vI i :: S) os sz cu su Q) : Go l Z D n0 P y bytes maxL ret R pc L S os sz cu su Q := by
  subst hp
  refine Go.pure h (fun Ls hL hS => okS_cons hi hS) (fun p e s m args below meth c hc T locs X H Ls hl hL hS target hr => ?_)
  exact XS.iconst X.here hc.1 rfl (hb hc.2.1 hd) hr
theorem Go.bipush {i : Int} (hd : decode bytes pc = .ok (.bipush i, 2)) (hp : pc + 2 = pc2) (hi : (Int8.ofInt i).toInt32 = Int32.ofInt i ∧ R32 i) (h : Go l Z D n0 P y bytes maxL ret R pc2 L (vI i :: S) os sz cu su Q) : Go l Z D n0 P y bytes maxL ret R pc L S os sz cu su Q := by
  subst hp
  refine Go.pure h (fun Ls hL hS => okS_cons hi.2 hS) (fun p e s m args below meth c hc T locs X H Ls hl hL hS target hr => ?_)
  exact XS.bipush X.here hc.1 rfl (hb hc.2.1 hd) (by rw [hi.1]; exact hr)
theorem Go.sipush {i : Int} (hd : decode bytes pc = .ok (.sipush i, 3)) (hp : pc + 3 = pc2) (hi : (Int16.ofInt i).toInt32 = Int32.ofInt i ∧ R32 i) (h : Go l Z D n0 P y bytes maxL ret R pc2 L (vI i :: S) os sz cu su Q) : Go l Z D n0 P y bytes maxL ret R pc L S os sz cu su Q := by
  subst hp
  refine Go.pure h (fun Ls hL hS => okS_cons hi.2 hS) (fun p e s m args below meth c hc T locs X H Ls hl hL hS target hr => ?_)
  exact XS.sipush X.here hc.1 rfl (hb hc.2.1 hd) (by rw [hi.1]; exact hr)
theorem Go.lconst {k : Fin 2} {i : Int} (hd : decode bytes pc = .ok (.lconst k, 1)) (hp : pc + 1 = pc2) (hi : Int64.ofNat k.val = Int64.ofInt i ∧ R64 i) (h : Go l Z D n0 P y bytes maxL ret R pc2 L (vJ i :: S) os sz cu su Q) : Go l Z D n0 P y bytes maxL ret R pc L S os sz cu su Q := by
  subst hp
  refine Go.pure h (fun Ls hL hS => okS_cons hi.2 hS) (fun p e s m args below meth c hc T locs X H Ls hl hL hS target hr => ?_)
  exact XT.lconst X.here hc.1 rfl (hb hc.2.1 hd) (by rw [hi.1]; exact hr)
theorem Go.ldc {k : Nat} {w : Int32} {i : Int} (hd : decode bytes pc = .ok (.ldc k, 2)) (hp : pc + 2 = pc2) {own : String} (ho : y.cls = own) (wc : (Cond.constant own k w).before a0 Z = true) (hi : w = Int32.ofInt i ∧ R32 i) (h : Go l Z D n0 P y bytes maxL ret R pc2 L (vI i :: S) os sz cu su Q) : Go l Z D n0 P y bytes maxL ret R pc L S os sz cu su Q := by
  subst hp
  refine Go.pure h (fun Ls hL hS => okS_cons hi.2 hS) (fun p e s m args below meth c hc T locs X H Ls hl hL hS target hr => ?_)
  subst ho
  exact X.ldcI hc.1 hc.2.2.2.2.1 (mv hc.2.2.2.2.2.2.1 wc) rfl (hb hc.2.1 hd) (by rw [hi.1]; exact hr)
theorem Go.ldc2 {k : Nat} {w : Int64} {i : Int} (hd : decode bytes pc = .ok (.ldc2_w k, 3)) (hp : pc + 3 = pc2) {own : String} (ho : y.cls = own) (wc : (Cond.constantLong own k w).before a0 Z = true) (hi : w = Int64.ofInt i ∧ R64 i) (h : Go l Z D n0 P y bytes maxL ret R pc2 L (vJ i :: S) os sz cu su Q) : Go l Z D n0 P y bytes maxL ret R pc L S os sz cu su Q := by
  subst hp
  refine Go.pure h (fun Ls hL hS => okS_cons hi.2 hS) (fun p e s m args below meth c hc T locs X H Ls hl hL hS target hr => ?_)
  subst ho
  exact X.ldc2J hc.1 hc.2.2.2.2.1 (mv hc.2.2.2.2.2.2.1 wc) rfl (hb hc.2.1 hd) (by rw [hi.1]; exact hr)
theorem Go.iadd {x y' : Int} (hd : decode bytes pc = .ok (.iadd, 1)) (hp : pc + 1 = pc2) (h : Go l Z D n0 P y bytes maxL ret R pc2 L (vI (w32 (x + y')) :: S) os sz cu su Q) : Go l Z D n0 P y bytes maxL ret R pc L (vI y' :: vI x :: S) os sz cu su Q := by
  subst hp
  refine Go.pure h (fun Ls hL hS => okS_cons (rw32 _) (okS_tail (okS_tail hS))) (fun p e s m args below meth c hc T locs X H Ls hl hL hS target hr => ?_)
  exact XS.iadd X.here hc.1 rfl (hb hc.2.1 hd) rfl (by rw [add32o]; exact hr)
theorem Go.isub {x y' : Int} (hd : decode bytes pc = .ok (.isub, 1)) (hp : pc + 1 = pc2) (h : Go l Z D n0 P y bytes maxL ret R pc2 L (vI (w32 (x - y')) :: S) os sz cu su Q) : Go l Z D n0 P y bytes maxL ret R pc L (vI y' :: vI x :: S) os sz cu su Q := by
  subst hp
  refine Go.pure h (fun Ls hL hS => okS_cons (rw32 _) (okS_tail (okS_tail hS))) (fun p e s m args below meth c hc T locs X H Ls hl hL hS target hr => ?_)
  exact XS.isub X.here hc.1 rfl (hb hc.2.1 hd) rfl (by rw [sub32o]; exact hr)
theorem Go.imul {x y' : Int} (hd : decode bytes pc = .ok (.imul, 1)) (hp : pc + 1 = pc2) (h : Go l Z D n0 P y bytes maxL ret R pc2 L (vI (w32 (x * y')) :: S) os sz cu su Q) : Go l Z D n0 P y bytes maxL ret R pc L (vI y' :: vI x :: S) os sz cu su Q := by
  subst hp
  refine Go.pure h (fun Ls hL hS => okS_cons (rw32 _) (okS_tail (okS_tail hS))) (fun p e s m args below meth c hc T locs X H Ls hl hL hS target hr => ?_)
  exact XS.imul X.here hc.1 rfl (hb hc.2.1 hd) rfl (by rw [mul32o]; exact hr)
theorem Go.iand {x y' : Int} (hd : decode bytes pc = .ok (.iand, 1)) (hp : pc + 1 = pc2) (h : Go l Z D n0 P y bytes maxL ret R pc2 L (vI (and32 x y') :: S) os sz cu su Q) : Go l Z D n0 P y bytes maxL ret R pc L (vI y' :: vI x :: S) os sz cu su Q := by
  subst hp
  refine Go.pure h (fun Ls hL hS => okS_cons (r32t _) (okS_tail (okS_tail hS))) (fun p e s m args below meth c hc T locs X H Ls hl hL hS target hr => ?_)
  exact XS.iand X.here hc.1 rfl (hb hc.2.1 hd) rfl (by rw [← of32 (Int32.ofInt x &&& Int32.ofInt y')]; exact hr)
theorem Go.ior {x y' : Int} (hd : decode bytes pc = .ok (.ior, 1)) (hp : pc + 1 = pc2) (h : Go l Z D n0 P y bytes maxL ret R pc2 L (vI (or32 x y') :: S) os sz cu su Q) : Go l Z D n0 P y bytes maxL ret R pc L (vI y' :: vI x :: S) os sz cu su Q := by
  subst hp
  refine Go.pure h (fun Ls hL hS => okS_cons (r32t _) (okS_tail (okS_tail hS))) (fun p e s m args below meth c hc T locs X H Ls hl hL hS target hr => ?_)
  exact XT.ior X.here hc.1 rfl (hb hc.2.1 hd) rfl (by rw [← of32 (Int32.ofInt x ||| Int32.ofInt y')]; exact hr)
theorem Go.ixor {x y' : Int} (hd : decode bytes pc = .ok (.ixor, 1)) (hp : pc + 1 = pc2) (h : Go l Z D n0 P y bytes maxL ret R pc2 L (vI (xor32 x y') :: S) os sz cu su Q) : Go l Z D n0 P y bytes maxL ret R pc L (vI y' :: vI x :: S) os sz cu su Q := by
  subst hp
  refine Go.pure h (fun Ls hL hS => okS_cons (r32t _) (okS_tail (okS_tail hS))) (fun p e s m args below meth c hc T locs X H Ls hl hL hS target hr => ?_)
  exact XT.ixor X.here hc.1 rfl (hb hc.2.1 hd) rfl (by rw [← of32 (Int32.ofInt x ^^^ Int32.ofInt y')]; exact hr)
theorem Go.ishl {x y' : Int} (hd : decode bytes pc = .ok (.ishl, 1)) (hp : pc + 1 = pc2) (h : Go l Z D n0 P y bytes maxL ret R pc2 L (vI (shl32 x y') :: S) os sz cu su Q) : Go l Z D n0 P y bytes maxL ret R pc L (vI y' :: vI x :: S) os sz cu su Q := by
  subst hp
  refine Go.pure h (fun Ls hL hS => okS_cons (r32t _) (okS_tail (okS_tail hS))) (fun p e s m args below meth c hc T locs X H Ls hl hL hS target hr => ?_)
  exact XT.ishl X.here hc.1 rfl (hb hc.2.1 hd) rfl (by rw [← of32 (Int32.ofInt x <<< (Int32.ofInt y' &&& 31))]; exact hr)
theorem Go.ishr {x y' : Int} (hd : decode bytes pc = .ok (.ishr, 1)) (hp : pc + 1 = pc2) (h : Go l Z D n0 P y bytes maxL ret R pc2 L (vI (shr32 x y') :: S) os sz cu su Q) : Go l Z D n0 P y bytes maxL ret R pc L (vI y' :: vI x :: S) os sz cu su Q := by
  subst hp
  refine Go.pure h (fun Ls hL hS => okS_cons (r32t _) (okS_tail (okS_tail hS))) (fun p e s m args below meth c hc T locs X H Ls hl hL hS target hr => ?_)
  exact XT.ishr X.here hc.1 rfl (hb hc.2.1 hd) rfl (by rw [← of32 (Int32.ofInt x >>> (Int32.ofInt y' &&& 31))]; exact hr)
theorem Go.iushr {x y' : Int} (hd : decode bytes pc = .ok (.iushr, 1)) (hp : pc + 1 = pc2) (h : Go l Z D n0 P y bytes maxL ret R pc2 L (vI (ushr32 x y') :: S) os sz cu su Q) : Go l Z D n0 P y bytes maxL ret R pc L (vI y' :: vI x :: S) os sz cu su Q := by
  subst hp
  refine Go.pure h (fun Ls hL hS => okS_cons (r32t _) (okS_tail (okS_tail hS))) (fun p e s m args below meth c hc T locs X H Ls hl hL hS target hr => ?_)
  exact XT.iushr X.here hc.1 rfl (hb hc.2.1 hd) rfl (by rw [← of32 (XT.ushr (Int32.ofInt x) (Int32.ofInt y'))]; exact hr)
theorem Go.ladd {x y' : Int} (hd : decode bytes pc = .ok (.ladd, 1)) (hp : pc + 1 = pc2) (h : Go l Z D n0 P y bytes maxL ret R pc2 L (vJ (w64 (x + y')) :: S) os sz cu su Q) : Go l Z D n0 P y bytes maxL ret R pc L (vJ y' :: vJ x :: S) os sz cu su Q := by
  subst hp
  refine Go.pure h (fun Ls hL hS => okS_cons (rw64 _) (okS_tail (okS_tail hS))) (fun p e s m args below meth c hc T locs X H Ls hl hL hS target hr => ?_)
  exact XT.ladd X.here hc.1 rfl (hb hc.2.1 hd) rfl (by rw [add64o]; exact hr)
theorem Go.lsub {x y' : Int} (hd : decode bytes pc = .ok (.lsub, 1)) (hp : pc + 1 = pc2) (h : Go l Z D n0 P y bytes maxL ret R pc2 L (vJ (w64 (x - y')) :: S) os sz cu su Q) : Go l Z D n0 P y bytes maxL ret R pc L (vJ y' :: vJ x :: S) os sz cu su Q := by
  subst hp
  refine Go.pure h (fun Ls hL hS => okS_cons (rw64 _) (okS_tail (okS_tail hS))) (fun p e s m args below meth c hc T locs X H Ls hl hL hS target hr => ?_)
  exact XT.lsub X.here hc.1 rfl (hb hc.2.1 hd) rfl (by rw [sub64o]; exact hr)
theorem Go.lmul {x y' : Int} (hd : decode bytes pc = .ok (.lmul, 1)) (hp : pc + 1 = pc2) (h : Go l Z D n0 P y bytes maxL ret R pc2 L (vJ (w64 (x * y')) :: S) os sz cu su Q) : Go l Z D n0 P y bytes maxL ret R pc L (vJ y' :: vJ x :: S) os sz cu su Q := by
  subst hp
  refine Go.pure h (fun Ls hL hS => okS_cons (rw64 _) (okS_tail (okS_tail hS))) (fun p e s m args below meth c hc T locs X H Ls hl hL hS target hr => ?_)
  exact XT.lmul X.here hc.1 rfl (hb hc.2.1 hd) rfl (by rw [mul64o]; exact hr)
theorem Go.land {x y' : Int} (hd : decode bytes pc = .ok (.land, 1)) (hp : pc + 1 = pc2) (h : Go l Z D n0 P y bytes maxL ret R pc2 L (vJ (and64 x y') :: S) os sz cu su Q) : Go l Z D n0 P y bytes maxL ret R pc L (vJ y' :: vJ x :: S) os sz cu su Q := by
  subst hp
  refine Go.pure h (fun Ls hL hS => okS_cons (r64t _) (okS_tail (okS_tail hS))) (fun p e s m args below meth c hc T locs X H Ls hl hL hS target hr => ?_)
  exact XT.land X.here hc.1 rfl (hb hc.2.1 hd) rfl (by rw [← of64 (Int64.ofInt x &&& Int64.ofInt y')]; exact hr)
theorem Go.lor {x y' : Int} (hd : decode bytes pc = .ok (.lor, 1)) (hp : pc + 1 = pc2) (h : Go l Z D n0 P y bytes maxL ret R pc2 L (vJ (or64 x y') :: S) os sz cu su Q) : Go l Z D n0 P y bytes maxL ret R pc L (vJ y' :: vJ x :: S) os sz cu su Q := by
  subst hp
  refine Go.pure h (fun Ls hL hS => okS_cons (r64t _) (okS_tail (okS_tail hS))) (fun p e s m args below meth c hc T locs X H Ls hl hL hS target hr => ?_)
  exact XT.lor X.here hc.1 rfl (hb hc.2.1 hd) rfl (by rw [← of64 (Int64.ofInt x ||| Int64.ofInt y')]; exact hr)
theorem Go.lxor {x y' : Int} (hd : decode bytes pc = .ok (.lxor, 1)) (hp : pc + 1 = pc2) (h : Go l Z D n0 P y bytes maxL ret R pc2 L (vJ (xor64 x y') :: S) os sz cu su Q) : Go l Z D n0 P y bytes maxL ret R pc L (vJ y' :: vJ x :: S) os sz cu su Q := by
  subst hp
  refine Go.pure h (fun Ls hL hS => okS_cons (r64t _) (okS_tail (okS_tail hS))) (fun p e s m args below meth c hc T locs X H Ls hl hL hS target hr => ?_)
  exact XT.lxor X.here hc.1 rfl (hb hc.2.1 hd) rfl (by rw [← of64 (Int64.ofInt x ^^^ Int64.ofInt y')]; exact hr)
theorem Go.idiv {x y' : Int} (hd : decode bytes pc = .ok (.idiv, 1)) (hp : pc + 1 = pc2) (hy : y' ≠ 0) (h : Go l Z D n0 P y bytes maxL ret R pc2 L (vI (w32 (x.tdiv y')) :: S) os sz cu su Q) : Go l Z D n0 P y bytes maxL ret R pc L (vI y' :: vI x :: S) os sz cu su Q := by
  subst hp
  refine Go.pure h (fun Ls hL hS => okS_cons (rw32 _) (okS_tail (okS_tail hS))) (fun p e s m args below meth c hc T locs X H Ls hl hL hS target hr => ?_)
  exact XS.idiv X.here hc.1 rfl (hb hc.2.1 hd) rfl (fun q => hy ((eq32 (okS_head hS) (by decide)).mp (q.trans rfl))) (by rw [div32o (okS_head (okS_tail hS)) (okS_head hS)]; exact hr)
theorem Go.irem {x y' : Int} (hd : decode bytes pc = .ok (.irem, 1)) (hp : pc + 1 = pc2) (hy : y' ≠ 0) (h : Go l Z D n0 P y bytes maxL ret R pc2 L (vI (w32 (x.tmod y')) :: S) os sz cu su Q) : Go l Z D n0 P y bytes maxL ret R pc L (vI y' :: vI x :: S) os sz cu su Q := by
  subst hp
  refine Go.pure h (fun Ls hL hS => okS_cons (rw32 _) (okS_tail (okS_tail hS))) (fun p e s m args below meth c hc T locs X H Ls hl hL hS target hr => ?_)
  exact XS.irem X.here hc.1 rfl (hb hc.2.1 hd) rfl (fun q => hy ((eq32 (okS_head hS) (by decide)).mp (q.trans rfl))) (by rw [rem32o (okS_head (okS_tail hS)) (okS_head hS)]; exact hr)
theorem Go.ldiv {x y' : Int} (hd : decode bytes pc = .ok (.ldiv, 1)) (hp : pc + 1 = pc2) (hy : y' ≠ 0) (h : Go l Z D n0 P y bytes maxL ret R pc2 L (vJ (w64 (x.tdiv y')) :: S) os sz cu su Q) : Go l Z D n0 P y bytes maxL ret R pc L (vJ y' :: vJ x :: S) os sz cu su Q := by
  subst hp
  refine Go.pure h (fun Ls hL hS => okS_cons (rw64 _) (okS_tail (okS_tail hS))) (fun p e s m args below meth c hc T locs X H Ls hl hL hS target hr => ?_)
  exact XT.ldiv X.here hc.1 rfl (hb hc.2.1 hd) rfl (fun q => hy ((eq64 (okS_head hS) (by decide)).mp (q.trans rfl))) (by rw [div64o (okS_head (okS_tail hS)) (okS_head hS)]; exact hr)
theorem Go.lrem {x y' : Int} (hd : decode bytes pc = .ok (.lrem, 1)) (hp : pc + 1 = pc2) (hy : y' ≠ 0) (h : Go l Z D n0 P y bytes maxL ret R pc2 L (vJ (w64 (x.tmod y')) :: S) os sz cu su Q) : Go l Z D n0 P y bytes maxL ret R pc L (vJ y' :: vJ x :: S) os sz cu su Q := by
  subst hp
  refine Go.pure h (fun Ls hL hS => okS_cons (rw64 _) (okS_tail (okS_tail hS))) (fun p e s m args below meth c hc T locs X H Ls hl hL hS target hr => ?_)
  exact XT.lrem X.here hc.1 rfl (hb hc.2.1 hd) rfl (fun q => hy ((eq64 (okS_head hS) (by decide)).mp (q.trans rfl))) (by rw [rem64o (okS_head (okS_tail hS)) (okS_head hS)]; exact hr)
theorem Go.lshl {x y' : Int} (hd : decode bytes pc = .ok (.lshl, 1)) (hp : pc + 1 = pc2) (h : Go l Z D n0 P y bytes maxL ret R pc2 L (vJ (shl64 x y') :: S) os sz cu su Q) : Go l Z D n0 P y bytes maxL ret R pc L (vI y' :: vJ x :: S) os sz cu su Q := by
  subst hp
  refine Go.pure h (fun Ls hL hS => okS_cons (r64t _) (okS_tail (okS_tail hS))) (fun p e s m args below meth c hc T locs X H Ls hl hL hS target hr => ?_)
  exact XT.lshl X.here hc.1 rfl (hb hc.2.1 hd) rfl (by rw [← of64 (Int64.ofInt x <<< ((Int32.ofInt y').toInt64 &&& 63))]; exact hr)
theorem Go.lshr {x y' : Int} (hd : decode bytes pc = .ok (.lshr, 1)) (hp : pc + 1 = pc2) (h : Go l Z D n0 P y bytes maxL ret R pc2 L (vJ (shr64 x y') :: S) os sz cu su Q) : Go l Z D n0 P y bytes maxL ret R pc L (vI y' :: vJ x :: S) os sz cu su Q := by
  subst hp
  refine Go.pure h (fun Ls hL hS => okS_cons (r64t _) (okS_tail (okS_tail hS))) (fun p e s m args below meth c hc T locs X H Ls hl hL hS target hr => ?_)
  exact XT.lshr X.here hc.1 rfl (hb hc.2.1 hd) rfl (by rw [← of64 (Int64.ofInt x >>> ((Int32.ofInt y').toInt64 &&& 63))]; exact hr)
theorem Go.lushr {x y' : Int} (hd : decode bytes pc = .ok (.lushr, 1)) (hp : pc + 1 = pc2) (h : Go l Z D n0 P y bytes maxL ret R pc2 L (vJ (ushr64 x y') :: S) os sz cu su Q) : Go l Z D n0 P y bytes maxL ret R pc L (vI y' :: vJ x :: S) os sz cu su Q := by
  subst hp
  refine Go.pure h (fun Ls hL hS => okS_cons (r64t _) (okS_tail (okS_tail hS))) (fun p e s m args below meth c hc T locs X H Ls hl hL hS target hr => ?_)
  exact XT.lushr X.here hc.1 rfl (hb hc.2.1 hd) rfl (by rw [← of64 (XT.ushrL (Int64.ofInt x) (Int32.ofInt y'))]; exact hr)
theorem Go.ineg {x : Int} (hd : decode bytes pc = .ok (.ineg, 1)) (hp : pc + 1 = pc2) (h : Go l Z D n0 P y bytes maxL ret R pc2 L (vI (w32 (-x)) :: S) os sz cu su Q) : Go l Z D n0 P y bytes maxL ret R pc L (vI x :: S) os sz cu su Q := by
  subst hp
  refine Go.pure h (fun Ls hL hS => okS_cons (rw32 _) (okS_tail hS)) (fun p e s m args below meth c hc T locs X H Ls hl hL hS target hr => ?_)
  exact XS.ineg X.here hc.1 rfl (hb hc.2.1 hd) rfl (by rw [neg32o]; exact hr)
theorem Go.lneg {x : Int} (hd : decode bytes pc = .ok (.lneg, 1)) (hp : pc + 1 = pc2) (h : Go l Z D n0 P y bytes maxL ret R pc2 L (vJ (w64 (-x)) :: S) os sz cu su Q) : Go l Z D n0 P y bytes maxL ret R pc L (vJ x :: S) os sz cu su Q := by
  subst hp
  refine Go.pure h (fun Ls hL hS => okS_cons (rw64 _) (okS_tail hS)) (fun p e s m args below meth c hc T locs X H Ls hl hL hS target hr => ?_)
  exact XT.lneg X.here hc.1 rfl (hb hc.2.1 hd) rfl (by rw [neg64o]; exact hr)
theorem Go.i2l {x : Int} (hd : decode bytes pc = .ok (.i2l, 1)) (hp : pc + 1 = pc2) (h : Go l Z D n0 P y bytes maxL ret R pc2 L (vJ x :: S) os sz cu su Q) : Go l Z D n0 P y bytes maxL ret R pc L (vI x :: S) os sz cu su Q := by
  subst hp
  refine Go.pure h (fun Ls hL hS => okS_cons (show R64 x from ⟨by have := (okS_head hS).1; omega, by have := (okS_head hS).2; omega⟩) (okS_tail hS)) (fun p e s m args below meth c hc T locs X H Ls hl hL hS target hr => ?_)
  exact XT.i2l X.here hc.1 rfl (hb hc.2.1 hd) rfl (by rw [i2l_o (okS_head hS)]; exact hr)
theorem Go.l2i {x : Int} (hd : decode bytes pc = .ok (.l2i, 1)) (hp : pc + 1 = pc2) (h : Go l Z D n0 P y bytes maxL ret R pc2 L (vI (w32 x) :: S) os sz cu su Q) : Go l Z D n0 P y bytes maxL ret R pc L (vJ x :: S) os sz cu su Q := by
  subst hp
  refine Go.pure h (fun Ls hL hS => okS_cons (rw32 _) (okS_tail hS)) (fun p e s m args below meth c hc T locs X H Ls hl hL hS target hr => ?_)
  exact XT.l2i X.here hc.1 rfl (hb hc.2.1 hd) rfl (by rw [l2i_o]; exact hr)
theorem Go.i2b {x : Int} (hd : decode bytes pc = .ok (.i2b, 1)) (hp : pc + 1 = pc2) (h : Go l Z D n0 P y bytes maxL ret R pc2 L (vI (w8 x) :: S) os sz cu su Q) : Go l Z D n0 P y bytes maxL ret R pc L (vI x :: S) os sz cu su Q := by
  subst hp
  refine Go.pure h (fun Ls hL hS => okS_cons (show R32 (w8 x) from ⟨by have := r8 x; omega, by have := r8 x; omega⟩) (okS_tail hS)) (fun p e s m args below meth c hc T locs X H Ls hl hL hS target hr => ?_)
  exact XT.i2b X.here hc.1 rfl (hb hc.2.1 hd) rfl (by rw [i2b_o]; exact hr)
theorem Go.dup {u : V} (hd : decode bytes pc = .ok (.dup, 1)) (hp : pc + 1 = pc2) (hu : (rv u).category = 1) (h : Go l Z D n0 P y bytes maxL ret R pc2 L (u :: u :: S) os sz cu su Q) : Go l Z D n0 P y bytes maxL ret R pc L (u :: S) os sz cu su Q := by
  subst hp
  refine Go.pure h (fun Ls hL hS => okS_cons (okS_head hS) hS) (fun p e s m args below meth c hc T locs X H Ls hl hL hS target hr => ?_)
  exact XS.dup X.here hc.1 rfl (hb hc.2.1 hd) rfl hu hr
theorem Go.pop {u : V} (hd : decode bytes pc = .ok (.pop, 1)) (hp : pc + 1 = pc2) (hu : (rv u).category = 1) (h : Go l Z D n0 P y bytes maxL ret R pc2 L S os sz cu su Q) : Go l Z D n0 P y bytes maxL ret R pc L (u :: S) os sz cu su Q := by
  subst hp
  refine Go.pure h (fun Ls hL hS => okS_tail hS) (fun p e s m args below meth c hc T locs X H Ls hl hL hS target hr => ?_)
  exact XT.pop X.here hc.1 rfl (hb hc.2.1 hd) rfl hu hr
theorem Go.dup2 {u w : V} (hd : decode bytes pc = .ok (.dup2, 1)) (hp : pc + 1 = pc2) (hu : (rv u).category = 1) (hw : (rv w).category = 1) (h : Go l Z D n0 P y bytes maxL ret R pc2 L (u :: w :: u :: w :: S) os sz cu su Q) : Go l Z D n0 P y bytes maxL ret R pc L (u :: w :: S) os sz cu su Q := by
  subst hp
  refine Go.pure h (fun Ls hL hS => okS_cons (okS_head hS) (okS_cons (okS_head (okS_tail hS)) hS)) (fun p e s m args below meth c hc T locs X H Ls hl hL hS target hr => ?_)
  exact XT.dup2 X.here hc.1 rfl (hb hc.2.1 hd) rfl hu hw hr
theorem Go.iinc {k : Nat} {i x : Int} (hd : decode bytes pc = .ok (.iinc k i, 3)) (hp : pc + 3 = pc2) (hx : L[k]? = some (some (vI x))) (hL2 : st1 L k (vI (w32 (x + i))) = L2) (h : Go l Z D n0 P y bytes maxL ret R pc2 L2 S os sz cu su Q) : Go l Z D n0 P y bytes maxL ret R pc L S os sz cu su Q := by
  subst hp hL2
  refine Go.step h fun p e s m args below meth c hc T locs X H hz hF Ls hl hL hS => ?_
  obtain ⟨Ls', e1, e2⟩ := st1_ok (u := vI (w32 (x + i))) hL (List.getElem?_eq_some_iff.mp hx).1 (rw32 _) (fun _ q => by cases q)
  exact ⟨T, locs, Ls', X, H, hz, hF, by rw [← hl, e2.1, hL.1]; simp [st1_len], e2, hS, fun target hr => XS.iinc X.here hc.1 rfl (hb hc.2.1 hd) (hL.2.2 _ _ hx).1 (by rw [add32o]; exact e1) hr⟩
def cmp : ClassFile.Cond → Int → Int → Prop
  | .eq, x, y => x = y
  | .ne, x, y => ¬ x = y
  | .lt, x, y => x < y
  | .ge, x, y => y ≤ x
  | .gt, x, y => y < x
  | .le, x, y => x ≤ y
theorem cmp_icmp {cd : ClassFile.Cond} {x y : Int} (hx : R32 x) (hy : R32 y) : if_icmp.holds cd (Int32.ofInt x) (Int32.ofInt y) = true ↔ cmp cd x y := by
  cases cd <;> simp [if_icmp.holds, cmp, eq32 hx hy, lt32 hx hy, lt32 hy hx, Int32.le_iff_toInt_le, ti32 hx, ti32 hy]
theorem cmp_if {cd : ClassFile.Cond} {x : Int} (hx : R32 x) : ifCond.holds cd (Int32.ofInt x) = true ↔ cmp cd x 0 := by
  have h0 : R32 0 := by decide
  have e0 : (0 : Int32) = Int32.ofInt 0 := rfl
  have e1 : (Int32.ofInt 0).toInt = 0 := rfl
  cases cd <;> simp only [ifCond.holds, cmp, e0, beq_iff_eq, bne_iff_ne, ne_eq, decide_eq_true_eq, gt_iff_lt, ge_iff_le, eq32 hx h0, lt32 hx h0, lt32 h0 hx, Int32.le_iff_toInt_le, ti32 hx, e1]
theorem cmp_l {cd : ClassFile.Cond} {x y : Int} (hx : R64 x) (hy : R64 y) : ifCond.holds cd (XT.cmpL (Int64.ofInt x) (Int64.ofInt y)) = true ↔ cmp cd x y := by
  have key : XT.cmpL (Int64.ofInt x) (Int64.ofInt y) = if y < x then 1 else if x = y then 0 else -1 := by
    unfold XT.cmpL; simp only [lt64 hy hx, eq64 hx hy]
  rw [key]
  by_cases a : y < x
  · rw [if_pos a]; cases cd <;> simp [ifCond.holds, cmp] <;> omega
  · rw [if_neg a]
    by_cases b : x = y
    · rw [if_pos b]; cases cd <;> simp [ifCond.holds, cmp] <;> omega
    · rw [if_neg b]; cases cd <;> simp [ifCond.holds, cmp] <;> omega
theorem Go.icmpT {cd : ClassFile.Cond} {o x y' : Int} (hd : decode bytes pc = .ok (.if_icmp cd o, 3)) (hc' : cmp cd x y') (ho : 0 ≤ (pc : Int) + o) (hp : ((pc : Int) + o).toNat = pc2) (h : Go l Z D n0 P y bytes maxL ret R pc2 L S os sz cu su Q) : Go l Z D n0 P y bytes maxL ret R pc L (vI y' :: vI x :: S) os sz cu su Q :=
  Go.pure h (fun Ls hL hS => okS_tail (okS_tail hS)) fun p e s m args below meth c hc T locs X H Ls hl hL hS target hr => XS.icmpYes X.here hc.1 rfl rfl (hb hc.2.1 hd) rfl ((cmp_icmp (okS_head (okS_tail hS)) (okS_head hS)).mpr hc') ho hp hr
theorem Go.icmpF {cd : ClassFile.Cond} {o x y' : Int} (hd : decode bytes pc = .ok (.if_icmp cd o, 3)) (hc' : ¬ cmp cd x y') (hp : pc + 3 = pc2) (h : Go l Z D n0 P y bytes maxL ret R pc2 L S os sz cu su Q) : Go l Z D n0 P y bytes maxL ret R pc L (vI y' :: vI x :: S) os sz cu su Q := by
  subst hp
  exact Go.pure h (fun Ls hL hS => okS_tail (okS_tail hS)) fun p e s m args below meth c hc T locs X H Ls hl hL hS target hr => XS.icmpNo X.here hc.1 rfl (hb hc.2.1 hd) rfl (Bool.eq_false_iff.mpr fun q => hc' ((cmp_icmp (okS_head (okS_tail hS)) (okS_head hS)).mp q)) hr
theorem Go.ifT {cd : ClassFile.Cond} {o x : Int} (hd : decode bytes pc = .ok (.ifCond cd o, 3)) (hc' : cmp cd x 0) (ho : 0 ≤ (pc : Int) + o) (hp : ((pc : Int) + o).toNat = pc2) (h : Go l Z D n0 P y bytes maxL ret R pc2 L S os sz cu su Q) : Go l Z D n0 P y bytes maxL ret R pc L (vI x :: S) os sz cu su Q :=
  Go.pure h (fun Ls hL hS => okS_tail hS) fun p e s m args below meth c hc T locs X H Ls hl hL hS target hr => XS.ifYes X.here hc.1 rfl rfl (hb hc.2.1 hd) rfl ((cmp_if (okS_head hS)).mpr hc') ho hp hr
theorem Go.ifF {cd : ClassFile.Cond} {o x : Int} (hd : decode bytes pc = .ok (.ifCond cd o, 3)) (hc' : ¬ cmp cd x 0) (hp : pc + 3 = pc2) (h : Go l Z D n0 P y bytes maxL ret R pc2 L S os sz cu su Q) : Go l Z D n0 P y bytes maxL ret R pc L (vI x :: S) os sz cu su Q := by
  subst hp
  exact Go.pure h (fun Ls hL hS => okS_tail hS) fun p e s m args below meth c hc T locs X H Ls hl hL hS target hr => XS.ifNo X.here hc.1 rfl (hb hc.2.1 hd) rfl (Bool.eq_false_iff.mpr fun q => hc' ((cmp_if (okS_head hS)).mp q)) hr
theorem Go.lcmpT {cd : ClassFile.Cond} {o x y' : Int} (hd : decode bytes pc = .ok (.lcmp, 1)) (hd2 : decode bytes pc3 = .ok (.ifCond cd o, 3)) (hp3 : pc + 1 = pc3) (hc' : cmp cd x y') (ho : 0 ≤ (pc3 : Int) + o) (hp : ((pc3 : Int) + o).toNat = pc2) (h : Go l Z D n0 P y bytes maxL ret R pc2 L S os sz cu su Q) : Go l Z D n0 P y bytes maxL ret R pc L (vJ y' :: vJ x :: S) os sz cu su Q := by
  subst hp3
  exact Go.pure h (fun Ls hL hS => okS_tail (okS_tail hS)) fun p e s m args below meth c hc T locs X H Ls hl hL hS target hr => XT.lcmp X.here hc.1 rfl (hb hc.2.1 hd) rfl (XS.ifYes X.here hc.1 rfl (pc0 := pc + 1) rfl (hb hc.2.1 hd2) rfl ((cmp_l (okS_head (okS_tail hS)) (okS_head hS)).mpr hc') ho hp hr)
theorem Go.lcmpF {cd : ClassFile.Cond} {o x y' : Int} (hd : decode bytes pc = .ok (.lcmp, 1)) (hd2 : decode bytes pc3 = .ok (.ifCond cd o, 3)) (hp3 : pc + 1 = pc3) (hc' : ¬ cmp cd x y') (hp : pc3 + 3 = pc2) (h : Go l Z D n0 P y bytes maxL ret R pc2 L S os sz cu su Q) : Go l Z D n0 P y bytes maxL ret R pc L (vJ y' :: vJ x :: S) os sz cu su Q := by
  subst hp3 hp
  exact Go.pure h (fun Ls hL hS => okS_tail (okS_tail hS)) fun p e s m args below meth c hc T locs X H Ls hl hL hS target hr => XT.lcmp X.here hc.1 rfl (hb hc.2.1 hd) rfl (XS.ifNo X.here hc.1 rfl (hb hc.2.1 hd2) rfl (Bool.eq_false_iff.mpr fun q => hc' ((cmp_l (okS_head (okS_tail hS)) (okS_head hS)).mp q)) hr)
theorem Go.goto {o : Int} (hd : decode bytes pc = .ok (.goto o, 3)) (ho : 0 ≤ (pc : Int) + o) (hp : ((pc : Int) + o).toNat = pc2) (h : Go l Z D n0 P y bytes maxL ret R pc2 L S os sz cu su Q) : Go l Z D n0 P y bytes maxL ret R pc L S os sz cu su Q :=
  Go.pure h (fun Ls hL hS => hS) fun p e s m args below meth c hc T locs X H Ls hl hL hS target hr => XS.goto X.here hc.1 rfl rfl (hb hc.2.1 hd) ho hp hr
theorem Go.getf {k q b kk i : Nat} {O : Mo} {n d : String} {t : FieldType} {x : Int} (hd : decode bytes pc = .ok (.getfield k, 3)) (hp : pc + 3 = pc2) {own C : String} (ho : y.cls = own) (hC : D.C = C) (w : (Cond.fieldLink own k C n d).before a0 Z = true) (hq : os[q]? = some (b, kk, O)) {u : V} (hf : (i, n, d, t) ∈ D.FS) (hx : O 0 i = x) (hu : tv t x = u)
    (h : Go l Z D n0 P y bytes maxL ret R pc2 L (u :: S) os sz cu su Q) : Go l Z D n0 P y bytes maxL ret R pc L (vR b :: S) os sz cu su Q := by
  subst hp hx hu ho hC
  refine Go.step h fun p e s m args below meth c hc T locs X H hz hF Ls hl hL hS => ?_
  obtain ⟨f1, f2⟩ := (H.2.2.1 _ _ _ _ hq).1.2.1 _ _ _ _ hf
  obtain ⟨T', X', eT, st⟩ := getF X hc.1 hc.2.2.2.2.2.2.1 hc.2.2.2.2.1 (host := "") (Or.inl w) Via.refl rfl f1 (g := mkF m pc Ls (rv (vR b) :: S.map rv)) rfl rfl (hb hc.2.1 hd)
  exact ⟨T', locs, Ls, X', by rw [eT]; exact H, hz, hF, hl, hL, okS_cons (okV_tv f2) (okS_tail hS), fun target hr => st _ (by rw [List.map_cons, rv_tv] at hr; exact hr)⟩
theorem Go.geta {k q b kk j len : Nat} {O : Mo} {n d : String} {t : FieldType} {a : Nat} (hd : decode bytes pc = .ok (.getfield k, 3)) (hp : pc + 3 = pc2) {own C : String} (ho : y.cls = own) (hC : D.C = C) (w : (Cond.fieldLink own k C n d).before a0 Z = true) (hq : os[q]? = some (b, kk, O)) (ha : D.AS[j]? = some (n, d, t, len)) (hj : j < kk) (hx : b + j + 1 = a)
    (h : Go l Z D n0 P y bytes maxL ret R pc2 L (vR a :: S) os sz cu su Q) : Go l Z D n0 P y bytes maxL ret R pc L (vR b :: S) os sz cu su Q := by
  subst hp hx ho hC
  refine Go.step h fun p e s m args below meth c hc T locs X H hz hF Ls hl hL hS => ?_
  have f1 := (H.2.2.1 _ _ _ _ hq).1.2.2.1 _ _ _ _ _ ha
  rw [if_pos hj] at f1
  obtain ⟨T', X', eT, st⟩ := getF X hc.1 hc.2.2.2.2.2.2.1 hc.2.2.2.2.1 (host := "") (Or.inl w) Via.refl rfl f1 (g := mkF m pc Ls (rv (vR b) :: S.map rv)) rfl rfl (hb hc.2.1 hd)
  exact ⟨T', locs, Ls, X', by rw [eT]; exact H, hz, hF, hl, hL, okS_cons trivial (okS_tail hS), fun target hr => st _ hr⟩
theorem Go.putf {k q b kk i kx : Nat} {O : Mo} {n d : String} {t : FieldType} {x x' : Int} (cw : CW Z a0 D) (hd : decode bytes pc = .ok (.putfield k, 3)) (hp : pc + 3 = pc2) {own C : String} (ho : y.cls = own) (hC : D.C = C) (w : (Cond.fieldLink own k C n d).before a0 Z = true) (wl : (Cond.lays C C n d).before a0 Z = true ∨ ((Cond.laysFinal C C n d).before a0 Z = true ∧ own = C ∧ y.name = "<init>")) (wi : (Cond.instantiable C kx).before a0 Z = true) (hq : os[q]? = some (b, kk, O)) {u : V} (hf : (i, n, d, t) ∈ D.FS) (hu : tv t x = u) (hx : norm t x = x') (hos : os.set q (b, kk, upd O 0 i x') = os2)
    (h : Go l Z D n0 P y bytes maxL ret R pc2 L S os2 sz cu su Q) : Go l Z D n0 P y bytes maxL ret R pc L (u :: vR b :: S) os sz cu su Q := by
  subst hp hx hos hu ho hC
  refine Go.step h fun p e s m args below meth c hc T locs X H hz hF Ls hl hL hS => ?_
  have HO := (H.2.2.1 _ _ _ _ hq).1
  obtain ⟨f1, f2⟩ := HO.2.1 _ _ _ _ hf
  obtain ⟨-, p1, t1⟩ := cw.1 _ _ _ _ hf
  obtain ⟨m1, m2, m3⟩ := norm_ok t1 (okS_head hS)
  obtain ⟨T', h', X', eT, W, st⟩ := putFN X hc.1 hc.2.2.2.2.2.2.1 hc.2.2.2.2.1 w Via.refl rfl f1 HO.1 (wl.imp id fun q => ⟨q.1, q.2.1, hc.2.2.2.2.2.1.trans q.2.2⟩) wi p1 m1 m2 (g := mkF m pc Ls (fv t x :: rv (vR b) :: S.map rv)) rfl rfl (hb hc.2.1 hd)
  subst eT
  exact ⟨T', _, Ls, X', H.wr hq (Nat.le_refl _) (Nat.le_add_right _ _) W (HO.putf cw hf W m3), hz, Fr.snoc X' hF (H.2.2.1 _ _ _ _ hq).2.1, hl, hL, okS_tail (okS_tail hS), fun target hr => by rw [List.map_cons, rv_tv]; exact st _ hr⟩
theorem Go.mkarr {k q b kk len kx : Nat} {O : Mo} {n d : String} {aty : ArrayType} {x : Int} (cw : CW Z a0 D) (hd : decode bytes pc = .ok (.newarray aty, 2)) (hd2 : decode bytes pc3 = .ok (.putfield k, 3)) (hp3 : pc + 2 = pc3) (hp : pc3 + 3 = pc2) (wa : (Cond.arrayClass (newarray.typeOf aty)).before a0 Z = true) {own C : String} (ho : y.cls = own) (hC : D.C = C) (w : (Cond.fieldLink own k C n d).before a0 Z = true) (wl : (Cond.lays C C n d).before a0 Z = true ∨ ((Cond.laysFinal C C n d).before a0 Z = true ∧ own = C ∧ y.name = "<init>")) (wi : (Cond.instantiable C kx).before a0 Z = true)
    (hq : os[q]? = some (b, kk, O)) (ha : D.AS[kk]? = some (n, d, newarray.typeOf aty, len)) (hx : x = (len : Int)) (hO : ∀ i, O (kk + 1) i = 0) (hsz : sz = b + kk + 1) (hcu : cu + 1 ≤ R.cells) (hsu : su + len ≤ R.slots) (hos : os.set q (b, kk + 1, O) = os2) (hs2 : sz + 1 = sz2) (hcu2 : cu + 1 = cu2) (hsu2 : su + len = su2)
    (h : Go l Z D n0 P y bytes maxL ret R pc2 L S os2 sz2 cu2 su2 Q) : Go l Z D n0 P y bytes maxL ret R pc L (vI x :: vR b :: S) os sz cu su Q := by
  subst hp hp3 hx hos hs2 hcu2 hsu2 hsz ho hC
  refine Go.step h fun p e s m args below meth c hc T locs X H hz hF Ls hl hL hS => ?_
  have HO := (H.2.2.1 _ _ _ _ hq).1
  obtain ⟨-, p1, t1, lb⟩ := cw.2.1 _ _ _ _ _ ha
  have hr32 : R32 (len : Int) := ⟨by omega, by omega⟩
  have en : (Int32.ofInt (len : Int)).toNatClampNeg = len := by unfold Int32.toNatClampNeg; rw [ti32 hr32]; simp
  obtain ⟨T1, h1, cA, X1, e1, E1, A1, st1'⟩ := newP X hc.1 hc.2.2.2.2.2.2.1 wa rfl (g := mkF m pc Ls (rv (vI (len : Int)) :: rv (vR b) :: S.map rv)) rfl (hb hc.2.1 hd) rfl (by rw [show (0 : Int32) = Int32.ofInt 0 from rfl, lt32 hr32 (by decide)]; omega) (cap := len) (Nat.le_of_eq en) lb hcu hsu
  have hsz1 : T.heap.size = b + kk + 1 := H.1
  rw [hsz1] at A1 st1'
  subst e1
  have H1 := H.ext E1
  have f1 := (HO.ext E1).2.2.1 _ _ _ _ _ ha
  have hs1 : T1.heap.size = b + kk + 1 + 1 := by
    have u1 := X1.heapSize
    have u2 : b + kk + 1 < T1.heap.size := A1.lt
    have u3 : T1.heap.size ≤ s.heap.size + (cu + 1) := u1
    have u4 : b + kk + 1 = s.heap.size + cu := hz
    omega
  obtain ⟨T', h', X', eT, W, st⟩ := putFN X1 hc.1 hc.2.2.2.2.2.2.1 hc.2.2.2.2.1 w Via.refl rfl f1 (HO.ext E1).1 (wl.imp id fun q => ⟨q.1, q.2.1, hc.2.2.2.2.2.1.trans q.2.2⟩) wi p1 (v := .ref (b + kk + 1)) (v' := .ref (b + kk + 1)) rfl rfl (g := mkF m (pc + 2) Ls (.ref (b + kk + 1) :: rv (vR b) :: S.map rv)) rfl rfl (hb hc.2.1 hd2)
  subst eT
  have hlt : kk < D.AS.length := (List.getElem?_eq_some_iff.mp ha).1
  rw [hs1] at H1
  exact ⟨T', _, Ls, X', H1.wr hq (Nat.le_refl _) (Nat.le_add_right _ _) W (HO.mkArr cw ha E1 A1 W hO), by omega, Fr.snoc X' hF (H.2.2.1 _ _ _ _ hq).2.1, hl, hL, okS_tail (okS_tail hS), fun target hr => st1' _ (st _ hr)⟩
theorem idx_ok {x : Int} {len : Nat} (hx : R32 x) (h : 0 ≤ x ∧ x < (len : Int)) : ¬ (Int32.ofInt x < 0 ∨ len ≤ (Int32.ofInt x).toNatClampNeg) ∧ (Int32.ofInt x).toNatClampNeg = x.toNat := by
  have e : (Int32.ofInt x).toNatClampNeg = x.toNat := by unfold Int32.toNatClampNeg; rw [ti32 hx]
  refine ⟨?_, e⟩
  rw [e, show (0 : Int32) = Int32.ofInt 0 from rfl, lt32 hx (by decide)]
  omega
theorem Go.iald {q b kk j len a : Nat} {O : Mo} {n d : String} {x z : Int} (hd : decode bytes pc = .ok (.iaload, 1)) (hp : pc + 1 = pc2) (hq : os[q]? = some (b, kk, O)) (ha : D.AS[j]? = some (n, d, .int, len)) (hj : j < kk) (hadr : b + j + 1 = a) (hx : 0 ≤ x ∧ x < (len : Int)) (hz : O (j + 1) x.toNat = z)
    (h : Go l Z D n0 P y bytes maxL ret R pc2 L (vI z :: S) os sz cu su Q) : Go l Z D n0 P y bytes maxL ret R pc L (vI x :: vR a :: S) os sz cu su Q := by
  subst hp hz hadr
  refine Go.step h fun p e s m args below meth c hc T locs X H hz hF Ls hl hL hS => ?_
  obtain ⟨cl, A, hs, g⟩ := (H.2.2.1 _ _ _ _ hq).1.2.2.2 _ _ _ _ _ ha hj
  obtain ⟨i1, i2⟩ := idx_ok (okS_head hS) hx
  obtain ⟨g1, g2⟩ := g x.toNat (by omega)
  exact ⟨T, locs, Ls, X, H, hz, hF, hl, hL, okS_cons (okV_tv (t := .int) g2) (okS_tail (okS_tail hS)), fun target hr => X.iaload hc.1 A.1 (State.isArrayOf_alike hc.2.2.2.2.2.2.1.alike A.2.1) A.2.2 (by rw [hs]; exact i1) (by rw [i2]; exact g1) (g := mkF m pc Ls (rv (vI x) :: rv (vR (b + j + 1)) :: S.map rv)) rfl rfl (hb hc.2.1 hd) _ hr⟩
theorem Go.lald {q b kk j len a : Nat} {O : Mo} {n d : String} {x z : Int} (hd : decode bytes pc = .ok (.laload, 1)) (hp : pc + 1 = pc2) (hq : os[q]? = some (b, kk, O)) (ha : D.AS[j]? = some (n, d, .long, len)) (hj : j < kk) (hadr : b + j + 1 = a) (hx : 0 ≤ x ∧ x < (len : Int)) (hz : O (j + 1) x.toNat = z)
    (h : Go l Z D n0 P y bytes maxL ret R pc2 L (vJ z :: S) os sz cu su Q) : Go l Z D n0 P y bytes maxL ret R pc L (vI x :: vR a :: S) os sz cu su Q := by
  subst hp hz hadr
  refine Go.step h fun p e s m args below meth c hc T locs X H hz hF Ls hl hL hS => ?_
  obtain ⟨cl, A, hs, g⟩ := (H.2.2.1 _ _ _ _ hq).1.2.2.2 _ _ _ _ _ ha hj
  obtain ⟨i1, i2⟩ := idx_ok (okS_head hS) hx
  obtain ⟨g1, g2⟩ := g x.toNat (by omega)
  exact ⟨T, locs, Ls, X, H, hz, hF, hl, hL, okS_cons (okV_tv (t := .long) g2) (okS_tail (okS_tail hS)), fun target hr => X.laload hc.1 A.1 (State.isArrayOf_alike hc.2.2.2.2.2.2.1.alike A.2.1) A.2.2 (by rw [hs]; exact i1) (by rw [i2]; exact g1) (g := mkF m pc Ls (rv (vI x) :: rv (vR (b + j + 1)) :: S.map rv)) rfl rfl (hb hc.2.1 hd) _ hr⟩
theorem Go.bald {q b kk j len a : Nat} {O : Mo} {n d : String} {x z : Int} (hd : decode bytes pc = .ok (.baload, 1)) (hp : pc + 1 = pc2) (hq : os[q]? = some (b, kk, O)) (ha : D.AS[j]? = some (n, d, .byte, len)) (hj : j < kk) (hadr : b + j + 1 = a) (hx : 0 ≤ x ∧ x < (len : Int)) (hz : O (j + 1) x.toNat = z)
    (h : Go l Z D n0 P y bytes maxL ret R pc2 L (vI z :: S) os sz cu su Q) : Go l Z D n0 P y bytes maxL ret R pc L (vI x :: vR a :: S) os sz cu su Q := by
  subst hp hz hadr
  refine Go.step h fun p e s m args below meth c hc T locs X H hz hF Ls hl hL hS => ?_
  obtain ⟨cl, A, hs, g⟩ := (H.2.2.1 _ _ _ _ hq).1.2.2.2 _ _ _ _ _ ha hj
  obtain ⟨i1, i2⟩ := idx_ok (okS_head hS) hx
  obtain ⟨g1, g2⟩ := g x.toNat (by omega)
  exact ⟨T, locs, Ls, X, H, hz, hF, hl, hL, okS_cons (okV_tv (t := .byte) g2) (okS_tail (okS_tail hS)), fun target hr => X.baloadBytes hc.1 A.1 (State.isArrayOf_alike hc.2.2.2.2.2.2.1.alike A.2.1) A.2.2 (by rw [hs]; exact i1) (by rw [i2]; exact g1) (g := mkF m pc Ls (rv (vI x) :: rv (vR (b + j + 1)) :: S.map rv)) rfl rfl (hb hc.2.1 hd) _ hr⟩
theorem Go.zald {q b kk j len a : Nat} {O : Mo} {n d : String} {x z : Int} (hd : decode bytes pc = .ok (.baload, 1)) (hp : pc + 1 = pc2) (hq : os[q]? = some (b, kk, O)) (ha : D.AS[j]? = some (n, d, .boolean, len)) (hj : j < kk) (hadr : b + j + 1 = a) (hx : 0 ≤ x ∧ x < (len : Int)) (hz : O (j + 1) x.toNat = z)
    (h : Go l Z D n0 P y bytes maxL ret R pc2 L (vI z :: S) os sz cu su Q) : Go l Z D n0 P y bytes maxL ret R pc L (vI x :: vR a :: S) os sz cu su Q := by
  subst hp hz hadr
  refine Go.step h fun p e s m args below meth c hc T locs X H hz hF Ls hl hL hS => ?_
  obtain ⟨cl, A, hs, g⟩ := (H.2.2.1 _ _ _ _ hq).1.2.2.2 _ _ _ _ _ ha hj
  obtain ⟨i1, i2⟩ := idx_ok (okS_head hS) hx
  obtain ⟨g1, g2⟩ := g x.toNat (by omega)
  exact ⟨T, locs, Ls, X, H, hz, hF, hl, hL, okS_cons (okV_tv (t := .boolean) g2) (okS_tail (okS_tail hS)), fun target hr => X.baloadBooleans hc.1 A.1 (State.isArrayOf_alike hc.2.2.2.2.2.2.1.alike A.2.1) A.2.2 (by rw [hs]; exact i1) (by rw [i2]; exact g1) (g := mkF m pc Ls (rv (vI x) :: rv (vR (b + j + 1)) :: S.map rv)) rfl rfl (hb hc.2.1 hd) _ hr⟩
theorem Go.iast {q b kk j len a : Nat} {O : Mo} {n d : String} {x z z' : Int} (hd : decode bytes pc = .ok (.iastore, 1)) (hp : pc + 1 = pc2) (hq : os[q]? = some (b, kk, O)) (ha : D.AS[j]? = some (n, d, .int, len)) (hj : j < kk) (hadr : b + j + 1 = a) (hx : 0 ≤ x ∧ x < (len : Int)) (hz : norm .int z = z') (hos : os.set q (b, kk, upd O (j + 1) x.toNat z') = os2)
    (h : Go l Z D n0 P y bytes maxL ret R pc2 L S os2 sz cu su Q) : Go l Z D n0 P y bytes maxL ret R pc L (vI z :: vI x :: vR a :: S) os sz cu su Q := by
  subst hp hz hadr hos
  refine Go.step h fun p e s m args below meth c hc T locs X H hz hF Ls hl hL hS => ?_
  have HO := (H.2.2.1 _ _ _ _ hq).1
  obtain ⟨cl, A, hs, g⟩ := HO.2.2.2 _ _ _ _ _ ha hj
  obtain ⟨i1, i2⟩ := idx_ok (okS_head (okS_tail hS)) hx
  have m3 := (norm_ok (t := .int) (x := z) (by simp [pt]) (okS_head hS)).2.2
  obtain ⟨T', h', X', eT, W, st⟩ := stI X hc.1 hc.2.2.2.2.2.2.1 rfl A (by rw [hs]; exact i1) (g := mkF m pc Ls (rv (vI z) :: rv (vI x) :: rv (vR (b + j + 1)) :: S.map rv)) rfl rfl (hb hc.2.1 hd)
  subst eT
  have hlt : j < D.AS.length := (List.getElem?_eq_some_iff.mp ha).1
  have W2 := W
  rw [i2] at W2
  exact ⟨T', _, Ls, X', H.wr hq (by omega) (by omega) W2 (HO.puta ha hj (by omega) W2 m3), hz, Fr.snoc X' hF (by have := (H.2.2.1 _ _ _ _ hq).2.1; omega), hl, hL, okS_tail (okS_tail (okS_tail hS)), fun target hr => st _ hr⟩
theorem Go.last {q b kk j len a : Nat} {O : Mo} {n d : String} {x z z' : Int} (hd : decode bytes pc = .ok (.lastore, 1)) (hp : pc + 1 = pc2) (hq : os[q]? = some (b, kk, O)) (ha : D.AS[j]? = some (n, d, .long, len)) (hj : j < kk) (hadr : b + j + 1 = a) (hx : 0 ≤ x ∧ x < (len : Int)) (hz : norm .long z = z') (hos : os.set q (b, kk, upd O (j + 1) x.toNat z') = os2)
    (h : Go l Z D n0 P y bytes maxL ret R pc2 L S os2 sz cu su Q) : Go l Z D n0 P y bytes maxL ret R pc L (vJ z :: vI x :: vR a :: S) os sz cu su Q := by
  subst hp hz hadr hos
  refine Go.step h fun p e s m args below meth c hc T locs X H hz hF Ls hl hL hS => ?_
  have HO := (H.2.2.1 _ _ _ _ hq).1
  obtain ⟨cl, A, hs, g⟩ := HO.2.2.2 _ _ _ _ _ ha hj
  obtain ⟨i1, i2⟩ := idx_ok (okS_head (okS_tail hS)) hx
  have m3 := (norm_ok (t := .long) (x := z) (by simp [pt]) (okS_head hS)).2.2
  obtain ⟨T', h', X', eT, W, st⟩ := stJ X hc.1 hc.2.2.2.2.2.2.1 rfl A (by rw [hs]; exact i1) (g := mkF m pc Ls (rv (vJ z) :: rv (vI x) :: rv (vR (b + j + 1)) :: S.map rv)) rfl rfl (hb hc.2.1 hd)
  subst eT
  have hlt : j < D.AS.length := (List.getElem?_eq_some_iff.mp ha).1
  have W2 := W
  rw [i2] at W2
  exact ⟨T', _, Ls, X', H.wr hq (by omega) (by omega) W2 (HO.puta ha hj (by omega) W2 m3), hz, Fr.snoc X' hF (by have := (H.2.2.1 _ _ _ _ hq).2.1; omega), hl, hL, okS_tail (okS_tail (okS_tail hS)), fun target hr => st _ hr⟩
theorem Go.bast {q b kk j len a : Nat} {O : Mo} {n d : String} {x z z' : Int} (hd : decode bytes pc = .ok (.bastore, 1)) (hp : pc + 1 = pc2) (hq : os[q]? = some (b, kk, O)) (ha : D.AS[j]? = some (n, d, .byte, len)) (hj : j < kk) (hadr : b + j + 1 = a) (hx : 0 ≤ x ∧ x < (len : Int)) (hz : norm .byte z = z') (hos : os.set q (b, kk, upd O (j + 1) x.toNat z') = os2)
    (h : Go l Z D n0 P y bytes maxL ret R pc2 L S os2 sz cu su Q) : Go l Z D n0 P y bytes maxL ret R pc L (vI z :: vI x :: vR a :: S) os sz cu su Q := by
  subst hp hz hadr hos
  refine Go.step h fun p e s m args below meth c hc T locs X H hz hF Ls hl hL hS => ?_
  have HO := (H.2.2.1 _ _ _ _ hq).1
  obtain ⟨cl, A, hs, g⟩ := HO.2.2.2 _ _ _ _ _ ha hj
  obtain ⟨i1, i2⟩ := idx_ok (okS_head (okS_tail hS)) hx
  have m3 := (norm_ok (t := .byte) (x := z) (by simp [pt]) (okS_head hS)).2.2
  obtain ⟨T', h', X', eT, W, st⟩ := stB X hc.1 hc.2.2.2.2.2.2.1 rfl A (by rw [hs]; exact i1) (g := mkF m pc Ls (rv (vI z) :: rv (vI x) :: rv (vR (b + j + 1)) :: S.map rv)) rfl rfl (hb hc.2.1 hd)
  rw [show nar .byte (Int32.ofInt z) = (Int32.ofInt z).toInt8.toInt32 from rfl, i2b_o] at W
  subst eT
  have hlt : j < D.AS.length := (List.getElem?_eq_some_iff.mp ha).1
  have W2 := W
  rw [i2] at W2
  exact ⟨T', _, Ls, X', H.wr hq (by omega) (by omega) W2 (HO.puta ha hj (by omega) W2 m3), hz, Fr.snoc X' hF (by have := (H.2.2.1 _ _ _ _ hq).2.1; omega), hl, hL, okS_tail (okS_tail (okS_tail hS)), fun target hr => st _ hr⟩
theorem Go.zast {q b kk j len a : Nat} {O : Mo} {n d : String} {x z z' : Int} (hd : decode bytes pc = .ok (.bastore, 1)) (hp : pc + 1 = pc2) (hq : os[q]? = some (b, kk, O)) (ha : D.AS[j]? = some (n, d, .boolean, len)) (hj : j < kk) (hadr : b + j + 1 = a) (hx : 0 ≤ x ∧ x < (len : Int)) (hz : norm .boolean z = z') (hos : os.set q (b, kk, upd O (j + 1) x.toNat z') = os2)
    (h : Go l Z D n0 P y bytes maxL ret R pc2 L S os2 sz cu su Q) : Go l Z D n0 P y bytes maxL ret R pc L (vI z :: vI x :: vR a :: S) os sz cu su Q := by
  subst hp hz hadr hos
  refine Go.step h fun p e s m args below meth c hc T locs X H hz hF Ls hl hL hS => ?_
  have HO := (H.2.2.1 _ _ _ _ hq).1
  obtain ⟨cl, A, hs, g⟩ := HO.2.2.2 _ _ _ _ _ ha hj
  obtain ⟨i1, i2⟩ := idx_ok (okS_head (okS_tail hS)) hx
  have m3 := (norm_ok (t := .boolean) (x := z) (by simp [pt]) (okS_head hS)).2.2
  obtain ⟨T', h', X', eT, W, st⟩ := stZ X hc.1 hc.2.2.2.2.2.2.1 rfl A (by rw [hs]; exact i1) (g := mkF m pc Ls (rv (vI z) :: rv (vI x) :: rv (vR (b + j + 1)) :: S.map rv)) rfl rfl (hb hc.2.1 hd)
  rw [show nar .boolean (Int32.ofInt z) = Int32.ofInt z &&& 1 from rfl, and1_o] at W
  subst eT
  have hlt : j < D.AS.length := (List.getElem?_eq_some_iff.mp ha).1
  have W2 := W
  rw [i2] at W2
  exact ⟨T', _, Ls, X', H.wr hq (by omega) (by omega) W2 (HO.puta ha hj (by omega) W2 m3), hz, Fr.snoc X' hF (by have := (H.2.2.1 _ _ _ _ hq).2.1; omega), hl, hL, okS_tail (okS_tail (okS_tail hS)), fun target hr => st _ hr⟩
/-- an int array that was there at the start: read only -/
def Scr (Z : State) (a : Nat) (xs : List Int) (h : Heap) : Prop := ∃ c : Cell, Arr Z h a c .int ∧ c.slots.size = xs.length ∧ ∀ (i : Nat) (x : Int), xs[i]? = some x → c.slots[i]? = some (.int (Int32.ofInt x)) ∧ R32 x
theorem Go.sald {a : Nat} {xs : List Int} {x z : Int} (hd : decode bytes pc = .ok (.iaload, 1)) (hp : pc + 1 = pc2) (hP : ∀ h, P h → Scr Z a xs h) (hx : 0 ≤ x ∧ x < (xs.length : Int)) (hz : xs.getD x.toNat 0 = z)
    (h : Go l Z D n0 P y bytes maxL ret R pc2 L (vI z :: S) os sz cu su Q) : Go l Z D n0 P y bytes maxL ret R pc L (vI x :: vR a :: S) os sz cu su Q := by
  subst hp hz
  refine Go.step h fun p e s m args below meth c hc T locs X H hz hF Ls hl hL hS => ?_
  obtain ⟨cl, A, hs, g⟩ := hP _ H.2.2.2.2.2
  obtain ⟨i1, i2⟩ := idx_ok (okS_head hS) hx
  have hlt : x.toNat < xs.length := by omega
  have e : xs[x.toNat]? = some (xs.getD x.toNat 0) := by simp [List.getD, hlt]
  obtain ⟨g1, g2⟩ := g _ _ e
  exact ⟨T, locs, Ls, X, H, hz, hF, hl, hL, okS_cons g2 (okS_tail (okS_tail hS)), fun target hr => X.iaload hc.1 A.1 (State.isArrayOf_alike hc.2.2.2.2.2.2.1.alike A.2.1) A.2.2 (by rw [hs]; exact i1) (by rw [i2]; exact g1) (g := mkF m pc Ls (rv (vI x) :: rv (vR a) :: S.map rv)) rfl rfl (hb hc.2.1 hd) _ hr⟩
theorem Go.alen {a : Nat} {xs : List Int} (hd : decode bytes pc = .ok (.arraylength, 1)) (hp : pc + 1 = pc2) (hP : ∀ h, P h → Scr Z a xs h) (hb32 : xs.length < 2147483648)
    (h : Go l Z D n0 P y bytes maxL ret R pc2 L (vI (xs.length : Int) :: S) os sz cu su Q) : Go l Z D n0 P y bytes maxL ret R pc L (vR a :: S) os sz cu su Q := by
  subst hp
  refine Go.step h fun p e s m args below meth c hc T locs X H hz hF Ls hl hL hS => ?_
  obtain ⟨cl, A, hs, g⟩ := hP _ H.2.2.2.2.2
  exact ⟨T, locs, Ls, X, H, hz, hF, hl, hL, okS_cons (show R32 (xs.length : Int) from ⟨by omega, by omega⟩) (okS_tail hS), fun target hr => X.arraylength hc.1 A.1 (State.isArrayOf_alike hc.2.2.2.2.2.2.1.alike A.2.1) (g := mkF m pc Ls (rv (vR a) :: S.map rv)) rfl rfl (hb hc.2.1 hd) _ (by rw [hs, show xs.length.toInt32 = Int32.ofInt (xs.length : Int) from rfl]; exact hr)⟩
theorem Go.newo {k kx : Nat} (cw : CW Z a0 D) (hd : decode bytes pc = .ok (.new k, 3)) (hp : pc + 3 = pc2) {own C : String} (ho : y.cls = own) (hC : D.C = C) (w : (Cond.classLink own k C).before a0 Z = true) (wi : (Cond.instantiable C kx).before a0 Z = true) (wz : (Cond.initialized C).before a0 Z = true) (hk : ∀ o ∈ os, o.2.1 = D.AS.length) (hP : ∀ b, n0 ≤ b → StB D b P) (hcu : cu + 1 ≤ R.cells) (hsu : su + kx ≤ R.slots) (hos : os ++ [(sz, 0, zM)] = os2) (hs2 : sz + 1 = sz2) (hcu2 : cu + 1 = cu2) (hsu2 : su + kx = su2)
    (h : Go l Z D n0 P y bytes maxL ret R pc2 L (vR sz :: S) os2 sz2 cu2 su2 Q) : Go l Z D n0 P y bytes maxL ret R pc L S os sz cu su Q := by
  subst hp hos hs2 hcu2 hsu2 ho hC
  refine Go.step h fun p e s m args below meth c hc T locs X H hz hF Ls hl hL hS => ?_
  obtain ⟨T', h', X', eT, E, A, F, -, st⟩ := newO X hc.1 hc.2.2.2.2.2.2.1 hc.2.2.2.2.1 w wi wz rfl (g := mkF m pc Ls (S.map rv)) rfl (hb hc.2.1 hd) hcu hsu
  subst eT
  have hs : T'.heap.size = sz + 1 := by
    have u1 : T'.heap.size ≤ s.heap.size + (cu + 1) := X'.heapSize
    have u2 : T.heap.size < T'.heap.size := A.lt
    have u3 : T.heap.size = sz := H.1
    omega
  refine ⟨T', locs, Ls, X', H.new cw hk hP E hs A F, by omega, hF, hl, hL, okS_cons trivial hS, fun target hr => st _ ?_⟩
  rw [H.1]; exact hr
theorem Go.inito {k b : Nat} (hd : decode bytes pc = .ok (.invokespecial k, 3)) (hp : pc + 3 = pc2) {own : String} (ho : y.cls = own) (w1 : (Cond.methodLink own k Lib.objectInit).before a0 Z = true) (w2 : (Cond.instanceMethod Lib.objectInit).before a0 Z = true) (w3 : (Cond.code Lib.objectInit ⟨#[0xb1]⟩ 1 none).before a0 Z = true) (hf : 1 ≤ R.frames) (hlo : (S.map fun u => (rv u).category).sum + 12 ≤ R.locals)
    (h : Go l Z D n0 P y bytes maxL ret R pc2 L S os sz cu su Q) : Go l Z D n0 P y bytes maxL ret R pc L (vR b :: S) os sz cu su Q := by
  subst hp ho
  refine Go.step h fun p e s m args below meth c hc T locs X H hz hF Ls hl hL hS => ?_
  obtain ⟨T', X', eT, st⟩ := initO X hc.1 hc.2.2.2.2.2.2.1 hc.2.2.2.2.1 w1 w2 w3 rfl (g := mkF m pc Ls (rv (vR b) :: S.map rv)) rfl (hl.trans hc.2.2.1.symm) rfl (hb hc.2.1 hd) hf (W := (S.map fun u => (rv u).category).sum) (by rw [List.map_map]; show 2 * 0 + _ ≤ _; exact Nat.le_of_eq (Nat.zero_add _)) hlo
  exact ⟨T', locs, Ls, X', by rw [eT]; exact H, hz, hF, hl, hL, okS_tail hS, st⟩
theorem Go.reti {x : Int} (hd : decode bytes pc = .ok (.ireturn, 1)) (hret : ret = some .int) (hcu : cu ≤ R.cells) (hsu : su ≤ R.slots) (hq : ∀ h, HS Z D n0 P os sz h → Q (some (vI x)) h) : Go l Z D n0 P y bytes maxL ret R pc L (vI x :: S) os sz cu su Q := by
  intro p e s m args below meth c hc T locs X H hz hF Ls hl hL hS
  have hlk : meth.locks = false := hc.2.2.2.2.2.2.2
  have hr0 : meth.sig.returnType = some .int := hc.2.2.2.1.trans hret
  obtain ⟨fs, hr, hrun, hended, hW, hsame⟩ := X.leave (v := some (rv (vI x))) (fun h => by rw [hr0] at h; cases h) hlk
  exact ⟨_, locs, cu, su, some (vI x), retI X hc.1 hr0 (hb hc.2.1 hd) hr, hrun, hended, hW, hsame, hcu, hsu, hq _ H, hF, fun w hw => by cases hw; exact okS_head hS⟩
theorem Go.retz {x : Int} {x' : Int} (hd : decode bytes pc = .ok (.ireturn, 1)) (hret : ret = some .boolean) (hx : x % 2 = x') (hcu : cu ≤ R.cells) (hsu : su ≤ R.slots) (hq : ∀ h, HS Z D n0 P os sz h → Q (some (vI x')) h) : Go l Z D n0 P y bytes maxL ret R pc L (vI x :: S) os sz cu su Q := by
  intro p e s m args below meth c hc T locs X H hz hF Ls hl hL hS
  have hlk : meth.locks = false := hc.2.2.2.2.2.2.2
  have hr0 : meth.sig.returnType = some .boolean := hc.2.2.2.1.trans hret
  obtain ⟨fs, hr, hrun, hended, hW, hsame⟩ := X.leave (v := some (rv (vI x'))) (fun h => by rw [hr0] at h; cases h) hlk
  subst hx
  exact ⟨_, locs, cu, su, some (vI (x % 2)), retN X hc.1 (t := .boolean) hr0 (by simp) (hb hc.2.1 hd) (by rw [show nar .boolean (Int32.ofInt x) = Int32.ofInt x &&& 1 from rfl, and1_o]; exact hr), hrun, hended, hW, hsame, hcu, hsu, hq _ H, hF, fun w hw => by cases hw; exact ⟨by omega, by omega⟩⟩
theorem Go.retj {x : Int} (hd : decode bytes pc = .ok (.lreturn, 1)) (hret : ret = some .long) (hcu : cu ≤ R.cells) (hsu : su ≤ R.slots) (hq : ∀ h, HS Z D n0 P os sz h → Q (some (vJ x)) h) : Go l Z D n0 P y bytes maxL ret R pc L (vJ x :: S) os sz cu su Q := by
  intro p e s m args below meth c hc T locs X H hz hF Ls hl hL hS
  have hlk : meth.locks = false := hc.2.2.2.2.2.2.2
  have hr0 : meth.sig.returnType = some .long := hc.2.2.2.1.trans hret
  obtain ⟨fs, hr, hrun, hended, hW, hsame⟩ := X.leave (v := some (rv (vJ x))) (fun h => by rw [hr0] at h; cases h) hlk
  exact ⟨_, locs, cu, su, some (vJ x), retOut X hc.1 hr0 rfl (Or.inr (Or.inl ⟨rfl, rfl, _, rfl⟩)) (hb hc.2.1 hd) hr, hrun, hended, hW, hsame, hcu, hsu, hq _ H, hF, fun w hw => by cases hw; exact okS_head hS⟩
theorem Go.retv (hd : decode bytes pc = .ok (.return_, 1)) (hret : ret = none) (hcu : cu ≤ R.cells) (hsu : su ≤ R.slots) (hq : ∀ h, HS Z D n0 P os sz h → Q none h) : Go l Z D n0 P y bytes maxL ret R pc L [] os sz cu su Q := by
  intro p e s m args below meth c hc T locs X H hz hF Ls hl hL hS
  have hlk : meth.locks = false := hc.2.2.2.2.2.2.2
  have hr0 : meth.sig.returnType = none := hc.2.2.2.1.trans hret
  obtain ⟨fs, hr, hrun, hended, hW, hsame⟩ := X.leave (v := none) (fun _ => rfl) hlk
  exact ⟨_, locs, cu, su, none, X.returnOut hc.1 hr0 (hb hc.2.1 hd) hr, hrun, hended, hW, hsame, hcu, hsu, hq _ H, hF, fun w hw => by cases hw⟩
/-- a method's contract -/
def Meth (l : Launch) (Z : State) (D : Cls) (n0 : Nat) (P : Heap → Prop) (y : MethodName) (bytes : ByteArray) (maxL : Nat) (ret : Option FieldType) (R : Room) (as : List V) (os : List OB) (sz : Nat) (Q : Option V → Heap → Prop) : Prop :=
  okS as → ∀ h0, HS Z D n0 P os sz h0 → ∀ ws : List Jvm.Cond, MetFree l y (head1 (Jvm.Cond.code y bytes maxL ret :: ws) R) (fun a U => a = (as.map rv).toArray ∧ Z.Warmed39 U.vm ∧ U.heap = h0) (fun _ _ _ _ _ => True)
    (fun _ U o U' => ∃ v' L, o = .returned v' ∧ (∃ v, v' = Option.map rv v ∧ Q v U'.heap ∧ Fr n0 L ∧ (∀ w, v = some w → okV w)) ∧ FrameEnd U o U' L R.cells R.slots)
theorem Meth.of (hy : plainFor y = true) {as : List V} (hlen : (laid as).length ≤ maxL) (h : Go l Z D n0 P y bytes maxL ret R 0 (ent as maxL) [] os sz 0 0 Q) : Meth l Z D n0 P y bytes maxL ret R as os sz Q := by
  intro hok h0 H ws
  refine MetFree.of_bodySF hy hisR ?_
  intro p e s m args below meth c s₁ Bd hml0 hP hK
  obtain ⟨rfl, hZ, hh⟩ := hP
  have X0 : Stand p l e R s m (as.map rv).toArray below meth c s₁ [] 0 0 := Stand.of_body Bd
  have e0 : s₁.heap = h0 := by rw [← hh, Bd.state]; rfl
  have hE := ent_ok (maxL := maxL) hok hlen
  obtain ⟨s2, locs', cu', su', v, g1, g2, g3, g4, g5, g6, g7, g8, g9, g10⟩ := h p e s m _ below meth c ⟨Bd.exec, Bd.bytes, hml0, Bd.returns, findClass_of_methodNamed Bd.named, (name_of_methodNamed Bd.named Bd.method).1, hZ, Bd.notSynchronized⟩ s₁ [] X0 (by rw [e0]; exact H) (by rw [← H.1, ← hh]; simp) (Fr.nil n0) (argsToLocals (as.map rv).toArray maxL) (by rw [hE.1]; simp [ent]; omega) hE (fun u hu => nomatch hu)
  exact ⟨s2, _, g1, g2, g3, _, locs', rfl, ⟨v, rfl, g8, g9, g10⟩, ⟨_, rfl⟩, g4, g5.mono g6 g7⟩
def QM (Z : State) (D : Cls) (n0 : Nat) (P : Heap → Prop) (v : Option V) (os' : List OB) (sz' : Nat) (w : Option V) (h : Heap) : Prop := w = v ∧ HS Z D n0 P os' sz' h
/-- the caller's side of a call: what the callee's contract must give -/
def Pays (l : Launch) (Z : State) (D : Cls) (n0 : Nat) (P : Heap → Prop) (z : MethodName) (zb : ByteArray) (zl : Nat) (zr : Option FieldType) (rm : Room) (as : List V) (os : List OB) (sz : Nat) (v : Option V) (os' : List OB) (sz' : Nat) : Prop :=
  ∃ P' os1 os1', (∀ h, HS Z D n0 P os sz h → HS Z D n0 P' os1 sz h) ∧ (∀ h h', HS Z D n0 P os sz h → HS Z D n0 P' os1' sz' h' → HS Z D n0 P os' sz' h') ∧ Meth l Z D n0 P' z zb zl zr rm as os1 sz (QM Z D n0 P' v os1' sz')
theorem Pays.one {z : MethodName} {zb : ByteArray} {zl : Nat} {zr : Option FieldType} {rm : Room} {as : List V} {w : Option V} {q b k k' : Nat} {O O' : Mo} (hq : os[q]? = some (b, k, O)) (hos : os.set q (b, k', O') = os2) (hm : ∀ P' : Heap → Prop, (∀ h, P' h → P h) → Meth l Z D n0 P' z zb zl zr rm as [(b, k, O)] sz (QM Z D n0 P' w [(b, k', O')] sz2)) : Pays l Z D n0 P z zb zl zr rm as os sz w os2 sz2 := by
  subst hos
  exact ⟨Rest Z D P os q, _, _, fun h H => H.split hq, fun h h' H M => H.merge hq M, hm _ fun h q => q.1⟩
theorem Pays.zero {z : MethodName} {zb : ByteArray} {zl : Nat} {zr : Option FieldType} {rm : Room} {as : List V} {w : Option V} (hm : ∀ P' : Heap → Prop, (∀ h, P' h → P h) → Meth l Z D n0 P' z zb zl zr rm as [] sz (QM Z D n0 P' w [] sz2)) : Pays l Z D n0 P z zb zl zr rm as os sz w os sz2 :=
  ⟨RestA Z D P os, _, _, fun h H => H.split0, fun h h' H M => H.merge0 M, hm _ fun h q => q.1⟩
theorem Pays.all {z : MethodName} {zb : ByteArray} {zl : Nat} {zr : Option FieldType} {rm : Room} {as : List V} {w : Option V} (hm : ∀ P' : Heap → Prop, (∀ h, P' h → P h) → Meth l Z D n0 P' z zb zl zr rm as os sz (QM Z D n0 P' w os2 sz2)) : Pays l Z D n0 P z zb zl zr rm as os sz w os2 sz2 :=
  ⟨P, _, _, fun h H => H, fun h h' H M => M, hm _ fun h q => q⟩
theorem Go.callv {k : Nat} {z : MethodName} {zb : ByteArray} {zl : Nat} {zr : Option FieldType} {rm : Room} {as : List V} {w : Option V} {ps : List FieldType} {rt : Option FieldType} (hd : decode bytes pc = .ok (.invokevirtual k, 3)) (hp : pc + 3 = pc2) {own : String} (ho : y.cls = own) (w1 : (Cond.methodLink own k z).before a0 Z = true) (w2 : (Cond.declares z).before a0 Z = true) {C : String} (hC : D.C = C) (w3 : (Cond.selects C z z).before a0 Z = true) (w4 : (Cond.instanceMethod z).before a0 Z = true) (w5 : (Cond.code z zb zl zr).before a0 Z = true) {zc : String} (hzc : z.cls = zc) (w6 : (Cond.initialized zc).before a0 Z = true) {b q kq : Nat} {O : Mo} (hq : os[q]? = some (b, kq, O)) (hy : z.cls ≠ "java/lang/invoke/MethodHandle" ∧ z.cls ≠ "java/lang/invoke/VarHandle") (hpd : parseMethodDescriptor z.desc = some ⟨ps, rt⟩) (hf : rm.frames + 1 ≤ R.frames) (hlo : (S.map fun u => (rv u).category).sum + (zl + 11) + rm.locals ≤ R.locals) (hcu : cu + rm.cells ≤ R.cells) (hsu : su + rm.slots ≤ R.slots) {nc ns : Nat} (hnc : rm.cells = nc) (hns : rm.slots = ns) (hsz : sz + nc = sz2) (hcu2 : cu + nc = cu2) (hsu2 : su + ns = su2) (hlen : as.length = ps.length) (hpay : Pays l Z D n0 P z zb zl zr rm (vR b :: as) os sz w os2 sz2) (hS2 : w.toList ++ S = S2)
    (h : Go l Z D n0 P y bytes maxL ret R pc2 L S2 os2 sz2 cu2 su2 Q) : Go l Z D n0 P y bytes maxL ret R pc L (as.reverse ++ vR b :: S) os sz cu su Q := by
  subst hp hS2 ho hzc hnc hns hcu2 hsu2 hC
  refine Go.step h fun p e s m args below meth c hc T locs X H hz hF Ls hl hL hS => ?_
  obtain ⟨P', os1, os1', hsp, hmg, hm⟩ := hpay
  have okA : okS (vR b :: as) := fun u hu => hS u (by simp only [List.mem_append, List.mem_reverse, List.mem_cons] at hu ⊢; rcases hu with hu | hu <;> simp [hu])
  have okR : okS S := fun u hu => hS u (by simp [hu])
  have M := hm okA T.heap (hsp _ H) []
  have E := (H.2.2.1 _ _ _ _ hq).1.1
  obtain ⟨cq, kq', qa, qb, qc⟩ := isOf hc.2.2.2.2.2.2.1 rfl E
  obtain ⟨_, _, ⟨T2, L2, k2, n2⟩, -, X2, ⟨Lc, hQ, l2, y2, z2⟩, st⟩ := X.virtualBack hc.1 (y := z) (z := z) hc.2.2.2.2.1 (mvT hc.2.2.2.2.2.2.1 w1) (mvT hc.2.2.2.2.2.2.1 w2) (notFace_of_selects (args := #[]) (mvT hc.2.2.2.2.2.2.1 w3)) (mvT hc.2.2.2.2.2.2.1 w3) (mvT hc.2.2.2.2.2.2.1 w4) hy (backOf (W := (S.map fun u => (rv u).category).sum) (Q := fun v' h L => ∃ v, v' = Option.map rv v ∧ QM Z D n0 P' w os1' sz2 v h ∧ Fr n0 L ∧ ∀ w, v = some w → okV w) M hc.2.2.2.2.2.2.1 w5 w6 hf hlo) qa qc (g := mkF m pc Ls ((as.reverse ++ vR b :: S).map rv)) rfl (hl.trans hc.2.2.1.symm) (Steps.refl _) (argsL := as.map rv) (rest := S.map rv) (lenOf hpd (by rw [List.length_map]; exact hlen)) (by simp [rv]) (by rw [List.map_map]; show 2 * 0 + _ ≤ _; exact Nat.le_of_eq (Nat.zero_add _)) (hb hc.2.1 hd) (fun _ _ => ⟨by simp [rv], rfl, hcu, hsu⟩)
  dsimp only [Pt.U, Pt.locs, Pt.cells, Pt.slots] at X2 l2 y2 z2 st hQ
  subst l2 y2 z2
  obtain ⟨w9, rfl, ⟨e9, H2⟩, F2, ok2⟩ := hQ
  subst e9
  refine ⟨T2, _, Ls, X2, hmg _ _ H H2, by omega, Fr.app hF F2, hl, hL, fun u hu => ?_, fun target hr => ?_⟩
  · rcases List.mem_append.mp hu with hu | hu
    · exact ok2 u (Option.mem_toList.mp hu)
    · exact okR u hu
  · rw [List.map_append] at hr
    refine st.trans ?_
    cases w9 <;> exact hr
theorem Go.callp {k : Nat} {z : MethodName} {zb : ByteArray} {zl : Nat} {zr : Option FieldType} {rm : Room} {as : List V} {w : Option V} {ps : List FieldType} {rt : Option FieldType} (hd : decode bytes pc = .ok (.invokevirtual k, 3)) (hp : pc + 3 = pc2) {own : String} (ho : y.cls = own) (w1 : (Cond.methodLink own k z).before a0 Z = true) (w3 : (Cond.privateMethod z).before a0 Z = true) (w4 : (Cond.instanceMethod z).before a0 Z = true) (w5 : (Cond.code z zb zl zr).before a0 Z = true) {zc : String} (hzc : z.cls = zc) (w6 : (Cond.initialized zc).before a0 Z = true) {kx : Nat} (wi : (Cond.instantiable zc kx).before a0 Z = true) {b q kq : Nat} {O : Mo} (hq : os[q]? = some (b, kq, O)) (hy : z.cls ≠ "java/lang/invoke/MethodHandle" ∧ z.cls ≠ "java/lang/invoke/VarHandle") (hpd : parseMethodDescriptor z.desc = some ⟨ps, rt⟩) (hf : rm.frames + 1 ≤ R.frames) (hlo : (S.map fun u => (rv u).category).sum + (zl + 11) + rm.locals ≤ R.locals) (hcu : cu + rm.cells ≤ R.cells) (hsu : su + rm.slots ≤ R.slots) {nc ns : Nat} (hnc : rm.cells = nc) (hns : rm.slots = ns) (hsz : sz + nc = sz2) (hcu2 : cu + nc = cu2) (hsu2 : su + ns = su2) (hlen : as.length = ps.length) (hpay : Pays l Z D n0 P z zb zl zr rm (vR b :: as) os sz w os2 sz2) (hS2 : w.toList ++ S = S2)
    (h : Go l Z D n0 P y bytes maxL ret R pc2 L S2 os2 sz2 cu2 su2 Q) : Go l Z D n0 P y bytes maxL ret R pc L (as.reverse ++ vR b :: S) os sz cu su Q := by
  subst hp hS2 ho hzc hnc hns hcu2 hsu2
  refine Go.step h fun p e s m args below meth c hc T locs X H hz hF Ls hl hL hS => ?_
  obtain ⟨P', os1, os1', hsp, hmg, hm⟩ := hpay
  have okA : okS (vR b :: as) := fun u hu => hS u (by simp only [List.mem_append, List.mem_reverse, List.mem_cons] at hu ⊢; rcases hu with hu | hu <;> simp [hu])
  have okR : okS S := fun u hu => hS u (by simp [hu])
  have M := hm okA T.heap (hsp _ H) []
  have E := (H.2.2.1 _ _ _ _ hq).1.1
  obtain ⟨cq, q4, q4'⟩ := E.cell
  have wi' : (Cond.instantiable z.cls kx).before args s = true := mv hc.2.2.2.2.2.2.1 wi
  obtain ⟨c9, k9, i1, i2, i3, i4, -⟩ := Cond.instantiable_spec wi'
  have hpr : s.PrivateAt z := Cond.privateMethod_at (mvP hc.2.2.2.2.2.2.1 w3 (args := #[]))
  have hin : (Cond.instanceMethod z).before args s = true := mvT hc.2.2.2.2.2.2.1 w4
  have hsel := selects_self_of_private i1 i2 (by simp at i4; exact i4.1) hpr hin hy
  obtain ⟨_, _, ⟨T2, L2, k2, n2⟩, -, X2, ⟨Lc, hQ, l2, y2, z2⟩, st⟩ := X.privateBack hc.1 (y := z) hc.2.2.2.2.1 (mvT hc.2.2.2.2.2.2.1 w1) hin hsel hpr (mvT hc.2.2.2.2.2.2.1 w5) hy (backOf (W := (S.map fun u => (rv u).category).sum) (Q := fun v' h L => ∃ v, v' = Option.map rv v ∧ QM Z D n0 P' w os1' sz2 v h ∧ Fr n0 L ∧ ∀ w, v = some w → okV w) M hc.2.2.2.2.2.2.1 w5 w6 hf hlo) (g := mkF m pc Ls ((as.reverse ++ vR b :: S).map rv)) rfl (hl.trans hc.2.2.1.symm) (Steps.refl _) (a := b) q4 q4' (argsL := as.map rv) (rest := S.map rv) (lenOf hpd (by rw [List.length_map]; exact hlen)) (by simp [rv]) (by rw [List.map_map]; show 2 * 0 + _ ≤ _; exact Nat.le_of_eq (Nat.zero_add _)) (hb hc.2.1 hd) (fun _ _ => ⟨by simp [rv], rfl, hcu, hsu⟩)
  dsimp only [Pt.U, Pt.locs, Pt.cells, Pt.slots] at X2 l2 y2 z2 st hQ
  subst l2 y2 z2
  obtain ⟨w9, rfl, ⟨e9, H2⟩, F2, ok2⟩ := hQ
  subst e9
  refine ⟨T2, _, Ls, X2, hmg _ _ H H2, by omega, Fr.app hF F2, hl, hL, fun u hu => ?_, fun target hr => ?_⟩
  · rcases List.mem_append.mp hu with hu | hu
    · exact ok2 u (Option.mem_toList.mp hu)
    · exact okR u hu
  · rw [List.map_append] at hr
    refine st.trans ?_
    cases w9 <;> exact hr
theorem Go.callc {k : Nat} {z : MethodName} {zb : ByteArray} {zl : Nat} {zr : Option FieldType} {rm : Room} {as : List V} {w : Option V} {ps : List FieldType} {rt : Option FieldType} (hd : decode bytes pc = .ok (.invokespecial k, 3)) (hp : pc + 3 = pc2) (hn : z.name = "<init>") (hzr : zr = none) {own : String} (ho : y.cls = own) (w1 : (Cond.methodLink own k z).before a0 Z = true) (w4 : (Cond.instanceMethod z).before a0 Z = true) (w5 : (Cond.code z zb zl zr).before a0 Z = true) {zc : String} (hzc : z.cls = zc) (w6 : (Cond.initialized zc).before a0 Z = true) {b : Nat} (hy : z.cls ≠ "java/lang/invoke/MethodHandle" ∧ z.cls ≠ "java/lang/invoke/VarHandle") (hpd : parseMethodDescriptor z.desc = some ⟨ps, rt⟩) (hf : rm.frames + 1 ≤ R.frames) (hlo : (S.map fun u => (rv u).category).sum + (zl + 11) + rm.locals ≤ R.locals) (hcu : cu + rm.cells ≤ R.cells) (hsu : su + rm.slots ≤ R.slots) {nc ns : Nat} (hnc : rm.cells = nc) (hns : rm.slots = ns) (hsz : sz + nc = sz2) (hcu2 : cu + nc = cu2) (hsu2 : su + ns = su2) (hlen : as.length = ps.length) (hpay : Pays l Z D n0 P z zb zl zr rm (vR b :: as) os sz w os2 sz2) (hS2 : w.toList ++ S = S2)
    (h : Go l Z D n0 P y bytes maxL ret R pc2 L S2 os2 sz2 cu2 su2 Q) : Go l Z D n0 P y bytes maxL ret R pc L (as.reverse ++ vR b :: S) os sz cu su Q := by
  subst hp hS2 ho hzc hnc hns hcu2 hsu2
  refine Go.step h fun p e s m args below meth c hc T locs X H hz hF Ls hl hL hS => ?_
  obtain ⟨P', os1, os1', hsp, hmg, hm⟩ := hpay
  have okA : okS (vR b :: as) := fun u hu => hS u (by simp only [List.mem_append, List.mem_reverse, List.mem_cons] at hu ⊢; rcases hu with hu | hu <;> simp [hu])
  have okR : okS S := fun u hu => hS u (by simp [hu])
  have M := hm okA T.heap (hsp _ H) []
  subst hzr
  obtain ⟨_, _, ⟨T2, L2, k2, n2⟩, -, X2, ⟨Lc, hQ, l2, y2, z2⟩, st⟩ := X.specialBack hc.1 (y := z) hn hc.2.2.2.2.1 (mvT hc.2.2.2.2.2.2.1 w1) (mvT hc.2.2.2.2.2.2.1 w4) (mvT hc.2.2.2.2.2.2.1 w5) hy (backOf (W := (S.map fun u => (rv u).category).sum) (Q := fun v' h L => ∃ v, v' = Option.map rv v ∧ QM Z D n0 P' w os1' sz2 v h ∧ Fr n0 L ∧ ∀ w, v = some w → okV w) M hc.2.2.2.2.2.2.1 w5 w6 hf hlo) (g := mkF m pc Ls ((as.reverse ++ vR b :: S).map rv)) rfl (hl.trans hc.2.2.1.symm) (Steps.refl _) (a := b) (argsL := as.map rv) (rest := S.map rv) (lenOf hpd (by rw [List.length_map]; exact hlen)) (by simp [rv]) (by rw [List.map_map]; show 2 * 0 + _ ≤ _; exact Nat.le_of_eq (Nat.zero_add _)) (hb hc.2.1 hd) (fun _ _ => ⟨by simp [rv], rfl, hcu, hsu⟩)
  dsimp only [Pt.U, Pt.locs, Pt.cells, Pt.slots] at X2 l2 y2 z2 st hQ
  subst l2 y2 z2
  obtain ⟨w9, rfl, ⟨e9, H2⟩, F2, ok2⟩ := hQ
  subst e9
  refine ⟨T2, _, Ls, X2, hmg _ _ H H2, by omega, Fr.app hF F2, hl, hL, fun u hu => ?_, fun target hr => ?_⟩
  · rcases List.mem_append.mp hu with hu | hu
    · exact ok2 u (Option.mem_toList.mp hu)
    · exact okR u hu
  · rw [List.map_append] at hr
    refine st.trans ?_
    cases w9 <;> exact hr
theorem Go.calls {k : Nat} {z : MethodName} {zb : ByteArray} {zl : Nat} {zr : Option FieldType} {rm : Room} {as : List V} {w : Option V} {ps : List FieldType} {rt : Option FieldType} (hd : decode bytes pc = .ok (.invokestatic k, 3)) (hp : pc + 3 = pc2) {own : String} (ho : y.cls = own) (w1 : (Cond.methodLink own k z).before a0 Z = true) (w2 : (Cond.static z).before a0 Z = true) (w5 : (Cond.code z zb zl zr).before a0 Z = true) {zc : String} (hzc : z.cls = zc) (w6 : (Cond.initialized zc).before a0 Z = true) (hy : z.cls ≠ "java/lang/invoke/MethodHandle" ∧ z.cls ≠ "java/lang/invoke/VarHandle") (hpd : parseMethodDescriptor z.desc = some ⟨ps, rt⟩) (hf : rm.frames + 1 ≤ R.frames) (hlo : (S.map fun u => (rv u).category).sum + (zl + 11) + rm.locals ≤ R.locals) (hcu : cu + rm.cells ≤ R.cells) (hsu : su + rm.slots ≤ R.slots) {nc ns : Nat} (hnc : rm.cells = nc) (hns : rm.slots = ns) (hsz : sz + nc = sz2) (hcu2 : cu + nc = cu2) (hsu2 : su + ns = su2) (hlen : as.length = ps.length) (hpay : Pays l Z D n0 P z zb zl zr rm as os sz w os2 sz2) (hS2 : w.toList ++ S = S2)
    (h : Go l Z D n0 P y bytes maxL ret R pc2 L S2 os2 sz2 cu2 su2 Q) : Go l Z D n0 P y bytes maxL ret R pc L (as.reverse ++ S) os sz cu su Q := by
  subst hp hS2 ho hzc hnc hns hcu2 hsu2
  refine Go.step h fun p e s m args below meth c hc T locs X H hz hF Ls hl hL hS => ?_
  obtain ⟨P', os1, os1', hsp, hmg, hm⟩ := hpay
  have okA : okS as := fun u hu => hS u (by simp only [List.mem_append, List.mem_reverse, List.mem_cons] at hu ⊢; exact Or.inl hu)
  have okR : okS S := fun u hu => hS u (by simp [hu])
  have M := hm okA T.heap (hsp _ H) []
  obtain ⟨_, _, ⟨T2, L2, k2, n2⟩, -, X2, ⟨Lc, hQ, l2, y2, z2⟩, st⟩ := Jvm.LawKit.callS X hc.1 (y := z) hc.2.2.2.2.1 (mvT hc.2.2.2.2.2.2.1 w1) (mvT hc.2.2.2.2.2.2.1 w2) (mvT hc.2.2.2.2.2.2.1 w6) (mvT hc.2.2.2.2.2.2.1 w5) hy (backOf (W := (S.map fun u => (rv u).category).sum) (Q := fun v' h L => ∃ v, v' = Option.map rv v ∧ QM Z D n0 P' w os1' sz2 v h ∧ Fr n0 L ∧ ∀ w, v = some w → okV w) M hc.2.2.2.2.2.2.1 w5 w6 hf hlo) (g := mkF m pc Ls ((as.reverse ++ S).map rv)) rfl (hl.trans hc.2.2.1.symm) (argsL := as.map rv) (rest := S.map rv) (lenOf hpd (by rw [List.length_map]; exact hlen)) (by simp) (by rw [List.map_map]; show 2 * 0 + _ ≤ _; exact Nat.le_of_eq (Nat.zero_add _)) (hb hc.2.1 hd) (fun _ _ => ⟨rfl, rfl, hcu, hsu⟩)
  dsimp only [Pt.U, Pt.locs, Pt.cells, Pt.slots] at X2 l2 y2 z2 st hQ
  subst l2 y2 z2
  obtain ⟨w9, rfl, ⟨e9, H2⟩, F2, ok2⟩ := hQ
  subst e9
  refine ⟨T2, _, Ls, X2, hmg _ _ H H2, by omega, Fr.app hF F2, hl, hL, fun u hu => ?_, fun target hr => ?_⟩
  · rcases List.mem_append.mp hu with hu | hu
    · exact ok2 u (Option.mem_toList.mp hu)
    · exact okR u hu
  · rw [List.map_append] at hr
    refine st _ ?_
    cases w9 <;> exact hr
theorem Scr.wr {a : Nat} {xs : List Int} {h h' : Heap} {b sl : Nat} {w : Value} (q : Scr Z a xs h) (W : Wr h h' b sl w) (ne : a ≠ b) : Scr Z a xs h' := by
  obtain ⟨c, A, r⟩ := q; exact ⟨c, A.other W ne, r⟩
theorem Scr.ext {a : Nat} {xs : List Int} {h h' : Heap} (q : Scr Z a xs h) (E : Ext h h') : Scr Z a xs h' := by
  obtain ⟨c, A, r⟩ := q; exact ⟨c, A.ext E, r⟩
theorem fnil {α : Type} {p : α → Prop} : ∀ x ∈ ([] : List α), p x := fun _ h => nomatch h
theorem fcons {α : Type} {p : α → Prop} {a : α} {l : List α} (h : p a) (hl : ∀ x ∈ l, p x) : ∀ x ∈ a :: l, p x := fun x hx => (List.mem_cons.mp hx).elim (fun e => e ▸ h) (hl x)
theorem CW.of (h1 : ∀ f ∈ D.FS, Laid Z a0 D.C D.C f.2.1 f.2.2.1 ∧ parseFieldDescriptor f.2.2.1 = some f.2.2.2 ∧ pt f.2.2.2) (h2 : ∀ f ∈ D.AS, Laid Z a0 D.C D.C f.1 f.2.1 ∧ parseFieldDescriptor f.2.1 = some (.array f.2.2.1) ∧ pt f.2.2.1 ∧ f.2.2.2 * 8 ≤ 536870912)
    (h3 : ∀ f ∈ D.FS, ∀ g ∈ D.FS, f = g ∨ (f.1 ≠ g.1 ∧ f.2.1 ≠ g.2.1)) (h4 : ∀ f ∈ D.FS, ∀ g ∈ D.AS, f.2.1 ≠ g.1) (h5 : ∀ j ∈ List.range D.AS.length, ∀ j' ∈ List.range D.AS.length, j ≠ j' → (D.AS[j]?.map (·.1)) ≠ (D.AS[j']?.map (·.1))) : CW Z a0 D := by
  refine ⟨fun i n d t h => h1 (i, n, d, t) h, fun j n d t len h => h2 (n, d, t, len) (List.mem_of_getElem? h), fun i n d t i' n' d' t' h h' => ?_, fun i n d t j n' d' t' len h h' => h4 (i, n, d, t) h (n', d', t', len) (List.mem_of_getElem? h'), fun j n d t len j' n' d' t' len' h h' ne e => ?_⟩
  · rcases h3 (i, n, d, t) h (i', n', d', t') h' with q | q
    · cases q; exact Or.inl ⟨rfl, rfl, rfl, rfl⟩
    · exact Or.inr q
  · refine h5 j (List.mem_range.mpr (List.getElem?_eq_some_iff.mp h).1) j' (List.mem_range.mpr (List.getElem?_eq_some_iff.mp h').1) ne ?_
    rw [h, h']; exact congrArg some e
theorem scr_start {s : State} {w0 : Value} (hfit : Fit s) (n1 : (Cond.arrayOf (Term.arg 0) .int).value #[w0] s none s [] = some true) (n2 : (Cond.le (Term.length (Term.arg 0)) (Term.int 260)).value #[w0] s none s [] = some true) :
    ∃ aa xs, w0 = .ref aa ∧ aa < s.heap.size ∧ Scr s aa xs s.heap ∧ xs.length ≤ 260 ∧ (∀ x ∈ xs, R32 x) := by
  obtain ⟨aa, ea⟩ := arr_v n1
  obtain rfl : w0 = .ref aa := Option.some.inj ea
  obtain ⟨cl, A⟩ := Arr.start ea n1
  have hl : cl.slots.size ≤ 260 := by
    by_cases h : cl.slots.size < 2 ^ 31
    · have e := len_f (t := Term.arg 0) (idx := []) ea (A.fin (Vm.Alike.refl _)) h
      have e2 : (Term.int 260).eval #[.ref aa] s none [] s = some (.int 260) := rfl
      have n3 := n2
      simp only [Cond.value, e, e2, Option.some.injEq, decide_eq_true_eq] at n3
      rw [Int32.le_iff_toInt_le, show cl.slots.size.toInt32 = Int32.ofInt (cl.slots.size : Int) from rfl, ti32 ⟨by omega, by omega⟩] at n3
      have : (260 : Int32).toInt = 260 := rfl
      omega
    · exfalso
      obtain ⟨x, y, e1, -⟩ := cmp_v (Or.inr (Or.inr n2))
      have q : (Term.length (Term.arg 0)).eval #[.ref aa] s none [] s = none := by
        have := A.fin (Vm.Alike.refl _)
        simp [Term.eval, this, h]
      rw [q] at e1; cases e1
  have key : ∀ i (hi : i < cl.slots.size), ∃ x : Int32, cl.slots[i] = .int x := fun i hi => by
    have q := hfit A.1 hi
    obtain ⟨hs, k, hk, comp, hkind⟩ := A.2.1
    have e : s.slotType? cl.cls cl.vm i = some .int := by
      cases hq : cl.vm <;> first | exact absurd hq (hs _) | simp [State.slotType?, hk, hkind]
    exact fit_I (by simpa [State.fitsSlot, e] using q) (Or.inl rfl)
  refine ⟨aa, cl.slots.toList.map (fun v => match v with | .int x => x.toInt | _ => 0), rfl, A.lt, ⟨cl, A, by simp, fun i x hx => ?_⟩, by simpa using hl, fun x hx => ?_⟩
  · rw [List.getElem?_map, Array.getElem?_toList] at hx
    cases hc : cl.slots[i]? with
    | none => rw [hc] at hx; cases hx
    | some u =>
      obtain ⟨hi, hu⟩ := Array.getElem?_eq_some_iff.mp hc
      obtain ⟨z, hz⟩ := key i hi
      rw [hz] at hu
      subst hu
      rw [hc] at hx
      simp at hx
      subst hx
      exact ⟨by rw [of32], r32t z⟩
  · obtain ⟨u, hu, rfl⟩ := List.mem_map.mp hx
    cases u with
    | int z => exact r32t z
    | _ => exact (show R32 0 by decide)
end Runs

end Jvm.Own

namespace Jvm.Own
-- functions of g-0161x2-1; fields: 0:cap, 1:rng, 2:n, 3:solved, 4:cxNum, 5:cyNum, 6:den, 7:rNum, 8:kindV, 9:bCount, 10:tnx, 11:tny, 12:td, 13:trr, 14:c, 15:s, 16:idx, 17:p, 18:v, 19:j, 20:t, 21:a, 22:b, 23:dx, 24:dy, 25:ax, 26:ay, 27:bx, 28:by, 29:d, 30:sa, 31:sb, 32:ux, 33:uy, 34:ab, 35:ac, 36:bc, 37:g1, 38:g, 39:best, 40:on, 41:tx, 42:ty, 43:sx, 44:sy; arrays: 1:xs[32] int, 2:ys[32] int, 3:order[32] int, 4:onB[32] boolean
def u_cell (F : Nat) (xs : List Int) (v1 : Int) : Option Int :=
  if v1 < (xs.length : Int) then
    if 0 ≤ v1 ∧ v1 < (xs.length : Int) then
      some (xs.getD v1.toNat 0)
    else none
  else
    some 0
def u_pos (F : Nat) (v0 v1 : Int) : Option Int :=
  if v1 = 0 then none else
  if w32 (Int.tmod v0 v1) < 0 then
    some (w32 ((w32 (Int.tmod v0 v1)) + v1))
  else
    some (w32 (Int.tmod v0 v1))
def j_k_ctor_79 (F : Nat) (O0 : Mo) (v3 v4 : Int) : Option Mo :=
  some ((upd (upd (upd (upd (upd O0 0 0 v3) 0 1 v4) 0 2 0) 0 3 0) 0 12 1))
def j_k_ctor_68 (F : Nat) (O0 : Mo) (v3 v4 : Int) : Option Mo :=
  if v4 ≤ 65535 then
    j_k_ctor_79 F O0 v3 v4
  else
    j_k_ctor_79 F O0 v3 65535
def j_k_ctor_56 (F : Nat) (O0 : Mo) (v2 v3 : Int) : Option Mo :=
  if v2 < 1 then
    j_k_ctor_68 F O0 v3 1
  else
    j_k_ctor_68 F O0 v3 v2
def j_k_ctor_47 (F : Nat) (O0 : Mo) (v2 v3 : Int) : Option Mo :=
  if v3 ≤ 32 then
    j_k_ctor_56 F O0 v2 v3
  else
    j_k_ctor_56 F O0 v2 32
def k_ctor (F : Nat) (v1 v2 : Int) : Option Mo :=
  if v1 < 8 then
    j_k_ctor_47 F zM v2 8
  else
    j_k_ctor_47 F zM v2 v1
def k_inRange (v1 v2 : Int) : Int :=
  if v1 < (-255) then
    0
  else
    if 255 < v1 then
      0
    else
      if v2 < (-255) then
        0
      else
        if 255 < v2 then
          0
        else
          1
def b_k_addPoint_26 (F : Nat) (C26_0 : Mo) (c26_1 c26_2 : Int) (v3 : Int) : Option (Int ⊕ (Unit ⊕ ((Int × Mo)))) :=
  if v3 < C26_0 0 2 then
    if 0 ≤ v3 ∧ v3 < 32 then
      if C26_0 1 v3.toNat = c26_1 then
        if 0 ≤ v3 ∧ v3 < 32 then
          if C26_0 2 v3.toNat = c26_2 then
            some (Sum.inr (Sum.inr (((-1), C26_0))))
          else
            some (Sum.inl (w32 (v3 + 1)))
        else none
      else
        some (Sum.inl (w32 (v3 + 1)))
    else none
  else
    some (Sum.inr (Sum.inl (())))
def k_addPoint (F : Nat) (O0 : Mo) (v1 v2 : Int) : Option (Int × Mo) :=
  if k_inRange v1 v2 = 0 then
    some (((-1), O0))
  else
    if O0 0 2 < O0 0 0 then
      (loop (fun s => b_k_addPoint_26 F O0 v1 v2 s) F 0).bind fun r =>
      Sum.elim (fun r_1 =>
        if 0 ≤ (O0 0 2) ∧ (O0 0 2) < 32 then
          if 0 ≤ (O0 0 2) ∧ (O0 0 2) < 32 then
            some ((O0 0 2, (upd (upd (upd (upd O0 1 ((O0 0 2).toNat) v1) 2 ((O0 0 2).toNat) v2) 0 2 (w32 ((O0 0 2) + 1))) 0 3 0)))
          else none
        else none)
        (fun r_2 =>
        some r_2) r
    else
      some (((-1), O0))
def k_nextRand (F : Nat) (O0 : Mo) (v1 : Int) : Option (Int × Mo) :=
  lt (and32 (ushr32 (w32 ((w32 ((O0 0 1) * 1103515245)) + 12345)) 8) 8388607) fun v2 =>
  if 0 < v1 then
    if v1 = 0 then none else
    some ((w32 (Int.tmod v2 v1), (upd O0 0 1 (w32 ((w32 ((O0 0 1) * 1103515245)) + 12345)))))
  else
    some ((0, (upd O0 0 1 (w32 ((w32 ((O0 0 1) * 1103515245)) + 12345)))))
def b_k_shuffle_2 (F : Nat) (v1 : Int) (O0 : Mo) : Option ((Int × Mo) ⊕ (Mo)) :=
  if v1 < O0 0 2 then
    if 0 ≤ v1 ∧ v1 < 32 then
      some (Sum.inl ((w32 (v1 + 1), (upd O0 3 (v1.toNat) v1))))
    else none
  else
    some (Sum.inr O0)
def i_k_shuffle_53 (F : Nat) (O0 : Mo) (v1 v2 : Int) : Option ((Int × Mo) ⊕ (Mo)) :=
  if 0 ≤ v1 ∧ v1 < 32 then
    if 0 ≤ v2 ∧ v2 < 32 then
      if 0 ≤ v1 ∧ v1 < 32 then
        if 0 ≤ v2 ∧ v2 < 32 then
          some (Sum.inl ((w32 (v1 + (-1)), (upd (upd O0 3 (v1.toNat) (O0 3 v2.toNat)) 3 (v2.toNat) (O0 3 v1.toNat)))))
        else none
      else none
    else none
  else none
def i_k_shuffle_51 (F : Nat) (O0 : Mo) (v1 : Int) : Option ((Int × Mo) ⊕ (Mo)) :=
  i_k_shuffle_53 F O0 v1 v1
def b_k_shuffle_30 (F : Nat) (v1 : Int) (O0 : Mo) : Option ((Int × Mo) ⊕ (Mo)) :=
  if v1 ≤ 0 then
    some (Sum.inr O0)
  else
    (k_nextRand F O0 (w32 (v1 + 1))).bind fun r_1 =>
    if r_1.1 < 0 then
      i_k_shuffle_51 F r_1.2 v1
    else
      if r_1.1 ≤ v1 then
        i_k_shuffle_53 F r_1.2 v1 r_1.1
      else
        i_k_shuffle_51 F r_1.2 v1
def k_shuffle (F : Nat) (O0 : Mo) : Option Mo :=
  (loop (fun s => b_k_shuffle_2 F s.1 s.2) F ((0, O0))).bind fun r =>
  (loop (fun s => b_k_shuffle_30 F s.1 s.2) F ((w32 ((r 0 2) - 1), r))).bind fun r_1 =>
  some r_1
def k_setPoint (F : Nat) (O0 : Mo) (v1 : Int) : Option Mo :=
  if 0 ≤ v1 ∧ v1 < 32 then
    if 0 ≤ v1 ∧ v1 < 32 then
      some ((upd (upd (upd (upd O0 0 10 (O0 1 v1.toNat)) 0 11 ((upd O0 0 10 (O0 1 v1.toNat)) 2 v1.toNat)) 0 12 1) 0 13 0))
    else none
  else none
def k_outside (F : Nat) (O0 : Mo) (v1 : Int) : Option Int :=
  if 0 ≤ v1 ∧ v1 < 32 then
    lt (w64 ((w64 ((O0 1 v1.toNat) * (O0 0 12))) - (O0 0 10))) fun v2 =>
    if 0 ≤ v1 ∧ v1 < 32 then
      lt (w64 ((w64 ((O0 2 v1.toNat) * (O0 0 12))) - (O0 0 11))) fun v4 =>
      if w64 ((w64 (v2 * v2)) + (w64 (v4 * v4))) ≤ O0 0 13 then
        some 0
      else
        some 1
    else none
  else none
def k_setPair (F : Nat) (O0 : Mo) (v1 v2 : Int) : Option Mo :=
  if 0 ≤ v1 ∧ v1 < 32 then
    if 0 ≤ v2 ∧ v2 < 32 then
      if 0 ≤ v1 ∧ v1 < 32 then
        if 0 ≤ v2 ∧ v2 < 32 then
          if 0 ≤ v1 ∧ v1 < 32 then
            if 0 ≤ v2 ∧ v2 < 32 then
              lt (w64 (((upd (upd (upd O0 0 10 (w64 ((O0 1 v1.toNat) + (O0 1 v2.toNat)))) 0 11 (w64 (((upd O0 0 10 (w64 ((O0 1 v1.toNat) + (O0 1 v2.toNat)))) 2 v1.toNat) + ((upd O0 0 10 (w64 ((O0 1 v1.toNat) + (O0 1 v2.toNat)))) 2 v2.toNat)))) 0 12 2) 1 v1.toNat) - ((upd (upd (upd O0 0 10 (w64 ((O0 1 v1.toNat) + (O0 1 v2.toNat)))) 0 11 (w64 (((upd O0 0 10 (w64 ((O0 1 v1.toNat) + (O0 1 v2.toNat)))) 2 v1.toNat) + ((upd O0 0 10 (w64 ((O0 1 v1.toNat) + (O0 1 v2.toNat)))) 2 v2.toNat)))) 0 12 2) 1 v2.toNat))) fun v3 =>
              if 0 ≤ v1 ∧ v1 < 32 then
                if 0 ≤ v2 ∧ v2 < 32 then
                  lt (w64 (((upd (upd (upd O0 0 10 (w64 ((O0 1 v1.toNat) + (O0 1 v2.toNat)))) 0 11 (w64 (((upd O0 0 10 (w64 ((O0 1 v1.toNat) + (O0 1 v2.toNat)))) 2 v1.toNat) + ((upd O0 0 10 (w64 ((O0 1 v1.toNat) + (O0 1 v2.toNat)))) 2 v2.toNat)))) 0 12 2) 2 v1.toNat) - ((upd (upd (upd O0 0 10 (w64 ((O0 1 v1.toNat) + (O0 1 v2.toNat)))) 0 11 (w64 (((upd O0 0 10 (w64 ((O0 1 v1.toNat) + (O0 1 v2.toNat)))) 2 v1.toNat) + ((upd O0 0 10 (w64 ((O0 1 v1.toNat) + (O0 1 v2.toNat)))) 2 v2.toNat)))) 0 12 2) 2 v2.toNat))) fun v5 =>
                  some ((upd (upd (upd (upd O0 0 10 (w64 ((O0 1 v1.toNat) + (O0 1 v2.toNat)))) 0 11 (w64 (((upd O0 0 10 (w64 ((O0 1 v1.toNat) + (O0 1 v2.toNat)))) 2 v1.toNat) + ((upd O0 0 10 (w64 ((O0 1 v1.toNat) + (O0 1 v2.toNat)))) 2 v2.toNat)))) 0 12 2) 0 13 (w64 ((w64 (v3 * v3)) + (w64 (v5 * v5))))))
                else none
              else none
            else none
          else none
        else none
      else none
    else none
  else none
def j_k_setTriple_174 (F : Nat) (O0 : Mo) (v1 v12 v18 v20 : Int) : Option Mo :=
  if 0 ≤ v1 ∧ v1 < 32 then
    if 0 ≤ v1 ∧ v1 < 32 then
      some ((upd (upd (upd (upd O0 0 10 (w64 ((w64 ((O0 1 v1.toNat) * v12)) + v18))) 0 11 (w64 ((w64 (((upd O0 0 10 (w64 ((w64 ((O0 1 v1.toNat) * v12)) + v18))) 2 v1.toNat) * v12)) + v20))) 0 12 v12) 0 13 (w64 ((w64 (v18 * v18)) + (w64 (v20 * v20))))))
    else none
  else none
def k_setTriple (F : Nat) (O0 : Mo) (v1 v2 v3 : Int) : Option Mo :=
  if 0 ≤ v2 ∧ v2 < 32 then
    if 0 ≤ v1 ∧ v1 < 32 then
      lt (w64 ((O0 1 v2.toNat) - (O0 1 v1.toNat))) fun v4 =>
      if 0 ≤ v2 ∧ v2 < 32 then
        if 0 ≤ v1 ∧ v1 < 32 then
          lt (w64 ((O0 2 v2.toNat) - (O0 2 v1.toNat))) fun v6 =>
          if 0 ≤ v3 ∧ v3 < 32 then
            if 0 ≤ v1 ∧ v1 < 32 then
              lt (w64 ((O0 1 v3.toNat) - (O0 1 v1.toNat))) fun v8 =>
              if 0 ≤ v3 ∧ v3 < 32 then
                if 0 ≤ v1 ∧ v1 < 32 then
                  lt (w64 ((O0 2 v3.toNat) - (O0 2 v1.toNat))) fun v10 =>
                  lt (w64 (2 * (w64 ((w64 (v4 * v10)) - (w64 (v6 * v8)))))) fun v12 =>
                  if v12 = 0 then
                    none
                  else
                    lt (w64 ((w64 (v4 * v4)) + (w64 (v6 * v6)))) fun v14 =>
                    lt (w64 ((w64 (v8 * v8)) + (w64 (v10 * v10)))) fun v16 =>
                    lt (w64 ((w64 (v10 * v14)) - (w64 (v6 * v16)))) fun v18 =>
                    lt (w64 ((w64 (v4 * v16)) - (w64 (v8 * v14)))) fun v20 =>
                    if v12 < 0 then
                      j_k_setTriple_174 F O0 v1 (w64 (-v12)) (w64 (-v18)) (w64 (-v20))
                    else
                      j_k_setTriple_174 F O0 v1 v12 v18 v20
                else none
              else none
            else none
          else none
        else none
      else none
    else none
  else none
def b_k_extendTwo_25 (F : Nat) (c25_2 c25_3 c25_4 : Int) (v5 : Int) (O0 : Mo) : Option ((Int × Mo) ⊕ (Mo)) :=
  if v5 < c25_2 then
    if 0 ≤ v5 ∧ v5 < 32 then
      (k_outside F O0 (O0 3 v5.toNat)).bind fun r_1 =>
      if r_1 = 0 then
        some (Sum.inl ((w32 (v5 + 1), O0)))
      else
        (k_setTriple F O0 c25_3 c25_4 (O0 3 v5.toNat)).bind fun r_2 =>
        some (Sum.inl ((w32 (v5 + 1), r_2)))
    else none
  else
    some (Sum.inr O0)
def k_extendTwo (F : Nat) (O0 : Mo) (v1 v2 : Int) : Option Mo :=
  if 0 ≤ v1 ∧ v1 < 32 then
    if 0 ≤ v2 ∧ v2 < 32 then
      (k_setPair F O0 (O0 3 v1.toNat) (O0 3 v2.toNat)).bind fun r =>
      (loop (fun s => b_k_extendTwo_25 F v2 (O0 3 v1.toNat) (O0 3 v2.toNat) s.1 s.2) F ((0, r))).bind fun r_1 =>
      some r_1
    else none
  else none
def b_k_extendOne_12 (F : Nat) (c12_1 : Int) (v2 : Int) (O0 : Mo) : Option ((Int × Mo) ⊕ (Mo)) :=
  if v2 < c12_1 then
    if 0 ≤ v2 ∧ v2 < 32 then
      (k_outside F O0 (O0 3 v2.toNat)).bind fun r_1 =>
      if r_1 = 0 then
        some (Sum.inl ((w32 (v2 + 1), O0)))
      else
        (k_extendTwo F O0 c12_1 v2).bind fun r_2 =>
        some (Sum.inl ((w32 (v2 + 1), r_2)))
    else none
  else
    some (Sum.inr O0)
def k_extendOne (F : Nat) (O0 : Mo) (v1 : Int) : Option Mo :=
  if 0 ≤ v1 ∧ v1 < 32 then
    (k_setPoint F O0 (O0 3 v1.toNat)).bind fun r =>
    (loop (fun s => b_k_extendOne_12 F v1 s.1 s.2) F ((0, r))).bind fun r_1 =>
    some r_1
  else none
def b_k_runIncremental_12 (F : Nat) (v1 : Int) (O0 : Mo) : Option ((Int × Mo) ⊕ (Mo)) :=
  if v1 < O0 0 2 then
    if 0 ≤ v1 ∧ v1 < 32 then
      (k_outside F O0 (O0 3 v1.toNat)).bind fun r_1 =>
      if r_1 = 0 then
        some (Sum.inl ((w32 (v1 + 1), O0)))
      else
        (k_extendOne F O0 v1).bind fun r_2 =>
        some (Sum.inl ((w32 (v1 + 1), r_2)))
    else none
  else
    some (Sum.inr O0)
def k_runIncremental (F : Nat) (O0 : Mo) : Option Mo :=
  (k_setPoint F O0 (O0 3 0)).bind fun r =>
  (loop (fun s => b_k_runIncremental_12 F s.1 s.2) F ((1, r))).bind fun r_1 =>
  some r_1
def k_absL (v1 : Int) : Int :=
  if v1 < 0 then
    w64 (-v1)
  else
    v1
def b_k_gcd_17 (F : Nat) (v5 v7 v9 : Int) : Option ((Int × Int × Int) ⊕ (Int)) :=
  if v9 < 200 then
    if v7 = 0 then
      some (Sum.inr v5)
    else
      if v7 = 0 then none else
      some (Sum.inl ((v7, w64 (Int.tmod v5 v7), w32 (v9 + 1))))
  else
    some (Sum.inr v5)
def k_gcd (F : Nat) (v1 v3 : Int) : Option Int :=
  (loop (fun s => b_k_gcd_17 F s.1 s.2.1 s.2.2) F ((k_absL v1, k_absL v3, 0))).bind fun r =>
  some r
def k_pwFinal (O0 : Mo) (v1 v2 : Int) : Int :=
  lt (w64 ((w64 (v1 * (O0 0 6))) - (O0 0 4))) fun v3 =>
  lt (w64 ((w64 (v2 * (O0 0 6))) - (O0 0 5))) fun v5 =>
  w64 ((w64 (v3 * v3)) + (w64 (v5 * v5)))
def b_k_recordRadius_4 (F : Nat) (C4_0 : Mo) (v1 v3 : Int) : Option ((Int × Int) ⊕ (Int)) :=
  if v3 < C4_0 0 2 then
    if 0 ≤ v3 ∧ v3 < 32 then
      if 0 ≤ v3 ∧ v3 < 32 then
        lt (k_pwFinal C4_0 (C4_0 1 v3.toNat) (C4_0 2 v3.toNat)) fun v4 =>
        if v4 ≤ v1 then
          some (Sum.inl ((v1, w32 (v3 + 1))))
        else
          some (Sum.inl ((v4, w32 (v3 + 1))))
      else none
    else none
  else
    some (Sum.inr v1)
def i_k_recordRadius_93 (F : Nat) (O0 : Mo) (c56_1 v3 v4 s0 : Int) : Option ((Int × Int × Mo) ⊕ ((Int × Mo))) :=
  if 0 ≤ v4 ∧ v4 < 32 then
    if s0 = 0 then
      some (Sum.inl ((v3, w32 (v4 + 1), (upd O0 4 (v4.toNat) (s0 % 2)))))
    else
      some (Sum.inl ((w32 (v3 + 1), w32 (v4 + 1), (upd O0 4 (v4.toNat) (s0 % 2)))))
  else none
def b_k_recordRadius_56 (F : Nat) (c56_1 : Int) (v3 v4 : Int) (O0 : Mo) : Option ((Int × Int × Mo) ⊕ ((Int × Mo))) :=
  if v4 < O0 0 2 then
    if 0 ≤ v4 ∧ v4 < 32 then
      if 0 ≤ v4 ∧ v4 < 32 then
        if k_pwFinal O0 (O0 1 v4.toNat) (O0 2 v4.toNat) = c56_1 then
          i_k_recordRadius_93 F O0 c56_1 v3 v4 1
        else
          i_k_recordRadius_93 F O0 c56_1 v3 v4 0
      else none
    else none
  else
    some (Sum.inr ((v3, O0)))
def k_recordRadius (F : Nat) (O0 : Mo) : Option Mo :=
  (loop (fun s => b_k_recordRadius_4 F O0 s.1 s.2) F ((0, 0))).bind fun r =>
  (loop (fun s => b_k_recordRadius_56 F r s.1 s.2.1 s.2.2) F ((0, 0, (upd O0 0 7 r)))).bind fun r_1 =>
  some ((upd r_1.2 0 9 r_1.1))
def b_k_computeKind_47 (F : Nat) (O0 : Mo) (c47_1 c47_3 c47_5 : Int) (v6 : Int) : Option (Int ⊕ (Unit ⊕ Int)) :=
  if v6 < O0 0 2 then
    if 0 ≤ c47_5 ∧ c47_5 < 32 then
      if 0 ≤ v6 ∧ v6 < 32 then
        lt (w64 ((w64 ((O0 1 c47_5.toNat) + (O0 1 v6.toNat))) * (O0 0 6))) fun v7 =>
        if 0 ≤ c47_5 ∧ c47_5 < 32 then
          if 0 ≤ v6 ∧ v6 < 32 then
            lt (w64 ((w64 ((O0 2 c47_5.toNat) + (O0 2 v6.toNat))) * (O0 0 6))) fun v9 =>
            if v7 = c47_1 then
              if v9 = c47_3 then
                some (Sum.inr (Sum.inr 2))
              else
                some (Sum.inl (w32 (v6 + 1)))
            else
              some (Sum.inl (w32 (v6 + 1)))
          else none
        else none
      else none
    else none
  else
    some (Sum.inr (Sum.inl (())))
def b_k_computeKind_32 (F : Nat) (O0 : Mo) (c32_1 c32_3 : Int) (v5 : Int) : Option (Int ⊕ (Unit ⊕ Int)) :=
  if v5 < O0 0 2 then
    (loop (fun s => b_k_computeKind_47 F O0 c32_1 c32_3 v5 s) F (w32 (v5 + 1))).bind fun r_1 =>
    Sum.elim (fun r_2 =>
      some (Sum.inl (w32 (v5 + 1))))
      (fun r_3 =>
      some (Sum.inr (Sum.inr r_3))) r_1
  else
    some (Sum.inr (Sum.inr 3))
def k_computeKind (F : Nat) (O0 : Mo) : Option Int :=
  if O0 0 7 = 0 then
    some 1
  else
    (loop (fun s => b_k_computeKind_32 F O0 (w64 (2 * (O0 0 4))) (w64 (2 * (O0 0 5))) s) F 0).bind fun r =>
    Sum.elim (fun r_1 =>
      some 2)
      (fun r_2 =>
      some r_2) r
def j_k_finishDisk_55 (F : Nat) (O0 : Mo) (v3 : Int) : Option Mo :=
  if v3 = 0 then none else
  if v3 = 0 then none else
  (k_recordRadius F ((upd (upd O0 0 4 (w64 (Int.tdiv (O0 0 10) v3))) 0 5 (w64 (Int.tdiv (O0 0 11) v3))))).bind fun r =>
  (k_computeKind F r).bind fun r_1 =>
  some ((upd r 0 8 r_1))
def j_k_finishDisk_31 (F : Nat) (O0 : Mo) (v3 : Int) : Option Mo :=
  if v3 = 0 then none else
  if 0 < w64 (Int.tdiv (O0 0 12) v3) then
    j_k_finishDisk_55 F ((upd O0 0 6 (w64 (Int.tdiv (O0 0 12) v3)))) v3
  else
    j_k_finishDisk_55 F ((upd (upd O0 0 6 (w64 (Int.tdiv (O0 0 12) v3))) 0 6 1)) v3
def k_finishDisk (F : Nat) (O0 : Mo) : Option Mo :=
  (k_gcd F (O0 0 10) (O0 0 11)).bind fun r =>
  (k_gcd F r (O0 0 12)).bind fun r_1 =>
  if 0 < r_1 then
    j_k_finishDisk_31 F O0 r_1
  else
    j_k_finishDisk_31 F O0 1
def k_solve (F : Nat) (O0 : Mo) : Option (Int × Mo) :=
  if 0 < O0 0 2 then
    if O0 0 3 = 0 then
      (k_shuffle F O0).bind fun r =>
      (k_runIncremental F r).bind fun r_1 =>
      (k_finishDisk F r_1).bind fun r_2 =>
      some ((r_2 0 9, (upd r_2 0 3 1)))
    else
      some ((O0 0 9, O0))
  else
    some (((-1), O0))
def k_removeLast (F : Nat) (O0 : Mo) : Option (Int × Mo) :=
  if 0 < O0 0 2 then
    some ((1, (upd (upd O0 0 2 (w32 ((O0 0 2) - 1))) 0 3 0)))
  else
    some ((0, O0))
def k_clear (F : Nat) (O0 : Mo) : Option Mo :=
  some ((upd (upd O0 0 2 0) 0 3 0))
def k_isSolved (O0 : Mo) : Int :=
  (O0 0 3) % 2
def k_centreDen (O0 : Mo) : Int :=
  if O0 0 3 = 0 then
    0
  else
    O0 0 6
def k_centreXNum (O0 : Mo) : Int :=
  if O0 0 3 = 0 then
    0
  else
    O0 0 4
def k_centreYNum (O0 : Mo) : Int :=
  if O0 0 3 = 0 then
    0
  else
    O0 0 5
def k_radiusSqNum (O0 : Mo) : Int :=
  if O0 0 3 = 0 then
    0
  else
    O0 0 7
def k_count (O0 : Mo) : Int :=
  O0 0 2
def k_pointX (F : Nat) (O0 : Mo) (v1 : Int) : Option Int :=
  if v1 < 0 then
    some 0
  else
    if v1 < O0 0 2 then
      if 0 ≤ v1 ∧ v1 < 32 then
        some (O0 1 v1.toNat)
      else none
    else
      some 0
def k_pointY (F : Nat) (O0 : Mo) (v1 : Int) : Option Int :=
  if v1 < 0 then
    some 0
  else
    if v1 < O0 0 2 then
      if 0 ≤ v1 ∧ v1 < 32 then
        some (O0 2 v1.toNat)
      else none
    else
      some 0
def k_locate (O0 : Mo) (v1 v2 : Int) : Int :=
  if O0 0 3 = 0 then
    0
  else
    if k_inRange v1 v2 = 0 then
      0
    else
      if k_pwFinal O0 v1 v2 < O0 0 7 then
        1
      else
        if k_pwFinal O0 v1 v2 = O0 0 7 then
          2
        else
          3
def k_onBoundary (F : Nat) (O0 : Mo) (v1 : Int) : Option Int :=
  if O0 0 3 = 0 then
    some 0
  else
    if v1 < 0 then
      some 0
    else
      if v1 < O0 0 2 then
        if 0 ≤ v1 ∧ v1 < 32 then
          some ((O0 4 v1.toNat) % 2)
        else none
      else
        some 0
def k_boundaryCount (O0 : Mo) : Int :=
  if O0 0 3 = 0 then
    0
  else
    O0 0 9
def i_u_check_108 (F : Nat) (O0 : Mo) (c58_1 c58_3 c58_5 c58_9 v10 v11 s0 : Int) : Option ((Int × Int) ⊕ (Int ⊕ Int)) :=
  (k_onBoundary F O0 v11).bind fun r =>
  if r = s0 then
    if s0 = 0 then
      some (Sum.inl ((v10, w32 (v11 + 1))))
    else
      some (Sum.inl ((w32 (v10 + 1), w32 (v11 + 1))))
  else
    some (Sum.inr (Sum.inr 0))
def i_u_check_97 (F : Nat) (O0 : Mo) (c58_1 c58_3 c58_5 c58_9 v10 v11 v12 : Int) : Option ((Int × Int) ⊕ (Int ⊕ Int)) :=
  if v12 = 2 then
    i_u_check_108 F O0 c58_1 c58_3 c58_5 c58_9 v10 v11 1
  else
    i_u_check_108 F O0 c58_1 c58_3 c58_5 c58_9 v10 v11 0
def b_u_check_58 (F : Nat) (O0 : Mo) (c58_1 c58_3 c58_5 c58_9 : Int) (v10 v11 : Int) : Option ((Int × Int) ⊕ (Int ⊕ Int)) :=
  if v11 < c58_9 then
    (k_pointX F O0 v11).bind fun r_1 =>
    (k_pointY F O0 v11).bind fun r_2 =>
    if k_locate O0 r_1 r_2 = 1 then
      i_u_check_97 F O0 c58_1 c58_3 c58_5 c58_9 v10 v11 (k_locate O0 r_1 r_2)
    else
      if k_locate O0 r_1 r_2 = 2 then
        i_u_check_97 F O0 c58_1 c58_3 c58_5 c58_9 v10 v11 (k_locate O0 r_1 r_2)
      else
        some (Sum.inr (Sum.inr 0))
  else
    some (Sum.inr (Sum.inl v10))
def b_u_check_226 (F : Nat) (O0 : Mo) (c226_1 c226_3 c226_5 c226_9 c226_11 c226_12 c226_14 c226_16 : Int) (v17 : Int) : Option (Int ⊕ (Unit ⊕ (Unit ⊕ Unit))) :=
  if v17 < c226_9 then
    (k_onBoundary F O0 v17).bind fun r_1 =>
    if r_1 = 0 then
      some (Sum.inl (w32 (v17 + 1)))
    else
      (k_pointX F O0 v17).bind fun r_2 =>
      lt (w64 ((w64 (r_2 * c226_1)) - c226_3)) fun v18 =>
      (k_pointY F O0 v17).bind fun r_3 =>
      lt (w64 ((w64 (r_3 * c226_1)) - c226_5)) fun v20 =>
      if w64 (c226_12 * v20) < w64 (c226_14 * v18) then
        some (Sum.inr (Sum.inr (Sum.inl (()))))
      else
        if w64 (c226_12 * v20) = w64 (c226_14 * v18) then
          if w64 (-(w64 (c226_14 * v20))) < w64 (c226_12 * v18) then
            some (Sum.inl (w32 (v17 + 1)))
          else
            some (Sum.inr (Sum.inr (Sum.inr (()))))
        else
          some (Sum.inl (w32 (v17 + 1)))
  else
    some (Sum.inr (Sum.inl (())))
def i_u_check_335 (F : Nat) (O0 : Mo) (c157_1 c157_3 c157_5 c157_9 v11 v16 : Int) : Option (Int ⊕ (Unit ⊕ Int)) :=
  if v16 = 0 then
    some (Sum.inl (w32 (v11 + 1)))
  else
    some (Sum.inr (Sum.inl (())))
def i_u_check_220 (F : Nat) (O0 : Mo) (c157_1 c157_3 c157_5 c157_9 v11 v12 v14 : Int) : Option (Int ⊕ (Unit ⊕ Int)) :=
  (loop (fun s => b_u_check_226 F O0 c157_1 c157_3 c157_5 c157_9 v11 v12 v14 1 s) F 0).bind fun r =>
  Sum.elim (fun r_1 =>
    i_u_check_335 F O0 c157_1 c157_3 c157_5 c157_9 v11 1)
    (fun r_2 =>
    Sum.elim (fun r_3 =>
      i_u_check_335 F O0 c157_1 c157_3 c157_5 c157_9 v11 0)
      (fun r_4 =>
      i_u_check_335 F O0 c157_1 c157_3 c157_5 c157_9 v11 0) r_2) r
def b_u_check_157 (F : Nat) (O0 : Mo) (c157_1 c157_3 c157_5 c157_9 : Int) (v11 : Int) : Option (Int ⊕ (Unit ⊕ Int)) :=
  if v11 < c157_9 then
    (k_onBoundary F O0 v11).bind fun r_1 =>
    if r_1 = 0 then
      some (Sum.inl (w32 (v11 + 1)))
    else
      (k_pointX F O0 v11).bind fun r_2 =>
      lt (w64 ((w64 (r_2 * c157_1)) - c157_3)) fun v12 =>
      (k_pointY F O0 v11).bind fun r_3 =>
      lt (w64 ((w64 (r_3 * c157_1)) - c157_5)) fun v14 =>
      if v12 = 0 then
        if v14 = 0 then
          some (Sum.inl (w32 (v11 + 1)))
        else
          i_u_check_220 F O0 c157_1 c157_3 c157_5 c157_9 v11 v12 v14
      else
        i_u_check_220 F O0 c157_1 c157_3 c157_5 c157_9 v11 v12 v14
  else
    some (Sum.inr (Sum.inr 1))
def u_check (F : Nat) (O0 : Mo) : Option Int :=
  if k_isSolved O0 = 0 then
    some 1
  else
    if k_centreDen O0 < 1 then
      some 0
    else
      if k_radiusSqNum O0 < 0 then
        some 0
      else
        (loop (fun s => b_u_check_58 F O0 (k_centreDen O0) (k_centreXNum O0) (k_centreYNum O0) (k_count O0) s.1 s.2) F ((0, 0))).bind fun r =>
        Sum.elim (fun r_1 =>
          if r_1 < 1 then
            some 0
          else
            if k_boundaryCount O0 = r_1 then
              (loop (fun s => b_u_check_157 F O0 (k_centreDen O0) (k_centreXNum O0) (k_centreYNum O0) (k_count O0) s) F 0).bind fun r_3 =>
              Sum.elim (fun r_4 =>
                some 0)
                (fun r_5 =>
                some r_5) r_3
            else
              some 0)
          (fun r_2 =>
          some r_2) r
def i_u_law_191 (F : Nat) (O0 : Mo) (xs : List Int) (v3 : Int) : Option ((Int × Mo) ⊕ (Mo ⊕ Int)) :=
  (u_check F O0).bind fun r =>
  if r = 0 then
    some (Sum.inr (Sum.inr 0))
  else
    some (Sum.inl ((w32 (v3 + 3), O0)))
def b_u_law_30 (F : Nat) (xs : List Int) (v3 : Int) (O0 : Mo) : Option ((Int × Mo) ⊕ (Mo ⊕ Int)) :=
  if v3 < (xs.length : Int) then
    (u_cell F xs v3).bind fun r_1 =>
    (u_pos F r_1 16).bind fun r_2 =>
    (u_cell F xs (w32 (v3 + 1))).bind fun r_3 =>
    (u_cell F xs (w32 (v3 + 2))).bind fun r_4 =>
    if r_2 < 4 then
      (u_pos F r_3 9).bind fun r_5 =>
      (u_pos F r_4 9).bind fun r_6 =>
      (k_addPoint F O0 (w32 (r_5 - 4)) (w32 (r_6 - 4))).bind fun r_7 =>
      i_u_law_191 F r_7.2 xs v3
    else
      if r_2 < 8 then
        (u_pos F r_3 511).bind fun r_8 =>
        (u_pos F r_4 511).bind fun r_9 =>
        (k_addPoint F O0 (w32 (r_8 - 255)) (w32 (r_9 - 255))).bind fun r_10 =>
        i_u_law_191 F r_10.2 xs v3
      else
        if r_2 < 12 then
          (k_solve F O0).bind fun r_11 =>
          i_u_law_191 F r_11.2 xs v3
        else
          if r_2 < 14 then
            (k_removeLast F O0).bind fun r_12 =>
            i_u_law_191 F r_12.2 xs v3
          else
            if r_2 = 14 then
              (k_solve F O0).bind fun r_13 =>
              (k_solve F r_13.2).bind fun r_14 =>
              i_u_law_191 F r_14.2 xs v3
            else
              (k_clear F O0).bind fun r_15 =>
              i_u_law_191 F r_15 xs v3
  else
    some (Sum.inr (Sum.inl O0))
def u_law (F : Nat) (xs : List Int) : Option Int :=
  (u_cell F xs 0).bind fun r =>
  (u_pos F r 25).bind fun r_1 =>
  (u_cell F xs 1).bind fun r_2 =>
  (k_ctor F (w32 (8 + r_1)) r_2).bind fun r_3 =>
  (loop (fun s => b_u_law_30 F xs s.1 s.2) F ((2, r_3))).bind fun r_4 =>
  Sum.elim (fun r_5 =>
    (k_solve F r_5).bind fun r_7 =>
    (u_check F r_7.2).bind fun r_8 =>
    some (r_8 % 2))
    (fun r_6 =>
    some r_6) r_4
end Jvm.Own

set_option maxHeartbeats 8000000
namespace Jvm.Own
theorem t32 {x : Int} (h1 : -2147483648 ≤ x) (h2 : x < 2147483648) : w32 x = x := Int.bmod_eq_of_le (by omega) (by omega)
theorem t64 {x : Int} (h1 : -9223372036854775808 ≤ x) (h2 : x < 9223372036854775808) : w64 x = x := Int.bmod_eq_of_le (by omega) (by omega)
theorem t8 {x : Int} (h1 : -128 ≤ x) (h2 : x < 128) : w8 x = x := Int.bmod_eq_of_le (by omega) (by omega)
theorem w32_ge (x : Int) : -2147483648 ≤ w32 x := by have := Int.le_bmod (x := x) (m := 4294967296) (by decide); simpa [w32] using this
theorem w32_lt (x : Int) : w32 x < 2147483648 := by have := Int.bmod_lt (x := x) (m := 4294967296) (by decide); simpa [w32] using this
theorem loop_inl {σ ρ : Type} {body : σ → Option (σ ⊕ ρ)} {n : Nat} {s s' : σ} (h : body s = some (Sum.inl s')) : loop body (n + 1) s = loop body n s' := by simp [loop, h]
theorem loop_inr {σ ρ : Type} {body : σ → Option (σ ⊕ ρ)} {n : Nat} {s : σ} {r : ρ} (h : body s = some (Sum.inr r)) : loop body (n + 1) s = some r := by simp [loop, h]
theorem lp_spec {σ ρ : Type} {body : σ → Option (σ ⊕ ρ)} (Inv : σ → Prop) (μ : σ → Nat) (Post : ρ → Prop)
    (h : ∀ s, Inv s → ∃ x, body s = some x ∧ Sum.elim (fun s' => Inv s' ∧ μ s' < μ s) Post x) : ∀ n s, Inv s → μ s < n → ∃ r, loop body n s = some r ∧ Post r
  | 0, s, _, hn => absurd hn (Nat.not_lt_zero _)
  | n + 1, s, hi, hn => by
    obtain ⟨x, hx, hr⟩ := h s hi
    cases x with
    | inl s' =>
      have hr' : Inv s' ∧ μ s' < μ s := hr
      obtain ⟨r, e, p⟩ := lp_spec Inv μ Post h n s' hr'.1 (by have := hr'.2; omega)
      exact ⟨r, by simp [loop, hx, e], p⟩
    | inr r => exact ⟨r, by simp [loop, hx], hr⟩
theorem lp_one {σ ρ : Type} {body : σ → Option (σ ⊕ ρ)} {F : Nat} {s : σ} {r : ρ} (hF : 0 < F) (h : body s = some (Sum.inr r)) : loop body F s = some r := by
  cases F with
  | zero => omega
  | succ n => exact loop_inr h
theorem lp_iter_from {σ ρ : Type} {body : σ → Option (σ ⊕ ρ)} (g : Nat → σ) (N : Nat) (r : ρ) (hs : ∀ k, k < N → body (g k) = some (Sum.inl (g (k + 1)))) (he : body (g N) = some (Sum.inr r)) :
    ∀ F k, k ≤ N → N - k < F → loop body F (g k) = some r
  | 0, k, _, h => by omega
  | F + 1, k, hk, h => by
    by_cases e : k = N
    · subst e; exact loop_inr he
    · rw [loop_inl (hs k (by omega))]
      exact lp_iter_from g N r hs he F (k + 1) (by omega) (by omega)
theorem lp_iter {σ ρ : Type} {body : σ → Option (σ ⊕ ρ)} (g : Nat → σ) (N : Nat) (r : ρ) (hs : ∀ k, k < N → body (g k) = some (Sum.inl (g (k + 1)))) (he : body (g N) = some (Sum.inr r)) {F : Nat} (hF : N < F) :
    loop body F (g 0) = some r := lp_iter_from g N r hs he F 0 (by omega) (by omega)
theorem lp_fill {body : Int × Mo → Option ((Int × Mo) ⊕ Mo)} (N : Nat) (Q : Nat → Mo → Prop)
    (hs : ∀ (k : Nat) (O : Mo), k < N → Q k O → ∃ O', body ((k : Int), O) = some (Sum.inl (((k + 1 : Nat) : Int), O')) ∧ Q (k + 1) O') (he : ∀ O, Q N O → body ((N : Int), O) = some (Sum.inr O))
    {F : Nat} (hF : N < F) {O : Mo} (h0 : Q 0 O) : ∃ R, loop body F ((0 : Int), O) = some R ∧ Q N R :=
  lp_spec (body := body) (fun s => ∃ k : Nat, k ≤ N ∧ s.1 = (k : Int) ∧ Q k s.2) (fun s => N - s.1.toNat) (Q N)
    (by
      rintro ⟨i, R⟩ ⟨k, hk, h1, h2⟩
      dsimp only at h1 h2
      subst h1
      by_cases h : k < N
      · obtain ⟨O', e, q⟩ := hs k R h h2
        refine ⟨_, e, ⟨k + 1, by omega, rfl, q⟩, ?_⟩
        dsimp only; omega
      · have : k = N := by omega
        subst this
        exact ⟨_, he R h2, h2⟩) F (0, O) ⟨0, by omega, rfl, h0⟩ (by dsimp only; omega)
theorem t32s {k : Nat} (h : k < 2147483647) : w32 ((k : Int) + 1) = ((k + 1 : Nat) : Int) := by rw [t32 (by omega) (by omega)]; omega
theorem lt_eq {α : Type} (e : Int) (K : Int → α) : lt e K = K e := rfl
end Jvm.Own

namespace Jvm.Own
abbrev Q2 := Rat × Rat
abbrev Dk := Rat × Rat × Rat
def pw (D : Dk) (p : Q2) : Rat := (p.1 - D.1) * (p.1 - D.1) + (p.2 - D.2.1) * (p.2 - D.2.1) - D.2.2
def gap (D E : Dk) : Rat := (D.1 - E.1) * (D.1 - E.1) + (D.2.1 - E.2.1) * (D.2.1 - E.2.1)
theorem sqn (x : Rat) : 0 ≤ x * x := by
  by_cases h : 0 ≤ x
  · exact Rat.mul_nonneg h h
  · have : 0 ≤ (-x) * (-x) := Rat.mul_nonneg (by grind) (by grind)
    grind
theorem sqz {x : Rat} (h : x * x ≤ 0) : x = 0 := by
  have e : x * x = 0 := Rat.le_antisymm h (sqn x)
  rcases Rat.mul_eq_zero.1 e with k | k <;> exact k
theorem gap_nn (D E : Dk) : 0 ≤ gap D E := by
  have := sqn (D.1 - E.1)
  have := sqn (D.2.1 - E.2.1)
  unfold gap; grind
theorem gap_comm (D E : Dk) : gap D E = gap E D := by unfold gap; grind
def Cert (D : Dk) (a b q : Q2) (al be ga : Rat) : Prop := al + be + ga = 1 ∧ D.1 = al * a.1 + be * b.1 + ga * q.1 ∧ D.2.1 = al * a.2 + be * b.2 + ga * q.2 ∧ pw D a = 0 ∧ pw D b = 0 ∧ ga * pw D q = 0
theorem Cert.idn {D : Dk} {a b q : Q2} {al be ga : Rat} (h : Cert D a b q al be ga) (E : Dk) : al * pw E a + be * pw E b + ga * pw E q = D.2.2 + gap D E - E.2.2 := by
  obtain ⟨h1, hx, hy, fa, fb, fq⟩ := h
  unfold pw gap at *
  grind
theorem Cert.min {D : Dk} {a b q : Q2} {al be ga : Rat} (h : Cert D a b q al be ga) {E : Dk} (k : al * pw E a + be * pw E b + ga * pw E q ≤ 0) : D.2.2 + gap D E ≤ E.2.2 := by
  have := h.idn E
  grind
/-- a disk between two -/
theorem cut {D E : Dk} {b : Q2} (h1 : 0 < pw D b) (h2 : pw E b ≤ 0) : ∃ M : Dk, pw M b = 0 ∧ (∀ p, pw D p ≤ 0 → pw E p ≤ 0 → pw M p ≤ 0) ∧ (∀ p, pw D p = 0 → pw E p = 0 → pw M p = 0) := by
  have hp : 0 < pw D b - pw E b := by grind
  have hk : (pw D b - pw E b) * (pw D b - pw E b)⁻¹ = 1 := Rat.mul_inv_cancel _ (by grind)
  have hi : 0 < (pw D b - pw E b)⁻¹ := Rat.inv_pos.2 hp
  generalize hK : (pw D b - pw E b)⁻¹ = K at *
  have s0 : 0 ≤ pw D b * K := Rat.mul_nonneg (by grind) (by grind)
  have s1 : 0 ≤ -pw E b * K := Rat.mul_nonneg (by grind) (by grind)
  have hs : pw D b * K + -pw E b * K = 1 := by grind
  generalize hS : pw D b * K = s at *
  generalize hT : -pw E b * K = t at *
  obtain ⟨M, hM⟩ : ∃ M : Dk, ∀ p, pw M p = t * pw D p + s * pw E p := by
    refine ⟨(t * D.1 + s * E.1, t * D.2.1 + s * E.2.1, (t * D.1 + s * E.1) * (t * D.1 + s * E.1) + (t * D.2.1 + s * E.2.1) * (t * D.2.1 + s * E.2.1) - t * (D.1 * D.1 + D.2.1 * D.2.1 - D.2.2) - s * (E.1 * E.1 + E.2.1 * E.2.1 - E.2.2)), fun p => ?_⟩
    unfold pw
    dsimp only
    grind
  refine ⟨M, ?_, fun p q1 q2 => ?_, fun p q1 q2 => ?_⟩
  · rw [hM, ← hS, ← hT]; grind
  · have := Rat.mul_nonneg s1 (show 0 ≤ -pw D p by grind)
    have := Rat.mul_nonneg s0 (show 0 ≤ -pw E p by grind)
    rw [hM]; grind
  · rw [hM, q1, q2]; grind
def crs (a b c : Q2) : Rat := (b.1 - a.1) * (c.2 - a.2) - (b.2 - a.2) * (c.1 - a.1)
theorem q2ne {a b : Q2} (h : a ≠ b) : 0 < (b.1 - a.1) * (b.1 - a.1) + (b.2 - a.2) * (b.2 - a.2) := by
  have s1 := sqn (b.1 - a.1)
  have s2 := sqn (b.2 - a.2)
  by_cases c : 0 < (b.1 - a.1) * (b.1 - a.1) + (b.2 - a.2) * (b.2 - a.2)
  · exact c
  · exfalso
    have e1 := sqz (x := b.1 - a.1) (by grind)
    have e2 := sqz (x := b.2 - a.2) (by grind)
    apply h
    exact Prod.ext (by grind) (by grind)
theorem noncol {D E : Dk} {a b c : Q2} (hab : a ≠ b) (da : pw D a = 0) (db : pw D b = 0) (ea : pw E a = 0) (eb : pw E b = 0) (hc : pw D c ≠ pw E c) : crs a b c ≠ 0 := by
  intro h
  have hp := q2ne hab
  apply hc
  have key : ((b.1 - a.1) * (b.1 - a.1) + (b.2 - a.2) * (b.2 - a.2)) * (pw D c - pw E c) = 0 := by
    unfold pw crs at *
    grind
  have : pw D c - pw E c = 0 := (Rat.mul_eq_zero.1 key).resolve_left (by grind)
  grind
theorem circ_uniq {D E : Dk} {a b c : Q2} (h : crs a b c ≠ 0) (da : pw D a = 0) (db : pw D b = 0) (dc : pw D c = 0) (ea : pw E a = 0) (eb : pw E b = 0) (ec : pw E c = 0) : D = E := by
  have k1 : crs a b c * (D.1 - E.1) = 0 := by unfold pw crs at *; grind
  have k2 : crs a b c * (D.2.1 - E.2.1) = 0 := by unfold pw crs at *; grind
  have e1 : D.1 = E.1 := by have := (Rat.mul_eq_zero.1 k1).resolve_left h; grind
  have e2 : D.2.1 = E.2.1 := by have := (Rat.mul_eq_zero.1 k2).resolve_left h; grind
  have e3 : D.2.2 = E.2.2 := by unfold pw at *; grind
  exact Prod.ext e1 (Prod.ext e2 e3)
theorem bary {D : Dk} {a b c : Q2} (h : crs a b c ≠ 0) (da : pw D a = 0) (db : pw D b = 0) (dc : pw D c = 0) : ∃ al be ga, Cert D a b c al be ga := by
  have hk : crs a b c * (crs a b c)⁻¹ = 1 := Rat.mul_inv_cancel _ h
  generalize hK : (crs a b c)⁻¹ = K at *
  refine ⟨1 - crs a (D.1, D.2.1) c * K - crs a b (D.1, D.2.1) * K, crs a (D.1, D.2.1) c * K, crs a b (D.1, D.2.1) * K, by grind, ?_, ?_, da, db, by rw [dc]; grind⟩
  · unfold crs at *; dsimp only at *; grind
  · unfold crs at *; dsimp only at *; grind
def In (D : Dk) (p : Nat → Q2) (k : Nat) : Prop := ∀ l, l < k → pw D (p l) ≤ 0
theorem In.s {D : Dk} {p : Nat → Q2} {k : Nat} (h : In D p k) (q : pw D (p k) ≤ 0) : In D p (k + 1) := by
  intro l hl
  by_cases e : l = k
  · rw [e]; exact q
  · exact h l (by omega)
def Hld (D : Dk) (p : Nat → Q2) (k : Nat) (ga : Rat) (q : Q2) : Prop := ga = 0 ∨ ∃ l, l < k ∧ q = p l ∧ pw D q = 0
theorem Hld.s {D : Dk} {p : Nat → Q2} {k : Nat} {ga : Rat} {q : Q2} (h : Hld D p k ga q) : Hld D p (k + 1) ga q := by
  rcases h with h | ⟨l, h1, h2⟩
  · exact Or.inl h
  · exact Or.inr ⟨l, by omega, h2⟩
theorem Hld.np {D E : Dk} {p : Nat → Q2} {k : Nat} {ga : Rat} {q : Q2} (h : Hld D p k ga q) (h0 : 0 ≤ ga) (hE : In E p k) : ga * pw E q ≤ 0 := by
  rcases h with h | ⟨l, h1, h2, _⟩
  · rw [h]; grind
  · have := Rat.mul_nonneg h0 (show 0 ≤ -pw E q by rw [h2]; have := hE l h1; grind)
    grind
theorem nnz {x y : Rat} (h : 0 ≤ x * y) (hy : 0 < y) : 0 ≤ x := by
  by_cases c : 0 ≤ x
  · exact c
  · exfalso
    have := Rat.mul_pos (show 0 < -x by grind) hy
    grind
def I2 (a b : Q2) (p : Nat → Q2) (k : Nat) (D : Dk) : Prop := ∃ q al be ga, Cert D a b q al be ga ∧ 0 ≤ ga ∧ Hld D p k ga q ∧ In D p k
theorem I2.start (a b : Q2) (p : Nat → Q2) : I2 a b p 0 ((a.1 + b.1) / 2, (a.2 + b.2) / 2, ((a.1 - b.1) * (a.1 - b.1) + (a.2 - b.2) * (a.2 - b.2)) / 4) := by
  refine ⟨a, 1 / 2, 1 / 2, 0, ⟨by grind, ?_, ?_, ?_, ?_, by grind⟩, by grind, Or.inl rfl, fun l hl => absurd hl (Nat.not_lt_zero _)⟩
  · dsimp only; grind
  · dsimp only; grind
  · unfold pw; dsimp only; grind
  · unfold pw; dsimp only; grind
theorem I2.inn {a b : Q2} {p : Nat → Q2} {k : Nat} {D : Dk} (h : I2 a b p k D) (q : pw D (p k) ≤ 0) : I2 a b p (k + 1) D := by
  obtain ⟨x, al, be, ga, c, g, l, i⟩ := h
  exact ⟨x, al, be, ga, c, g, l.s, i.s q⟩
theorem I2.out {a b : Q2} {p : Nat → Q2} {k : Nat} {D E : Dk} (hab : a ≠ b) (h : I2 a b p k D) (q : 0 < pw D (p k)) (ea : pw E a = 0) (eb : pw E b = 0) (hE : In E p (k + 1)) :
    crs a b (p k) ≠ 0 ∧ ∀ N, pw N a = 0 → pw N b = 0 → pw N (p k) = 0 → I2 a b p (k + 1) N := by
  obtain ⟨x, al, be, ga, c, g, l, i⟩ := h
  have hc := hE k (by omega)
  have da := c.2.2.2.1
  have db := c.2.2.2.2.1
  have nc := noncol hab da db ea eb (c := p k) (by grind)
  refine ⟨nc, fun N na nb nk => ?_⟩
  obtain ⟨M, m1, m2, m3⟩ := cut q hc
  have e : N = M := circ_uniq nc na nb nk (m3 a da ea) (m3 b db eb) m1
  have iN : In N p k := fun l hl => by rw [e]; exact m2 _ (i l hl) (hE l (by omega))
  obtain ⟨al', be', ga', c'⟩ := bary nc na nb nk
  have mn := c.min (E := N) (by rw [na, nb]; have := l.np g iN; grind)
  have id := c'.idn D
  have gn := gap_nn D N
  rw [gap_comm N D, da, db] at id
  have g' : 0 ≤ ga' := nnz (y := pw D (p k)) (by grind) q
  exact ⟨p k, al', be', ga', c', g', Or.inr ⟨k, by omega, rfl, nk⟩, iN.s (by grind)⟩
def I1 (a : Q2) (p : Nat → Q2) (j : Nat) (D : Dk) : Prop := pw D a = 0 ∧ In D p j ∧ (D = (a.1, a.2, 0) ∨ ∃ b q al be ga, Cert D a b q al be ga ∧ 0 ≤ be ∧ 0 ≤ ga ∧ (∃ l, l < j ∧ b = p l) ∧ Hld D p j ga q)
theorem I1.min {a : Q2} {p : Nat → Q2} {j : Nat} {D E : Dk} (h : I1 a p j D) (ea : pw E a = 0) (hE : In E p j) : D.2.2 + gap D E ≤ E.2.2 := by
  obtain ⟨_, _, h | ⟨b, q, al, be, ga, c, hb, hg, ⟨l, hl, el⟩, hh⟩⟩ := h
  · rw [h]; unfold gap pw at *; dsimp only; grind
  · refine c.min ?_
    have := hh.np hg hE
    have := Rat.mul_nonneg hb (show 0 ≤ -pw E b by rw [el]; have := hE l hl; grind)
    rw [ea]; grind
theorem I1.start (a : Q2) (p : Nat → Q2) : I1 a p 0 (a.1, a.2, 0) := ⟨by unfold pw; dsimp only; grind, fun l hl => absurd hl (Nat.not_lt_zero _), Or.inl rfl⟩
theorem I1.inn {a : Q2} {p : Nat → Q2} {j : Nat} {D : Dk} (h : I1 a p j D) (q : pw D (p j) ≤ 0) : I1 a p (j + 1) D := by
  obtain ⟨h1, h2, h3⟩ := h
  refine ⟨h1, h2.s q, ?_⟩
  rcases h3 with h3 | ⟨b, q, al, be, ga, c, hb, hg, ⟨l, hl, el⟩, hh⟩
  · exact Or.inl h3
  · exact Or.inr ⟨b, q, al, be, ga, c, hb, hg, ⟨l, by omega, el⟩, hh.s⟩
theorem I1.out {a : Q2} {p : Nat → Q2} {j : Nat} {D E : Dk} (h : I1 a p j D) (q : 0 < pw D (p j)) (ea : pw E a = 0) (hE : In E p (j + 1)) :
    a ≠ p j ∧ (∃ E2, pw E2 a = 0 ∧ pw E2 (p j) = 0 ∧ In E2 p j) ∧ ∀ N, I2 a (p j) p j N → I1 a p (j + 1) N := by
  have hj := hE j (by omega)
  refine ⟨fun e => ?_, ?_, fun N hN => ?_⟩
  · have := h.1
    rw [e] at this
    grind
  · obtain ⟨M, m1, m2, m3⟩ := cut q hj
    exact ⟨M, m3 a h.1 ea, m1, fun l hl => m2 _ (h.2.1 l hl) (hE l (by omega))⟩
  · obtain ⟨x, al, be, ga, c, g, l, i⟩ := hN
    have na := c.2.2.2.1
    have nb := c.2.2.2.2.1
    have mn := h.min na i
    have id := c.idn D
    have gn := gap_nn D N
    have k1 := l.np g h.2.1
    rw [gap_comm N D, h.1] at id
    have b' : 0 ≤ be := nnz (y := pw D (p j)) (by grind) q
    exact ⟨na, i.s (by grind), Or.inr ⟨p j, x, al, be, ga, c, b', g, ⟨j, by omega, rfl⟩, l.s⟩⟩
def I0 (p : Nat → Q2) (i : Nat) (D : Dk) : Prop := In D p i ∧ ((∃ l, l < i ∧ D = ((p l).1, (p l).2, 0)) ∨ ∃ a b q al be ga, Cert D a b q al be ga ∧ 0 ≤ al ∧ 0 ≤ be ∧ 0 ≤ ga ∧ (∃ l, l < i ∧ a = p l) ∧ (∃ l, l < i ∧ b = p l) ∧ Hld D p i ga q)
theorem I0.min {p : Nat → Q2} {i : Nat} {D E : Dk} (h : I0 p i D) (hE : In E p i) : D.2.2 + gap D E ≤ E.2.2 := by
  obtain ⟨_, ⟨l, hl, h⟩ | ⟨a, b, q, al, be, ga, c, ha, hb, hg, ⟨l, hl, el⟩, ⟨m, hm, em⟩, hh⟩⟩ := h
  · have := hE l hl
    rw [h]; unfold gap pw at *; dsimp only; grind
  · refine c.min ?_
    have := hh.np hg hE
    have := Rat.mul_nonneg hb (show 0 ≤ -pw E b by rw [em]; have := hE m hm; grind)
    have := Rat.mul_nonneg ha (show 0 ≤ -pw E a by rw [el]; have := hE l hl; grind)
    grind
theorem I0.start (p : Nat → Q2) : I0 p 1 ((p 0).1, (p 0).2, 0) := by
  refine ⟨fun l hl => ?_, Or.inl ⟨0, by omega, rfl⟩⟩
  have : l = 0 := by omega
  rw [this]; unfold pw; dsimp only; grind
theorem I0.inn {p : Nat → Q2} {i : Nat} {D : Dk} (h : I0 p i D) (q : pw D (p i) ≤ 0) : I0 p (i + 1) D := by
  obtain ⟨h1, h2⟩ := h
  refine ⟨h1.s q, ?_⟩
  rcases h2 with ⟨l, hl, h⟩ | ⟨a, b, q, al, be, ga, c, ha, hb, hg, ⟨l, hl, el⟩, ⟨m, hm, em⟩, hh⟩
  · exact Or.inl ⟨l, by omega, h⟩
  · exact Or.inr ⟨a, b, q, al, be, ga, c, ha, hb, hg, ⟨l, by omega, el⟩, ⟨m, by omega, em⟩, hh.s⟩
theorem bigr (p : Nat → Q2) : ∀ n : Nat, ∃ R : Rat, ∀ l, l < n → (p l).1 * (p l).1 + (p l).2 * (p l).2 ≤ R
  | 0 => ⟨0, fun l hl => absurd hl (Nat.not_lt_zero _)⟩
  | n + 1 => by
    obtain ⟨R, h⟩ := bigr p n
    have s1 := sqn (p n).1
    have s2 := sqn (p n).2
    have s3 := sqn R
    by_cases c : R ≤ (p n).1 * (p n).1 + (p n).2 * (p n).2
    · refine ⟨(p n).1 * (p n).1 + (p n).2 * (p n).2, fun l hl => ?_⟩
      by_cases e : l = n
      · rw [e]; exact Rat.le_refl
      · have := h l (by omega); grind
    · refine ⟨R, fun l hl => ?_⟩
      by_cases e : l = n
      · rw [e]; grind
      · exact h l (by omega)
theorem I0.out {p : Nat → Q2} {i : Nat} {D : Dk} (h : I0 p i D) (hi : 1 ≤ i) (q : 0 < pw D (p i)) (hd : p 0 ≠ p i) :
    (∃ E, pw E (p i) = 0 ∧ In E p i) ∧ ∀ N, I1 (p i) p i N → I0 p (i + 1) N := by
  constructor
  · obtain ⟨R, hR⟩ := bigr p (i + 1)
    have bF : ∀ l, l < i + 1 → pw ((0, 0, R) : Dk) (p l) ≤ 0 := fun l hl => by
      have := hR l hl
      unfold pw; dsimp only; grind
    obtain ⟨M, m1, m2, m3⟩ := cut q (bF i (by omega))
    exact ⟨M, m1, fun l hl => m2 _ (h.1 l hl) (bF l (by omega))⟩
  · rintro N ⟨na, iN, hN⟩
    rcases hN with hN | ⟨b, x, al, be, ga, c, hb, hg, ⟨l, hl, el⟩, hh⟩
    · exfalso
      have := iN 0 (by omega)
      have k := q2ne hd
      rw [hN] at this
      unfold pw at this
      dsimp only at this
      grind
    · have mn := h.min iN
      have id := c.idn D
      have gn := gap_nn D N
      have k1 := hh.np hg h.1
      have k2 := Rat.mul_nonneg hb (show 0 ≤ -pw D b by rw [el]; have := h.1 l hl; grind)
      rw [gap_comm N D] at id
      have a' : 0 ≤ al := nnz (y := pw D (p i)) (by grind) q
      exact ⟨iN.s (by grind), Or.inr ⟨p i, b, x, al, be, ga, c, a', hb, hg, ⟨i, by omega, rfl⟩, ⟨l, by omega, el⟩, hh.s⟩⟩
theorem I0.uniq {p p' : Nat → Q2} {n n' : Nat} {D E : Dk} (h : I0 p n D) (k : I0 p' n' E) (h1 : ∀ l, l < n → ∃ m, m < n' ∧ p l = p' m) (h2 : ∀ l, l < n' → ∃ m, m < n ∧ p' l = p m) : D = E := by
  have a := h.min (E := E) (fun l hl => by obtain ⟨m, hm, e⟩ := h1 l hl; rw [e]; exact k.1 m hm)
  have b := k.min (E := D) (fun l hl => by obtain ⟨m, hm, e⟩ := h2 l hl; rw [e]; exact h.1 m hm)
  have g := gap_nn D E
  rw [gap_comm E D] at b
  have g0 : gap D E ≤ 0 := by grind
  unfold gap at g0 a b
  have s1 := sqn (D.1 - E.1)
  have s2 := sqn (D.2.1 - E.2.1)
  have e1 := sqz (x := D.1 - E.1) (by grind)
  have e2 := sqz (x := D.2.1 - E.2.1) (by grind)
  exact Prod.ext (by grind) (Prod.ext (by grind) (by grind))
end Jvm.Own

--USES Tools.lean
--USES MC_geo.lean
namespace Jvm.Own
theorem mlb {x y a b : Int} (h1 : -a ≤ x) (h2 : x ≤ a) (h3 : -b ≤ y) (h4 : y ≤ b) : -(a * b) ≤ x * y ∧ x * y ≤ a * b := by
  have a1 : 0 ≤ (a - x) * (b - y) := Int.mul_nonneg (by omega) (by omega)
  have a2 : 0 ≤ (a + x) * (b + y) := Int.mul_nonneg (by omega) (by omega)
  have a3 : 0 ≤ (a - x) * (b + y) := Int.mul_nonneg (by omega) (by omega)
  have a4 : 0 ≤ (a + x) * (b - y) := Int.mul_nonneg (by omega) (by omega)
  grind
theorem isq (x : Int) : 0 ≤ x * x := by
  by_cases h : 0 ≤ x
  · exact Int.mul_nonneg h h
  · have := Int.mul_nonneg (a := -x) (b := -x) (by omega) (by omega)
    rw [Int.neg_mul_neg] at this; exact this
/-- the working disk -/
def rd (O : Mo) : Dk := ((O 0 10 : Rat) / (O 0 12 : Rat), (O 0 11 : Rat) / (O 0 12 : Rat), (O 0 13 : Rat) / ((O 0 12 : Rat) * (O 0 12 : Rat)))
def qp (O : Mo) (i : Nat) : Q2 := ((O 1 i : Rat), (O 2 i : Rat))
def Pr1 (O : Mo) (i : Nat) : Prop := -255 ≤ O 1 i ∧ O 1 i ≤ 255 ∧ -255 ≤ O 2 i ∧ O 2 i ≤ 255
def Wb (O : Mo) : Prop := 1 ≤ O 0 12 ∧ O 0 12 ≤ 1040400 ∧ (-800000000 ≤ O 0 10 ∧ O 0 10 ≤ 800000000) ∧ (-800000000 ≤ O 0 11 ∧ O 0 11 ≤ 800000000)
def FrW (O R : Mo) : Prop := ∀ a i, ¬ (a = 0 ∧ 10 ≤ i ∧ i ≤ 13) → R a i = O a i
theorem FrW.refl (O : Mo) : FrW O O := fun _ _ _ => rfl
theorem FrW.trans {A B C : Mo} (h : FrW A B) (k : FrW B C) : FrW A C := fun a i q => by rw [k a i q, h a i q]
theorem FrW.qp {O R : Mo} (h : FrW O R) (i : Nat) : Jvm.Own.qp R i = Jvm.Own.qp O i := by unfold Jvm.Own.qp; rw [h 1 i (by omega), h 2 i (by omega)]
theorem FrW.pr {O R : Mo} (h : FrW O R) {i : Nat} (k : Pr1 O i) : Pr1 R i := by unfold Pr1 at *; rw [h 1 i (by omega), h 2 i (by omega)]; exact k
/-- the power of a point, in whole numbers -/
def ipw (X Y d x y : Int) : Int := (x * d - X) * (x * d - X) + (y * d - Y) * (y * d - Y)
theorem pw_cast {X Y d R x y : Int} (hd : 1 ≤ d) : pw ((X : Rat) / (d : Rat), (Y : Rat) / (d : Rat), (R : Rat) / ((d : Rat) * (d : Rat))) ((x : Rat), (y : Rat)) * ((d : Rat) * (d : Rat)) = ((ipw X Y d x y - R : Int) : Rat) := by
  have hd0 : (d : Rat) ≠ 0 := by
    intro h
    have : d = 0 := by
      have h2 : ((d : Int) : Rat) = ((0 : Int) : Rat) := h
      exact Rat.intCast_inj.1 h2
    omega
  unfold pw ipw
  dsimp only
  rw [Rat.intCast_sub, Rat.intCast_add, Rat.intCast_mul, Rat.intCast_mul, Rat.intCast_sub, Rat.intCast_sub, Rat.intCast_mul, Rat.intCast_mul]
  grind
theorem dpos {d : Int} (hd : 1 ≤ d) : 0 < (d : Rat) * (d : Rat) := by
  have h1 : (0 : Rat) < (d : Rat) := by
    have : ((0 : Int) : Rat) < ((d : Int) : Rat) := Rat.intCast_lt_intCast.2 (by omega)
    exact this
  exact Rat.mul_pos h1 h1
theorem pw_iff {X Y d R x y : Int} (hd : 1 ≤ d) : pw ((X : Rat) / (d : Rat), (Y : Rat) / (d : Rat), (R : Rat) / ((d : Rat) * (d : Rat))) ((x : Rat), (y : Rat)) ≤ 0 ↔ ipw X Y d x y ≤ R := by
  have e := pw_cast (X := X) (Y := Y) (R := R) (x := x) (y := y) hd
  have dp := dpos hd
  generalize pw ((X : Rat) / (d : Rat), (Y : Rat) / (d : Rat), (R : Rat) / ((d : Rat) * (d : Rat))) ((x : Rat), (y : Rat)) = w at *
  generalize (d : Rat) * (d : Rat) = dd at *
  have z : ((0 : Int) : Rat) = 0 := rfl
  constructor
  · intro h
    have k := Rat.mul_nonneg (show 0 ≤ -w by grind) (show 0 ≤ dd by grind)
    have : ((ipw X Y d x y - R : Int) : Rat) ≤ ((0 : Int) : Rat) := by rw [← e, z]; grind
    have := Rat.intCast_le_intCast.1 this
    omega
  · intro h
    by_cases c : w ≤ 0
    · exact c
    · exfalso
      have k := Rat.mul_pos (show 0 < w by grind) dp
      have : ((0 : Int) : Rat) < ((ipw X Y d x y - R : Int) : Rat) := by rw [← e, z]; exact k
      have := Rat.intCast_lt_intCast.1 this
      omega
theorem ipw_b {X Y d x y : Int} (h1 : 1 ≤ d) (h2 : d ≤ 1040400) (hX : -800000000 ≤ X ∧ X ≤ 800000000) (hY : -800000000 ≤ Y ∧ Y ≤ 800000000) (hx : -255 ≤ x ∧ x ≤ 255) (hy : -255 ≤ y ∧ y ≤ 255) :
    (-265302000 ≤ x * d ∧ x * d ≤ 265302000) ∧ (-265302000 ≤ y * d ∧ y * d ≤ 265302000) ∧ ((x * d - X) * (x * d - X) ≤ 1200000000000000000) ∧ ((y * d - Y) * (y * d - Y) ≤ 1200000000000000000) := by
  have m1 := mlb (x := x) (y := d) (a := 255) (b := 1040400) (by omega) (by omega) (by omega) (by omega)
  have m2 := mlb (x := y) (y := d) (a := 255) (b := 1040400) (by omega) (by omega) (by omega) (by omega)
  have m3 := mlb (x := x * d - X) (y := x * d - X) (a := 1065302000) (b := 1065302000) (by omega) (by omega) (by omega) (by omega)
  have m4 := mlb (x := y * d - Y) (y := y * d - Y) (a := 1065302000) (b := 1065302000) (by omega) (by omega) (by omega) (by omega)
  omega
theorem out_ok {F : Nat} {O : Mo} (h : Wb O) {i : Nat} (hi : i < 32) (hp : Pr1 O i) : (pw (rd O) (qp O i) ≤ 0 ∧ k_outside F O (i : Int) = some 0) ∨ (0 < pw (rd O) (qp O i) ∧ k_outside F O (i : Int) = some 1) := by
  obtain ⟨d1, d2, dx, dy⟩ := h
  obtain ⟨p1, p2, p3, p4⟩ := hp
  obtain ⟨b1, b2, b3, b4⟩ := ipw_b d1 d2 dx dy (x := O 1 i) (y := O 2 i) ⟨p1, p2⟩ ⟨p3, p4⟩
  have q1 := isq (O 1 i * O 0 12 - O 0 10)
  have q2 := isq (O 2 i * O 0 12 - O 0 11)
  have g : (0 : Int) ≤ (i : Int) ∧ (i : Int) < 32 := by omega
  have iff := pw_iff (X := O 0 10) (Y := O 0 11) (R := O 0 13) (x := O 1 i) (y := O 2 i) d1
  have e : k_outside F O (i : Int) = some (if ipw (O 0 10) (O 0 11) (O 0 12) (O 1 i) (O 2 i) ≤ O 0 13 then 0 else 1) := by
    unfold k_outside ipw
    simp only [if_pos g, Int.toNat_natCast, lt_eq]
    rw [t64 (x := O 1 i * O 0 12) (by omega) (by omega), t64 (x := O 2 i * O 0 12) (by omega) (by omega), t64 (x := O 1 i * O 0 12 - O 0 10) (by omega) (by omega), t64 (x := O 2 i * O 0 12 - O 0 11) (by omega) (by omega), t64 (x := (O 1 i * O 0 12 - O 0 10) * (O 1 i * O 0 12 - O 0 10)) (by omega) (by omega), t64 (x := (O 2 i * O 0 12 - O 0 11) * (O 2 i * O 0 12 - O 0 11)) (by omega) (by omega), t64 (by omega) (by omega)]
    split <;> rfl
  by_cases c : ipw (O 0 10) (O 0 11) (O 0 12) (O 1 i) (O 2 i) ≤ O 0 13
  · rw [if_pos c] at e
    exact Or.inl ⟨iff.2 c, e⟩
  · rw [if_neg c] at e
    refine Or.inr ⟨?_, e⟩
    have : ¬ pw (rd O) (qp O i) ≤ 0 := fun k => c (iff.1 k)
    grind
theorem setPoint_ok {F : Nat} {O : Mo} {i : Nat} (hi : i < 32) (hp : Pr1 O i) : ∃ R, k_setPoint F O (i : Int) = some R ∧ FrW O R ∧ Wb R ∧ rd R = ((qp O i).1, (qp O i).2, 0) := by
  have g : (0 : Int) ≤ (i : Int) ∧ (i : Int) < 32 := by omega
  obtain ⟨p1, p2, p3, p4⟩ := hp
  refine ⟨upd (upd (upd (upd O 0 10 (O 1 i)) 0 11 (O 2 i)) 0 12 1) 0 13 0, ?_, ?_, ?_, ?_⟩
  · unfold k_setPoint
    rw [if_pos g, if_pos g, Int.toNat_natCast]
    have : upd O 0 10 (O 1 i) 2 i = O 2 i := upd_ne (by omega)
    rw [this]
  · intro a j h; rw [upd_ne (by omega), upd_ne (by omega), upd_ne (by omega), upd_ne (by omega)]
  · unfold Wb; simp [upd]; omega
  · unfold rd qp
    simp only [upd]
    simp
    constructor
    · grind
    · constructor <;> grind
theorem setPair_ok {F : Nat} {O : Mo} {i j : Nat} (hi : i < 32) (hj : j < 32) (hp : Pr1 O i) (hq : Pr1 O j) : ∃ R, k_setPair F O (i : Int) (j : Int) = some R ∧ FrW O R ∧ Wb R ∧ rd R = (((qp O i).1 + (qp O j).1) / 2, ((qp O i).2 + (qp O j).2) / 2, (((qp O i).1 - (qp O j).1) * ((qp O i).1 - (qp O j).1) + ((qp O i).2 - (qp O j).2) * ((qp O i).2 - (qp O j).2)) / 4) := by
  have g : (0 : Int) ≤ (i : Int) ∧ (i : Int) < 32 := by omega
  have g2 : (0 : Int) ≤ (j : Int) ∧ (j : Int) < 32 := by omega
  obtain ⟨p1, p2, p3, p4⟩ := hp
  obtain ⟨q1, q2, q3, q4⟩ := hq
  have m1 := mlb (x := O 1 i - O 1 j) (y := O 1 i - O 1 j) (a := 510) (b := 510) (by omega) (by omega) (by omega) (by omega)
  have m2 := mlb (x := O 2 i - O 2 j) (y := O 2 i - O 2 j) (a := 510) (b := 510) (by omega) (by omega) (by omega) (by omega)
  refine ⟨upd (upd (upd (upd O 0 10 (O 1 i + O 1 j)) 0 11 (O 2 i + O 2 j)) 0 12 2) 0 13 ((O 1 i - O 1 j) * (O 1 i - O 1 j) + (O 2 i - O 2 j) * (O 2 i - O 2 j)), ?_, ?_, ?_, ?_⟩
  · have r1 : ∀ (v : Int) (k : Nat), upd O 0 10 v 2 k = O 2 k := fun v k => upd_ne (by omega)
    have r2 : ∀ (u v w : Int) (k : Nat), upd (upd (upd O 0 10 u) 0 11 v) 0 12 w 1 k = O 1 k := fun u v w k => by rw [upd_ne (by omega), upd_ne (by omega), upd_ne (by omega)]
    have r3 : ∀ (u v w : Int) (k : Nat), upd (upd (upd O 0 10 u) 0 11 v) 0 12 w 2 k = O 2 k := fun u v w k => by rw [upd_ne (by omega), upd_ne (by omega), upd_ne (by omega)]
    unfold k_setPair
    simp only [if_pos g, if_pos g2, Int.toNat_natCast, lt_eq, r1, r2, r3]
    rw [t64 (x := O 1 i + O 1 j) (by omega) (by omega), t64 (x := O 2 i + O 2 j) (by omega) (by omega), t64 (x := O 1 i - O 1 j) (by omega) (by omega), t64 (x := O 2 i - O 2 j) (by omega) (by omega), t64 (x := (O 1 i - O 1 j) * (O 1 i - O 1 j)) (by omega) (by omega), t64 (x := (O 2 i - O 2 j) * (O 2 i - O 2 j)) (by omega) (by omega), t64 (by omega) (by omega)]
  · intro a j h; rw [upd_ne (by omega), upd_ne (by omega), upd_ne (by omega), upd_ne (by omega)]
  · unfold Wb; simp [upd]; omega
  · unfold rd qp
    simp only [upd]
    simp
    grind
theorem i2r {a b : Int} (h : a = b) : (a : Rat) = (b : Rat) := by rw [h]
/-- the circle through three points, by its numbers -/
theorem circ_pw {xa ya ax ay bx bb d ux uy : Rat} (hd : d ≠ 0) (h1 : d = 2 * (ax * bb - ay * bx)) (h2 : ux = bb * (ax * ax + ay * ay) - ay * (bx * bx + bb * bb)) (h3 : uy = ax * (bx * bx + bb * bb) - bx * (ax * ax + ay * ay)) :
    pw ((xa * d + ux) / d, (ya * d + uy) / d, (ux * ux + uy * uy) / (d * d)) (xa, ya) = 0 ∧ pw ((xa * d + ux) / d, (ya * d + uy) / d, (ux * ux + uy * uy) / (d * d)) (xa + ax, ya + ay) = 0 ∧ pw ((xa * d + ux) / d, (ya * d + uy) / d, (ux * ux + uy * uy) / (d * d)) (xa + bx, ya + bb) = 0 := by
  have k1 : ax * ux + ay * uy = (ax * ax + ay * ay) * (d / 2) := by grind
  have k2 : bx * ux + bb * uy = (bx * bx + bb * bb) * (d / 2) := by grind
  have e1 : (xa * d + ux) / d = xa + ux / d := by grind
  have e2 : (ya * d + uy) / d = ya + uy / d := by grind
  rw [e1, e2]
  unfold pw
  dsimp only
  clear h1 h2 h3 e1 e2
  have hdd : d * d ≠ 0 := fun w => by rcases Rat.mul_eq_zero.1 w with w | w <;> exact hd w
  refine ⟨by grind, ?_, ?_⟩
  · have : (ax * ux + ay * uy) / d = (ax * ax + ay * ay) / 2 := by grind
    grind
  · have : (bx * ux + bb * uy) / d = (bx * bx + bb * bb) / 2 := by grind
    grind
theorem setTriple_ok {F : Nat} {O : Mo} {i j k : Nat} (hi : i < 32) (hj : j < 32) (hk : k < 32) (hp : Pr1 O i) (hq : Pr1 O j) (hr : Pr1 O k) (hc : crs (qp O i) (qp O j) (qp O k) ≠ 0) :
    ∃ R, k_setTriple F O (i : Int) (j : Int) (k : Int) = some R ∧ FrW O R ∧ Wb R ∧ pw (rd R) (qp O i) = 0 ∧ pw (rd R) (qp O j) = 0 ∧ pw (rd R) (qp O k) = 0 := by
  have g : (0 : Int) ≤ (i : Int) ∧ (i : Int) < 32 := by omega
  have g2 : (0 : Int) ≤ (j : Int) ∧ (j : Int) < 32 := by omega
  have g3 : (0 : Int) ≤ (k : Int) ∧ (k : Int) < 32 := by omega
  obtain ⟨p1, p2, p3, p4⟩ := hp
  obtain ⟨q1, q2, q3, q4⟩ := hq
  obtain ⟨r1, r2, r3, r4⟩ := hr
  unfold k_setTriple
  simp only [if_pos g, if_pos g2, if_pos g3, Int.toNat_natCast, lt_eq]
  rw [t64 (x := O 1 j - O 1 i) (by omega) (by omega), t64 (x := O 2 j - O 2 i) (by omega) (by omega), t64 (x := O 1 k - O 1 i) (by omega) (by omega), t64 (x := O 2 k - O 2 i) (by omega) (by omega)]
  have cx : (O 1 j : Rat) = (O 1 i : Rat) + ((O 1 j - O 1 i : Int) : Rat) := by rw [Rat.intCast_sub]; grind
  have cy : (O 2 j : Rat) = (O 2 i : Rat) + ((O 2 j - O 2 i : Int) : Rat) := by rw [Rat.intCast_sub]; grind
  have dx : (O 1 k : Rat) = (O 1 i : Rat) + ((O 1 k - O 1 i : Int) : Rat) := by rw [Rat.intCast_sub]; grind
  have dy : (O 2 k : Rat) = (O 2 i : Rat) + ((O 2 k - O 2 i : Int) : Rat) := by rw [Rat.intCast_sub]; grind
  have qj : qp O j = ((O 1 i : Rat) + ((O 1 j - O 1 i : Int) : Rat), (O 2 i : Rat) + ((O 2 j - O 2 i : Int) : Rat)) := by unfold qp; rw [← cx, ← cy]
  have qk : qp O k = ((O 1 i : Rat) + ((O 1 k - O 1 i : Int) : Rat), (O 2 i : Rat) + ((O 2 k - O 2 i : Int) : Rat)) := by unfold qp; rw [← dx, ← dy]
  have b1 : -510 ≤ O 1 j - O 1 i ∧ O 1 j - O 1 i ≤ 510 := by omega
  have b2 : -510 ≤ O 2 j - O 2 i ∧ O 2 j - O 2 i ≤ 510 := by omega
  have b3 : -510 ≤ O 1 k - O 1 i ∧ O 1 k - O 1 i ≤ 510 := by omega
  have b4 : -510 ≤ O 2 k - O 2 i ∧ O 2 k - O 2 i ≤ 510 := by omega
  rw [qj, qk] at hc ⊢
  clear cx cy dx dy qj qk q1 q2 q3 q4 r1 r2 r3 r4
  generalize O 1 j - O 1 i = ax at *
  generalize O 2 j - O 2 i = ay at *
  generalize O 1 k - O 1 i = bx at *
  generalize O 2 k - O 2 i = bb at *
  have m1 := mlb b1.1 b1.2 b4.1 b4.2
  have m2 := mlb b2.1 b2.2 b3.1 b3.2
  have m3 := mlb b1.1 b1.2 b1.1 b1.2
  have m4 := mlb b2.1 b2.2 b2.1 b2.2
  have m5 := mlb b3.1 b3.2 b3.1 b3.2
  have m6 := mlb b4.1 b4.2 b4.1 b4.2
  have s1 := isq ax
  have s2 := isq ay
  have s3 := isq bx
  have s4 := isq bb
  have n1 := mlb (y := ax * ax + ay * ay) (b := 520200) b4.1 b4.2 (by omega) (by omega)
  have n2 := mlb (y := bx * bx + bb * bb) (b := 520200) b2.1 b2.2 (by omega) (by omega)
  have n3 := mlb (y := bx * bx + bb * bb) (b := 520200) b1.1 b1.2 (by omega) (by omega)
  have n4 := mlb (y := ax * ax + ay * ay) (b := 520200) b3.1 b3.2 (by omega) (by omega)
  rw [t64 (x := ax * bb) (by omega) (by omega), t64 (x := ay * bx) (by omega) (by omega), t64 (x := ax * bb - ay * bx) (by omega) (by omega), t64 (x := 2 * (ax * bb - ay * bx)) (by omega) (by omega), t64 (x := ax * ax) (by omega) (by omega), t64 (x := ay * ay) (by omega) (by omega), t64 (x := bx * bx) (by omega) (by omega), t64 (x := bb * bb) (by omega) (by omega), t64 (x := ax * ax + ay * ay) (by omega) (by omega), t64 (x := bx * bx + bb * bb) (by omega) (by omega),
    t64 (x := bb * (ax * ax + ay * ay)) (by omega) (by omega), t64 (x := ay * (bx * bx + bb * bb)) (by omega) (by omega), t64 (x := ax * (bx * bx + bb * bb)) (by omega) (by omega), t64 (x := bx * (ax * ax + ay * ay)) (by omega) (by omega), t64 (x := bb * (ax * ax + ay * ay) - ay * (bx * bx + bb * bb)) (by omega) (by omega), t64 (x := ax * (bx * bx + bb * bb) - bx * (ax * ax + ay * ay)) (by omega) (by omega)]
  have dn : 2 * (ax * bb - ay * bx) ≠ 0 := by
    intro h0
    apply hc
    unfold crs qp
    dsimp only
    have : ax * bb - ay * bx = 0 := by omega
    have e := i2r this
    rw [Rat.intCast_sub, Rat.intCast_mul, Rat.intCast_mul] at e
    have z : ((0 : Int) : Rat) = 0 := rfl
    rw [z] at e
    grind
  rw [if_neg dn]
  have fin : ∀ d ux uy : Int, 1 ≤ d → d ≤ 1040400 → (-530604000 ≤ ux ∧ ux ≤ 530604000) → (-530604000 ≤ uy ∧ uy ≤ 530604000) → (d = 2 * (ax * bb - ay * bx) ∧ ux = bb * (ax * ax + ay * ay) - ay * (bx * bx + bb * bb) ∧ uy = ax * (bx * bx + bb * bb) - bx * (ax * ax + ay * ay)) ∨ (-d = 2 * (ax * bb - ay * bx) ∧ -ux = bb * (ax * ax + ay * ay) - ay * (bx * bx + bb * bb) ∧ -uy = ax * (bx * bx + bb * bb) - bx * (ax * ax + ay * ay)) →
      ∃ R, j_k_setTriple_174 F O (i : Int) d ux uy = some R ∧ FrW O R ∧ Wb R ∧ pw (rd R) (qp O i) = 0 ∧ pw (rd R) ((O 1 i : Rat) + (ax : Rat), (O 2 i : Rat) + (ay : Rat)) = 0 ∧ pw (rd R) ((O 1 i : Rat) + (bx : Rat), (O 2 i : Rat) + (bb : Rat)) = 0 := by
    intro d ux uy h1 h2 h3 h4 h5
    have t1 := mlb (x := O 1 i) (y := d) (a := 255) (b := 1040400) (by omega) (by omega) (by omega) (by omega)
    have t2 := mlb (x := O 2 i) (y := d) (a := 255) (b := 1040400) (by omega) (by omega) (by omega) (by omega)
    have t3 := mlb h3.1 h3.2 h3.1 h3.2
    have t4 := mlb h4.1 h4.2 h4.1 h4.2
    have t5 := isq ux
    have t6 := isq uy
    refine ⟨upd (upd (upd (upd O 0 10 (O 1 i * d + ux)) 0 11 (O 2 i * d + uy)) 0 12 d) 0 13 (ux * ux + uy * uy), ?_, ?_, ?_, ?_⟩
    · unfold j_k_setTriple_174
      have r1 : ∀ (v : Int), upd O 0 10 v 2 i = O 2 i := fun v => upd_ne (by omega)
      simp only [if_pos g, Int.toNat_natCast, r1]
      rw [t64 (x := O 1 i * d) (by omega) (by omega), t64 (x := O 2 i * d) (by omega) (by omega), t64 (x := O 1 i * d + ux) (by omega) (by omega), t64 (x := O 2 i * d + uy) (by omega) (by omega), t64 (x := ux * ux) (by omega) (by omega), t64 (x := uy * uy) (by omega) (by omega), t64 (x := ux * ux + uy * uy) (by omega) (by omega)]
    · intro a j h; rw [upd_ne (by omega), upd_ne (by omega), upd_ne (by omega), upd_ne (by omega)]
    · unfold Wb; simp [upd]; omega
    · have er : rd (upd (upd (upd (upd O 0 10 (O 1 i * d + ux)) 0 11 (O 2 i * d + uy)) 0 12 d) 0 13 (ux * ux + uy * uy)) = (((O 1 i : Rat) * (d : Rat) + (ux : Rat)) / (d : Rat), ((O 2 i : Rat) * (d : Rat) + (uy : Rat)) / (d : Rat), ((ux : Rat) * (ux : Rat) + (uy : Rat) * (uy : Rat)) / ((d : Rat) * (d : Rat))) := by
        unfold rd
        simp only [upd]
        simp
      rw [er]
      have dq : (d : Rat) ≠ 0 := by
        intro h
        have h2 : ((d : Int) : Rat) = ((0 : Int) : Rat) := h
        have := Rat.intCast_inj.1 h2
        omega
      unfold qp
      rcases h5 with ⟨e1, e2, e3⟩ | ⟨e1, e2, e3⟩
      · have f1 := i2r e1
        have f2 := i2r e2
        have f3 := i2r e3
        simp only [Rat.intCast_sub, Rat.intCast_mul, Rat.intCast_add] at f1 f2 f3
        exact circ_pw dq f1 f2 f3
      · have f1 := i2r e1
        have f2 := i2r e2
        have f3 := i2r e3
        simp only [Rat.intCast_sub, Rat.intCast_mul, Rat.intCast_add, Rat.intCast_neg] at f1 f2 f3
        have k := circ_pw (xa := (O 1 i : Rat)) (ya := (O 2 i : Rat)) (ax := (ax : Rat)) (ay := (ay : Rat)) (bx := (bx : Rat)) (bb := (bb : Rat)) (d := -(d : Rat)) (ux := -(ux : Rat)) (uy := -(uy : Rat)) (by grind) f1 f2 f3
        have c1 : ((O 1 i : Rat) * -(d : Rat) + -(ux : Rat)) / -(d : Rat) = ((O 1 i : Rat) * (d : Rat) + (ux : Rat)) / (d : Rat) := by grind
        have c2 : ((O 2 i : Rat) * -(d : Rat) + -(uy : Rat)) / -(d : Rat) = ((O 2 i : Rat) * (d : Rat) + (uy : Rat)) / (d : Rat) := by grind
        have c3 : (-(ux : Rat) * -(ux : Rat) + -(uy : Rat) * -(uy : Rat)) / (-(d : Rat) * -(d : Rat)) = ((ux : Rat) * (ux : Rat) + (uy : Rat) * (uy : Rat)) / ((d : Rat) * (d : Rat)) := by
          have : -(d : Rat) * -(d : Rat) = (d : Rat) * (d : Rat) := by grind
          have h2 : -(ux : Rat) * -(ux : Rat) + -(uy : Rat) * -(uy : Rat) = (ux : Rat) * (ux : Rat) + (uy : Rat) * (uy : Rat) := by grind
          rw [this, h2]
        rw [c1, c2, c3] at k
        exact k
  by_cases neg : 2 * (ax * bb - ay * bx) < 0
  · rw [if_pos neg]
    rw [t64 (x := -(2 * (ax * bb - ay * bx))) (by omega) (by omega), t64 (x := -(bb * (ax * ax + ay * ay) - ay * (bx * bx + bb * bb))) (by omega) (by omega), t64 (x := -(ax * (bx * bx + bb * bb) - bx * (ax * ax + ay * ay))) (by omega) (by omega)]
    exact fin _ _ _ (by omega) (by omega) (by omega) (by omega) (Or.inr ⟨by omega, by omega, by omega⟩)
  · rw [if_neg neg]
    exact fin _ _ _ (by omega) (by omega) (by omega) (by omega) (Or.inl ⟨rfl, rfl, rfl⟩)
end Jvm.Own

--USES MC_a.lean
namespace Jvm.Own
def PO (O : Mo) (n : Nat) (o : Nat → Nat) : Prop := O 0 2 = (n : Int) ∧ n ≤ 32 ∧ (∀ i, i < n → Pr1 O i) ∧ (∀ k, k < n → o k < n ∧ O 3 k = (o k : Int)) ∧ (∀ j k, j < k → k < n → o j ≠ o k) ∧ ∀ i j, i < n → j < n → i ≠ j → qp O i ≠ qp O j
theorem PO.pne {O : Mo} {n : Nat} {o : Nat → Nat} (h : PO O n o) {i j : Nat} (hi : i < n) (hj : j < n) (hn : i ≠ j) : qp O (o i) ≠ qp O (o j) := by
  obtain ⟨_, _, _, h4, h5, h6⟩ := h
  refine h6 _ _ (h4 i hi).1 (h4 j hj).1 ?_
  by_cases c : i < j
  · exact h5 i j c hj
  · exact fun e => h5 j i (by omega) hi e.symm
theorem two_ok {F : Nat} (hF : 1000 ≤ F) {O S : Mo} {n : Nat} {o : Nat → Nat} (h : PO O n o) (hS : FrW O S) {i j : Nat} (hi : i < n) (hj : j < i) {E : Dk} (ea : pw E (qp O (o i)) = 0) (eb : pw E (qp O (o j)) = 0) (hE : In E (fun k => qp O (o k)) j) :
    ∃ R, k_extendTwo F S (i : Int) (j : Int) = some R ∧ FrW O R ∧ Wb R ∧ I2 (qp O (o i)) (qp O (o j)) (fun k => qp O (o k)) j (rd R) := by
  have hab := h.pne hi (show j < n by omega) (by omega)
  have hO := h
  obtain ⟨h1, h2, h3, h4, h5, h6⟩ := h
  have g1 : (0 : Int) ≤ (i : Int) ∧ (i : Int) < 32 := by omega
  have g2 : (0 : Int) ≤ (j : Int) ∧ (j : Int) < 32 := by omega
  obtain ⟨oi, ei⟩ := h4 i hi
  obtain ⟨oj, ej⟩ := h4 j (by omega)
  have si : S 3 i = (o i : Int) := by rw [hS 3 i (by omega)]; exact ei
  have sj : S 3 j = (o j : Int) := by rw [hS 3 j (by omega)]; exact ej
  obtain ⟨R0, e0, f0, w0, r0⟩ := setPair_ok (F := F) (O := S) (i := o i) (j := o j) (by omega) (by omega) (hS.pr (h3 _ oi)) (hS.pr (h3 _ oj))
  rw [hS.qp, hS.qp] at r0
  have st := I2.start (qp O (o i)) (qp O (o j)) (fun k => qp O (o k))
  rw [← r0] at st
  unfold k_extendTwo
  rw [if_pos g1, if_pos g2, Int.toNat_natCast, Int.toNat_natCast, si, sj, e0, Option.bind_some]
  obtain ⟨R, er, f1, w1, i1⟩ := lp_fill (body := fun s => b_k_extendTwo_25 F (j : Int) (o i : Int) (o j : Int) s.1 s.2) j (fun k T => FrW O T ∧ Wb T ∧ I2 (qp O (o i)) (qp O (o j)) (fun k => qp O (o k)) k (rd T))
    (by
      intro k T hk ⟨t1, t2, t3⟩
      have gk : (0 : Int) ≤ (k : Int) ∧ (k : Int) < 32 := by omega
      obtain ⟨ok, ek⟩ := h4 k (by omega)
      have tk : T 3 k = (o k : Int) := by rw [t1 3 k (by omega)]; exact ek
      dsimp only
      unfold b_k_extendTwo_25
      rw [if_pos (by omega), if_pos gk, Int.toNat_natCast, tk, t32s (by omega)]
      rcases out_ok (F := F) t2 (i := o k) (by omega) (t1.pr (h3 _ ok)) with ⟨q, e⟩ | ⟨q, e⟩
      · rw [t1.qp] at q
        rw [e, Option.bind_some, if_pos rfl]
        exact ⟨_, rfl, t1, t2, t3.inn q⟩
      · rw [t1.qp] at q
        obtain ⟨c1, c2⟩ := t3.out hab q ea eb (fun l hl => hE l (by omega))
        obtain ⟨T', et, f', w', p1, p2, p3⟩ := setTriple_ok (F := F) (O := T) (i := o i) (j := o j) (k := o k) (by omega) (by omega) (by omega) (t1.pr (h3 _ oi)) (t1.pr (h3 _ oj)) (t1.pr (h3 _ ok)) (by rw [t1.qp, t1.qp, t1.qp]; exact c1)
        rw [t1.qp] at p1 p2 p3
        rw [e, Option.bind_some, if_neg (by decide), et, Option.bind_some]
        exact ⟨_, rfl, t1.trans f', w', c2 _ p1 p2 p3⟩)
    (by
      intro T _
      dsimp only
      unfold b_k_extendTwo_25
      rw [if_neg (by omega)])
    (F := F) (by omega) (O := R0) ⟨hS.trans f0, w0, st⟩
  rw [er]
  exact ⟨R, rfl, f1, w1, i1⟩
theorem one_ok {F : Nat} (hF : 1000 ≤ F) {O S : Mo} {n : Nat} {o : Nat → Nat} (h : PO O n o) (hS : FrW O S) {i : Nat} (hi : i < n) {E : Dk} (ea : pw E (qp O (o i)) = 0) (hE : In E (fun k => qp O (o k)) i) :
    ∃ R, k_extendOne F S (i : Int) = some R ∧ FrW O R ∧ Wb R ∧ I1 (qp O (o i)) (fun k => qp O (o k)) i (rd R) := by
  have hO := h
  obtain ⟨h1, h2, h3, h4, h5, h6⟩ := h
  have g1 : (0 : Int) ≤ (i : Int) ∧ (i : Int) < 32 := by omega
  obtain ⟨oi, ei⟩ := h4 i hi
  have si : S 3 i = (o i : Int) := by rw [hS 3 i (by omega)]; exact ei
  obtain ⟨R0, e0, f0, w0, r0⟩ := setPoint_ok (F := F) (O := S) (i := o i) (by omega) (hS.pr (h3 _ oi))
  rw [hS.qp] at r0
  have st := I1.start (qp O (o i)) (fun k => qp O (o k))
  rw [← r0] at st
  unfold k_extendOne
  rw [if_pos g1, Int.toNat_natCast, si, e0, Option.bind_some]
  obtain ⟨R, er, f1, w1, i1⟩ := lp_fill (body := fun s => b_k_extendOne_12 F (i : Int) s.1 s.2) i (fun k T => FrW O T ∧ Wb T ∧ I1 (qp O (o i)) (fun k => qp O (o k)) k (rd T))
    (by
      intro k T hk ⟨t1, t2, t3⟩
      have gk : (0 : Int) ≤ (k : Int) ∧ (k : Int) < 32 := by omega
      obtain ⟨ok, ek⟩ := h4 k (by omega)
      have tk : T 3 k = (o k : Int) := by rw [t1 3 k (by omega)]; exact ek
      dsimp only
      unfold b_k_extendOne_12
      rw [if_pos (by omega), if_pos gk, Int.toNat_natCast, tk, t32s (by omega)]
      rcases out_ok (F := F) t2 (i := o k) (by omega) (t1.pr (h3 _ ok)) with ⟨q, e⟩ | ⟨q, e⟩
      · rw [t1.qp] at q
        rw [e, Option.bind_some, if_pos rfl]
        exact ⟨_, rfl, t1, t2, t3.inn q⟩
      · rw [t1.qp] at q
        obtain ⟨c1, ⟨E2, x1, x2, x3⟩, c3⟩ := t3.out q ea (fun l hl => hE l (by omega))
        obtain ⟨T', et, f', w', k'⟩ := two_ok hF hO t1 hi hk x1 x2 x3
        rw [e, Option.bind_some, if_neg (by decide), et, Option.bind_some]
        exact ⟨_, rfl, f', w', c3 _ k'⟩)
    (by
      intro T _
      dsimp only
      unfold b_k_extendOne_12
      rw [if_neg (by omega)])
    (F := F) (by omega) (O := R0) ⟨hS.trans f0, w0, st⟩
  rw [er]
  exact ⟨R, rfl, f1, w1, i1⟩
theorem run_ok {F : Nat} (hF : 1000 ≤ F) {O : Mo} {n : Nat} {o : Nat → Nat} (h : PO O n o) (hn : 1 ≤ n) :
    ∃ R, k_runIncremental F O = some R ∧ FrW O R ∧ Wb R ∧ I0 (fun k => qp O (o k)) n (rd R) := by
  have hO := h
  obtain ⟨h1, h2, h3, h4, h5, h6⟩ := h
  obtain ⟨o0, e0⟩ := h4 0 (by omega)
  obtain ⟨R0, s0, f0, w0, r0⟩ := setPoint_ok (F := F) (O := O) (i := o 0) (by omega) (h3 _ o0)
  have st := I0.start (fun k => qp O (o k))
  rw [← r0] at st
  unfold k_runIncremental
  rw [e0, s0, Option.bind_some]
  have main : ∃ R, loop (fun s => b_k_runIncremental_12 F s.1 s.2) F ((1 : Int), R0) = some R ∧ FrW O R ∧ Wb R ∧ I0 (fun k => qp O (o k)) n (rd R) := by
    refine lp_spec (body := fun s : Int × Mo => b_k_runIncremental_12 F s.1 s.2) (fun s => ∃ i : Nat, 1 ≤ i ∧ i ≤ n ∧ s.1 = (i : Int) ∧ FrW O s.2 ∧ Wb s.2 ∧ I0 (fun k => qp O (o k)) i (rd s.2)) (fun s => (100 - s.1).toNat) (fun R => FrW O R ∧ Wb R ∧ I0 (fun k => qp O (o k)) n (rd R)) ?_ F _ ⟨1, by omega, hn, rfl, f0, w0, st⟩ (by dsimp only; omega)
    rintro ⟨t, T⟩ ⟨i, hi1, hi, e1, t1, t2, t3⟩
    dsimp only at e1 t1 t2 t3 ⊢
    subst e1
    unfold b_k_runIncremental_12
    have tn : T 0 2 = (n : Int) := by rw [t1 0 2 (by omega)]; exact h1
    rw [tn]
    by_cases c : i < n
    · have gk : (0 : Int) ≤ (i : Int) ∧ (i : Int) < 32 := by omega
      obtain ⟨ok, ek⟩ := h4 i c
      have tk : T 3 i = (o i : Int) := by rw [t1 3 i (by omega)]; exact ek
      rw [if_pos (by omega), if_pos gk, Int.toNat_natCast, tk, t32s (by omega)]
      rcases out_ok (F := F) t2 (i := o i) (by omega) (t1.pr (h3 _ ok)) with ⟨q, e⟩ | ⟨q, e⟩
      · rw [t1.qp] at q
        rw [e, Option.bind_some, if_pos rfl]
        exact ⟨_, rfl, ⟨i + 1, by omega, by omega, rfl, t1, t2, t3.inn q⟩, by dsimp only; omega⟩
      · rw [t1.qp] at q
        obtain ⟨⟨E, x1, x2⟩, c3⟩ := t3.out hi1 q (hO.pne (by omega) c (by omega))
        obtain ⟨T', et, f', w', k'⟩ := one_ok hF hO t1 c x1 x2
        rw [e, Option.bind_some, if_neg (by decide), et, Option.bind_some]
        exact ⟨_, rfl, ⟨i + 1, by omega, by omega, rfl, f', w', c3 _ k'⟩, by dsimp only; omega⟩
    · have : i = n := by omega
      subst this
      rw [if_neg (by omega)]
      exact ⟨_, rfl, t1, t2, t3⟩
  obtain ⟨R, er, rest⟩ := main
  rw [er]
  exact ⟨R, rfl, rest⟩
/-- shuffling leaves a permutation -/
def FrO (O R : Mo) : Prop := ∀ a i, a ≠ 3 → ¬ (a = 0 ∧ i = 1) → R a i = O a i
theorem shuf_ok {F : Nat} (hF : 1000 ≤ F) {O : Mo} {n : Nat} (h1 : O 0 2 = (n : Int)) (h2 : n ≤ 32) (hn : 1 ≤ n) : ∃ (R : Mo) (o : Nat → Nat), k_shuffle F O = some R ∧ FrO O R ∧ (∀ k, k < n → o k < n ∧ R 3 k = (o k : Int)) ∧ (∀ j k, j < k → k < n → o j ≠ o k) ∧ (∀ v, v < n → ∃ k, k < n ∧ o k = v) := by
  obtain ⟨A, eA, a1, a2⟩ := lp_fill (body := fun s => b_k_shuffle_2 F s.1 s.2) n (fun k T => FrO O T ∧ ∀ l : Nat, l < k → T 3 l = (l : Int))
    (by
      intro k T hk ⟨t1, t2⟩
      have gk : (0 : Int) ≤ (k : Int) ∧ (k : Int) < 32 := by omega
      have tn : T 0 2 = (n : Int) := by rw [t1 0 2 (by omega) (by omega)]; exact h1
      dsimp only
      unfold b_k_shuffle_2
      rw [tn, if_pos (by omega), if_pos gk, Int.toNat_natCast, t32s (by omega)]
      refine ⟨_, rfl, fun a i p q => ?_, fun l hl => ?_⟩
      · rw [upd_ne (by omega)]; exact t1 a i p q
      · by_cases c : l = k
        · rw [c, upd_same]
        · rw [upd_ne (by omega)]; exact t2 l (by omega))
    (by
      intro T ⟨t1, _⟩
      have tn : T 0 2 = (n : Int) := by rw [t1 0 2 (by omega) (by omega)]; exact h1
      dsimp only
      unfold b_k_shuffle_2
      rw [tn, if_neg (by omega)])
    (F := F) (by omega) (O := O) ⟨fun _ _ _ _ => rfl, fun l hl => absurd hl (Nat.not_lt_zero _)⟩
  have an : A 0 2 = (n : Int) := by rw [a1 0 2 (by omega) (by omega)]; exact h1
  have w1 : w32 ((n : Int) - 1) = ((n - 1 : Nat) : Int) := by rw [t32 (by omega) (by omega)]; omega
  have main : ∃ R, loop (fun s => b_k_shuffle_30 F s.1 s.2) F (((n - 1 : Nat) : Int), A) = some R ∧ FrO O R ∧ ∃ o : Nat → Nat, (∀ k, k < n → o k < n ∧ R 3 k = (o k : Int)) ∧ (∀ j k, j < k → k < n → o j ≠ o k) ∧ (∀ v, v < n → ∃ k, k < n ∧ o k = v) := by
    clear w1
    refine lp_spec (body := fun s : Int × Mo => b_k_shuffle_30 F s.1 s.2) (fun s => ∃ i : Nat, i < n ∧ s.1 = (i : Int) ∧ FrO O s.2 ∧ ∃ o : Nat → Nat, (∀ k, k < n → o k < n ∧ s.2 3 k = (o k : Int)) ∧ (∀ j k, j < k → k < n → o j ≠ o k) ∧ (∀ v, v < n → ∃ k, k < n ∧ o k = v)) (fun s => s.1.toNat) (fun R => FrO O R ∧ ∃ o : Nat → Nat, (∀ k, k < n → o k < n ∧ R 3 k = (o k : Int)) ∧ (∀ j k, j < k → k < n → o j ≠ o k) ∧ (∀ v, v < n → ∃ k, k < n ∧ o k = v)) ?_ F _ ⟨n - 1, by omega, rfl, a1, fun k => k, fun k hk => ⟨hk, a2 k hk⟩, fun j k h _ => by dsimp only; omega, fun v hv => ⟨v, hv, rfl⟩⟩ (by dsimp only; omega)
    rintro ⟨t, T⟩ ⟨i, hi, e1, t1, o, t2, t3, t4⟩
    dsimp only at e1 t1 t2 ⊢
    subst e1
    unfold b_k_shuffle_30
    by_cases c : (i : Int) ≤ 0
    · rw [if_pos c]
      exact ⟨_, rfl, t1, o, t2, t3, t4⟩
    · have hip : 0 < i := by omega
      obtain ⟨m, em⟩ : ∃ m, i = m + 1 := ⟨i - 1, by omega⟩
      have sw : ∀ (U : Mo) (j : Nat), j ≤ i → FrO O U → (∀ k, k < n → U 3 k = (o k : Int)) → ∃ x, i_k_shuffle_53 F U (i : Int) (j : Int) = some x ∧ Sum.elim (fun s' : Int × Mo => (∃ i : Nat, i < n ∧ s'.1 = (i : Int) ∧ FrO O s'.2 ∧ ∃ o : Nat → Nat, (∀ k, k < n → o k < n ∧ s'.2 3 k = (o k : Int)) ∧ (∀ j k, j < k → k < n → o j ≠ o k) ∧ (∀ v, v < n → ∃ k, k < n ∧ o k = v)) ∧ s'.1.toNat < (i : Int).toNat) (fun R => FrO O R ∧ ∃ o : Nat → Nat, (∀ k, k < n → o k < n ∧ R 3 k = (o k : Int)) ∧ (∀ j k, j < k → k < n → o j ≠ o k) ∧ (∀ v, v < n → ∃ k, k < n ∧ o k = v)) x := by
        intro U j hj u1 u2
        have g1 : (0 : Int) ≤ (i : Int) ∧ (i : Int) < 32 := by omega
        have g2 : (0 : Int) ≤ (j : Int) ∧ (j : Int) < 32 := by omega
        have w2 : w32 ((i : Int) + (-1)) = ((m : Nat) : Int) := by rw [t32 (by omega) (by omega)]; omega
        unfold i_k_shuffle_53
        rw [if_pos g1, if_pos g2, if_pos g1, if_pos g2, Int.toNat_natCast, Int.toNat_natCast, w2, u2 i hi, u2 j (by omega)]
        clear w2
        refine ⟨_, rfl, ⟨m, by omega, rfl, fun a b p q => ?_, fun k => if k = j then o i else if k = i then o j else o k, fun k hk => ?_, fun x y hx hy => ?_, fun v hv => ?_⟩, by dsimp only; omega⟩
        · dsimp only; rw [upd_ne (by omega), upd_ne (by omega)]; exact u1 a b p q
        · dsimp only
          by_cases c1 : k = j
          · rw [if_pos c1, c1, upd_same]; exact ⟨(t2 i hi).1, rfl⟩
          · rw [if_neg c1, upd_ne (by omega)]
            by_cases c2 : k = i
            · rw [if_pos c2, c2, upd_same]; exact ⟨(t2 j (by omega)).1, rfl⟩
            · rw [if_neg c2, upd_ne (by omega)]; exact ⟨(t2 k hk).1, u2 k hk⟩
        · have ne : ∀ u v, u < n → v < n → u ≠ v → o u ≠ o v := by
            intro u v hu hv huv
            by_cases c : u < v
            · exact t3 u v c hv
            · exact fun e => t3 v u (by omega) hu e.symm
          dsimp only
          by_cases x1 : x = j
          · rw [if_pos x1, if_neg (by omega)]
            by_cases y2 : y = i
            · rw [if_pos y2]; exact ne i j hi (by omega) (by omega)
            · rw [if_neg y2]; exact ne i y hi hy (by omega)
          · rw [if_neg x1]
            by_cases x2 : x = i
            · rw [if_pos x2]
              by_cases y1 : y = j
              · omega
              · rw [if_neg y1, if_neg (by omega)]; exact ne j y (by omega) hy (by omega)
            · rw [if_neg x2]
              by_cases y1 : y = j
              · rw [if_pos y1]; exact ne x i (by omega) hi x2
              · rw [if_neg y1]
                by_cases y2 : y = i
                · rw [if_pos y2]; exact ne x j (by omega) (by omega) x1
                · rw [if_neg y2]; exact ne x y (by omega) hy (by omega)
        · obtain ⟨k, hk, ek⟩ := t4 v hv
          by_cases k1 : k = j
          · by_cases ij : i = j
            · exact ⟨j, by omega, by dsimp only; rw [if_pos rfl, ij, ← k1]; exact ek⟩
            · exact ⟨i, hi, by dsimp only; rw [if_neg ij, if_pos rfl, ← k1]; exact ek⟩
          · by_cases k2 : k = i
            · exact ⟨j, by omega, by dsimp only; rw [if_pos rfl, ← k2]; exact ek⟩
            · exact ⟨k, hk, by dsimp only; rw [if_neg k1, if_neg k2]; exact ek⟩
      have rr : ∃ v U, k_nextRand F T ((i + 1 : Nat) : Int) = some (v, U) ∧ FrO O U ∧ ∀ k, U 3 k = T 3 k := by
        unfold k_nextRand
        rw [lt_eq, if_pos (by omega), if_neg (by omega)]
        exact ⟨_, _, rfl, fun a b p q => by rw [upd_ne (by omega)]; exact t1 a b p q, fun k => upd_ne (by omega)⟩
      obtain ⟨v, U, er, u1, u2⟩ := rr
      have u3 : ∀ k, k < n → U 3 k = (o k : Int) := fun k hk => by rw [u2 k]; exact (t2 k hk).2
      rw [if_neg c, t32s (by omega), er, Option.bind_some]
      dsimp only
      unfold i_k_shuffle_51
      by_cases c1 : v < 0
      · rw [if_pos c1]; exact sw U i (Nat.le_refl _) u1 u3
      · rw [if_neg c1]
        by_cases c2 : v ≤ (i : Int)
        · obtain ⟨j, ej⟩ : ∃ j : Nat, v = (j : Int) := ⟨v.toNat, by omega⟩
          rw [if_pos c2, ej]; exact sw U j (by omega) u1 u3
        · rw [if_neg c2]; exact sw U i (Nat.le_refl _) u1 u3
  obtain ⟨R, er, r1, o, r2, r3⟩ := main
  refine ⟨R, o, ?_, r1, r2, r3⟩
  unfold k_shuffle
  rw [eA, Option.bind_some, an, w1, er]; rfl
end Jvm.Own

--USES MC_b.lean
namespace Jvm.Own
theorem half_mod {X Y : Nat} (h : Y ≤ X) (hy : 0 < Y) : 2 * (X % Y) < X := by
  have h1 := Nat.mod_lt X hy
  have h2 := Nat.div_add_mod X Y
  have h3 : 1 ≤ X / Y := (Nat.one_le_div_iff hy).2 h
  have h4 : Y * 1 ≤ Y * (X / Y) := Nat.mul_le_mul_left Y h3
  omega
theorem abs_ok {v : Int} (h : -1000000000 ≤ v ∧ v ≤ 1000000000) : k_absL v = (v.natAbs : Int) := by
  unfold k_absL
  by_cases c : v < 0
  · rw [if_pos c, t64 (by omega) (by omega)]; omega
  · rw [if_neg c]; omega
theorem gcd_ok {F : Nat} (hF : 1000 ≤ F) {a b : Int} (ha : -1000000000 ≤ a ∧ a ≤ 1000000000) (hb : -1000000000 ≤ b ∧ b ≤ 1000000000) : k_gcd F a b = some ((Nat.gcd a.natAbs b.natAbs : Nat) : Int) := by
  have main : ∃ r, loop (fun s => b_k_gcd_17 F s.1 s.2.1 s.2.2) F ((a.natAbs : Int), (b.natAbs : Int), (0 : Int)) = some r ∧ r = ((Nat.gcd a.natAbs b.natAbs : Nat) : Int) := by
    refine lp_spec (body := fun s : Int × Int × Int => b_k_gcd_17 F s.1 s.2.1 s.2.2)
      (fun s => ∃ X Y k : Nat, s.1 = (X : Int) ∧ s.2.1 = (Y : Int) ∧ s.2.2 = (k : Int) ∧ k ≤ 200 ∧ X ≤ 1000000000 ∧ Y ≤ 1000000000 ∧ Nat.gcd X Y = Nat.gcd a.natAbs b.natAbs ∧ (k = 0 ∨ (Y < X ∧ X * Y * 2 ^ k < 2 ^ 61))) (fun s => (300 - s.2.2).toNat) (fun r => r = ((Nat.gcd a.natAbs b.natAbs : Nat) : Int)) ?_ F _ ⟨a.natAbs, b.natAbs, 0, rfl, rfl, rfl, by omega, by omega, by omega, rfl, Or.inl rfl⟩ (by dsimp only; omega)
    rintro ⟨t1, t2, t3⟩ ⟨X, Y, k, e1, e2, e3, hk, hX, hY, hg, hm⟩
    dsimp only at e1 e2 e3 ⊢
    subst e1 e2 e3
    unfold b_k_gcd_17
    by_cases c0 : Y = 0
    · have fin : ((X : Nat) : Int) = ((Nat.gcd a.natAbs b.natAbs : Nat) : Int) := by
        rw [← hg, c0, Nat.gcd_zero_right]
      by_cases c : (k : Int) < 200
      · rw [if_pos c, if_pos (by omega)]; exact ⟨_, rfl, fin⟩
      · rw [if_neg c]; exact ⟨_, rfl, fin⟩
    · have hYp : 0 < Y := by omega
      have kl : k < 200 := by
        by_cases c : k < 200
        · exact c
        · exfalso
          have k2 : k = 200 := by omega
          rcases hm with h | ⟨h1, h2⟩
          · omega
          · rw [k2] at h2
            have : 1 ≤ X * Y := Nat.mul_pos (by omega) hYp
            have h3 : 1 * 2 ^ 200 ≤ X * Y * 2 ^ 200 := Nat.mul_le_mul_right _ this
            have h4 : (2 : Nat) ^ 61 ≤ 2 ^ 200 := Nat.pow_le_pow_right (by omega) (by omega)
            omega
      have ml := Nat.mod_lt X hYp
      have em : Int.tmod (X : Int) (Y : Int) = ((X % Y : Nat) : Int) := rfl
      rw [if_pos (by omega), if_neg (by omega), if_neg (by omega), em, t64 (by omega) (by omega), t32s (by omega)]
      refine ⟨_, rfl, ⟨Y, X % Y, k + 1, rfl, rfl, rfl, by omega, hY, by omega, ?_, Or.inr ⟨ml, ?_⟩⟩, by dsimp only; omega⟩
      · rw [← hg, Nat.gcd_comm Y, ← Nat.gcd_rec, Nat.gcd_comm]
      · rcases hm with h | ⟨h1, h2⟩
        · subst h
          have : Y * (X % Y) ≤ 1000000000 * 1000000000 := Nat.mul_le_mul hY (by omega)
          omega
        · have hh := half_mod (show Y ≤ X by omega) hYp
          have m1 : Y * (2 * (X % Y)) ≤ Y * X := Nat.mul_le_mul_left Y (by omega)
          have m2 : Y * (2 * (X % Y)) * 2 ^ k ≤ Y * X * 2 ^ k := Nat.mul_le_mul_right _ m1
          have e4 : Y * (X % Y) * 2 ^ (k + 1) = Y * (2 * (X % Y)) * 2 ^ k := by rw [Nat.pow_succ]; grind
          rw [e4, Nat.mul_comm X Y] at *
          omega
  obtain ⟨r, e, hr⟩ := main
  unfold k_gcd
  rw [abs_ok ha, abs_ok hb, e, Option.bind_some, hr]
/-- the greatest of the values, at least 0 -/
def mxp (f : Nat → Int) : Nat → Int
  | 0 => 0
  | k + 1 => if f k ≤ mxp f k then mxp f k else f k
def ctb (f : Nat → Int) (m : Int) : Nat → Int
  | 0 => 0
  | k + 1 => ctb f m k + if f k = m then 1 else 0
theorem ctb_b (f : Nat → Int) (m : Int) : ∀ k : Nat, 0 ≤ ctb f m k ∧ ctb f m k ≤ k
  | 0 => by simp [ctb]
  | k + 1 => by have := ctb_b f m k; simp only [ctb]; split <;> omega
theorem mxp_ge (f : Nat → Int) : ∀ k, 0 ≤ mxp f k ∧ ∀ i, i < k → f i ≤ mxp f k
  | 0 => ⟨by simp [mxp], fun i hi => absurd hi (Nat.not_lt_zero _)⟩
  | k + 1 => by
    obtain ⟨h1, h2⟩ := mxp_ge f k
    simp only [mxp]
    by_cases c : f k ≤ mxp f k
    · rw [if_pos c]
      refine ⟨h1, fun i hi => ?_⟩
      by_cases e : i = k
      · rw [e]; exact c
      · exact h2 i (by omega)
    · rw [if_neg c]
      refine ⟨by omega, fun i hi => ?_⟩
      by_cases e : i = k
      · rw [e]; exact Int.le_refl _
      · have := h2 i (by omega); omega
theorem mxp_at (f : Nat → Int) : ∀ k, mxp f k = 0 ∨ ∃ i, i < k ∧ mxp f k = f i
  | 0 => Or.inl rfl
  | k + 1 => by
    simp only [mxp]
    by_cases c : f k ≤ mxp f k
    · rw [if_pos c]
      rcases mxp_at f k with h | ⟨i, hi, h⟩
      · exact Or.inl h
      · exact Or.inr ⟨i, by omega, h⟩
    · rw [if_neg c]; exact Or.inr ⟨k, by omega, rfl⟩
def pf (R : Mo) (i : Nat) : Int := ipw (R 0 4) (R 0 5) (R 0 6) (R 1 i) (R 2 i)
def Cb (R : Mo) : Prop := 1 ≤ R 0 6 ∧ R 0 6 ≤ 1040400 ∧ (-800000000 ≤ R 0 4 ∧ R 0 4 ≤ 800000000) ∧ (-800000000 ≤ R 0 5 ∧ R 0 5 ≤ 800000000)
theorem pwf_ok {R : Mo} (h : Cb R) {x y : Int} (hx : -255 ≤ x ∧ x ≤ 255) (hy : -255 ≤ y ∧ y ≤ 255) : k_pwFinal R x y = ipw (R 0 4) (R 0 5) (R 0 6) x y ∧ 0 ≤ ipw (R 0 4) (R 0 5) (R 0 6) x y ∧ ipw (R 0 4) (R 0 5) (R 0 6) x y ≤ 2400000000000000000 := by
  obtain ⟨d1, d2, dx, dy⟩ := h
  obtain ⟨b1, b2, b3, b4⟩ := ipw_b d1 d2 dx dy hx hy
  have q1 := isq (x * R 0 6 - R 0 4)
  have q2 := isq (y * R 0 6 - R 0 5)
  unfold ipw
  refine ⟨?_, by omega, by omega⟩
  unfold k_pwFinal
  simp only [lt_eq]
  rw [t64 (x := x * R 0 6) (by omega) (by omega), t64 (x := y * R 0 6) (by omega) (by omega), t64 (x := x * R 0 6 - R 0 4) (by omega) (by omega), t64 (x := y * R 0 6 - R 0 5) (by omega) (by omega), t64 (x := (x * R 0 6 - R 0 4) * (x * R 0 6 - R 0 4)) (by omega) (by omega), t64 (x := (y * R 0 6 - R 0 5) * (y * R 0 6 - R 0 5)) (by omega) (by omega), t64 (by omega) (by omega)]
theorem rec_ok {F : Nat} (hF : 1000 ≤ F) {O : Mo} {n : Nat} (h1 : O 0 2 = (n : Int)) (h2 : n ≤ 32) (h3 : ∀ i, i < n → Pr1 O i) (hc : Cb O) :
    ∃ R, k_recordRadius F O = some R ∧ (∀ a i, a ≠ 4 → ¬ (a = 0 ∧ (i = 7 ∨ i = 9)) → R a i = O a i) ∧ R 0 7 = mxp (pf O) n ∧ (∀ i, i < n → R 4 i = if pf O i = mxp (pf O) n then 1 else 0) ∧ R 0 9 = ctb (pf O) (mxp (pf O) n) n := by
  have pv : ∀ i, i < n → k_pwFinal O (O 1 i) (O 2 i) = pf O i := fun i hi => by
    obtain ⟨p1, p2, p3, p4⟩ := h3 i hi
    exact (pwf_ok hc ⟨p1, p2⟩ ⟨p3, p4⟩).1
  have l1 : ∃ r, loop (fun s => b_k_recordRadius_4 F O s.1 s.2) F ((0 : Int), (0 : Int)) = some r ∧ r = mxp (pf O) n := by
    refine lp_spec (body := fun s : Int × Int => b_k_recordRadius_4 F O s.1 s.2) (fun s => ∃ k : Nat, k ≤ n ∧ s.2 = (k : Int) ∧ s.1 = mxp (pf O) k) (fun s => (100 - s.2).toNat) (fun r => r = mxp (pf O) n) ?_ F _ ⟨0, by omega, rfl, rfl⟩ (by dsimp only; omega)
    rintro ⟨t1, t2⟩ ⟨k, hk, e1, e2⟩
    dsimp only at e1 e2 ⊢
    subst e1
    unfold b_k_recordRadius_4
    rw [h1]
    by_cases c : k < n
    · have g : (0 : Int) ≤ (k : Int) ∧ (k : Int) < 32 := by omega
      have es : mxp (pf O) (k + 1) = if pf O k ≤ mxp (pf O) k then mxp (pf O) k else pf O k := rfl
      rw [if_pos (by omega), if_pos g, if_pos g, Int.toNat_natCast, pv k c, lt_eq, t32s (by omega), e2]
      by_cases d : pf O k ≤ mxp (pf O) k
      · rw [if_pos d]
        exact ⟨_, rfl, ⟨k + 1, by omega, rfl, by dsimp only; rw [es, if_pos d]⟩, by dsimp only; omega⟩
      · rw [if_neg d]
        exact ⟨_, rfl, ⟨k + 1, by omega, rfl, by dsimp only; rw [es, if_neg d]⟩, by dsimp only; omega⟩
    · have : k = n := by omega
      subst this
      rw [if_neg (by omega)]
      exact ⟨_, rfl, e2⟩
  obtain ⟨r, er, hr⟩ := l1
  subst hr
  generalize hm : mxp (pf O) n = m at *
  have fr0 : ∀ a i, a ≠ 4 → ¬ (a = 0 ∧ i = 7) → upd O 0 7 m a i = O a i := fun a i _ q => upd_ne q
  have l2 : ∃ r, loop (fun s => b_k_recordRadius_56 F m s.1 s.2.1 s.2.2) F ((0 : Int), (0 : Int), upd O 0 7 m) = some r ∧ r.1 = ctb (pf O) m n ∧ (∀ a i, a ≠ 4 → r.2 a i = upd O 0 7 m a i) ∧ ∀ i, i < n → r.2 4 i = if pf O i = m then 1 else 0 := by
    refine lp_spec (body := fun s : Int × Int × Mo => b_k_recordRadius_56 F m s.1 s.2.1 s.2.2) (fun s => ∃ k : Nat, k ≤ n ∧ s.2.1 = (k : Int) ∧ s.1 = ctb (pf O) m k ∧ (∀ a i, a ≠ 4 → s.2.2 a i = upd O 0 7 m a i) ∧ ∀ i, i < k → s.2.2 4 i = if pf O i = m then 1 else 0) (fun s => (100 - s.2.1).toNat) (fun r => r.1 = ctb (pf O) m n ∧ (∀ a i, a ≠ 4 → r.2 a i = upd O 0 7 m a i) ∧ ∀ i, i < n → r.2 4 i = if pf O i = m then 1 else 0) ?_ F _ ⟨0, by omega, rfl, rfl, fun _ _ _ => rfl, fun i hi => absurd hi (Nat.not_lt_zero _)⟩ (by dsimp only; omega)
    rintro ⟨t1, t2, T⟩ ⟨k, hk, e1, e2, f1, f2⟩
    dsimp only at e1 e2 f1 f2 ⊢
    subst e1
    have ff : ∀ a i, a ≠ 4 → ¬ (a = 0 ∧ i = 7) → T a i = O a i := fun a i p q => by rw [f1 a i p, fr0 a i p q]
    unfold b_k_recordRadius_56
    rw [ff 0 2 (by omega) (by omega), h1]
    by_cases c : k < n
    · have g : (0 : Int) ≤ (k : Int) ∧ (k : Int) < 32 := by omega
      have cb := ctb_b (pf O) m k
      have pk : k_pwFinal T (T 1 k) (T 2 k) = pf O k := by
        have hT : Cb T := by unfold Cb; rw [ff 0 6 (by omega) (by omega), ff 0 4 (by omega) (by omega), ff 0 5 (by omega) (by omega)]; exact hc
        obtain ⟨p1, p2, p3, p4⟩ := h3 k c
        rw [ff 1 k (by omega) (by omega), ff 2 k (by omega) (by omega), (pwf_ok hT ⟨p1, p2⟩ ⟨p3, p4⟩).1, ff 0 6 (by omega) (by omega), ff 0 4 (by omega) (by omega), ff 0 5 (by omega) (by omega)]
        rfl
      have es : ctb (pf O) m (k + 1) = ctb (pf O) m k + if pf O k = m then 1 else 0 := rfl
      have st : ∀ v : Int, (v = if pf O k = m then 1 else 0) → (∀ a i, a ≠ 4 → upd T 4 k v a i = upd O 0 7 m a i) ∧ ∀ i, i < k + 1 → upd T 4 k v 4 i = if pf O i = m then 1 else 0 := by
        intro v hv
        refine ⟨fun a i p => by rw [upd_ne (by omega)]; exact f1 a i p, fun i hi => ?_⟩
        by_cases q : i = k
        · rw [q, upd_same]; exact hv
        · rw [upd_ne (by omega)]; exact f2 i (by omega)
      have m1 : (1 : Int) % 2 = 1 := by decide
      have m0 : (0 : Int) % 2 = 0 := by decide
      rw [if_pos (by omega), if_pos g, if_pos g, Int.toNat_natCast, pk]
      unfold i_k_recordRadius_93
      rw [if_pos g, if_pos g, Int.toNat_natCast, m1, m0, t32s (by omega), e2]
      by_cases d : pf O k = m
      · rw [if_pos d, if_neg (by decide), t32 (by omega) (by omega)]
        obtain ⟨s1, s2⟩ := st 1 (by rw [if_pos d])
        exact ⟨_, rfl, ⟨k + 1, by omega, rfl, by dsimp only; rw [es, if_pos d], s1, s2⟩, by dsimp only; omega⟩
      · rw [if_neg d, if_pos rfl]
        obtain ⟨s1, s2⟩ := st 0 (by rw [if_neg d])
        exact ⟨_, rfl, ⟨k + 1, by omega, rfl, by dsimp only; rw [es, if_neg d]; omega, s1, s2⟩, by dsimp only; omega⟩
    · have : k = n := by omega
      subst this
      rw [if_neg (by omega)]
      exact ⟨_, rfl, e2, f1, f2⟩
  obtain ⟨⟨q, T⟩, et, c1, c2, c3⟩ := l2
  dsimp only at c1 c2 c3
  refine ⟨upd T 0 9 q, ?_, fun a i p1 p2 => ?_, ?_, fun i hi => ?_, ?_⟩
  · unfold k_recordRadius
    rw [er, Option.bind_some, et]; rfl
  · rw [upd_ne (by omega), c2 a i p1, upd_ne (by omega)]
  · rw [upd_ne (by omega), c2 0 7 (by omega), upd_same]
  · rw [upd_ne (by omega)]; exact c3 i hi
  · rw [upd_same]; exact c1
def Pairs (R : Mo) (n : Nat) : Prop := ∃ i j, i < j ∧ j < n ∧ (R 1 i + R 1 j) * R 0 6 = 2 * R 0 4 ∧ (R 2 i + R 2 j) * R 0 6 = 2 * R 0 5
theorem kind_ok {F : Nat} (hF : 1000 ≤ F) {O : Mo} {n : Nat} (h1 : O 0 2 = (n : Int)) (h2 : n ≤ 32) (h3 : ∀ i, i < n → Pr1 O i) (hc : Cb O) :
    ∃ k, k_computeKind F O = some k ∧ ((O 0 7 = 0 ∧ k = 1) ∨ (O 0 7 ≠ 0 ∧ Pairs O n ∧ k = 2) ∨ (O 0 7 ≠ 0 ∧ ¬ Pairs O n ∧ k = 3)) := by
  obtain ⟨d1, d2, dx, dy⟩ := hc
  unfold k_computeKind
  by_cases c0 : O 0 7 = 0
  · rw [if_pos c0]; exact ⟨_, rfl, Or.inl ⟨c0, rfl⟩⟩
  rw [if_neg c0, t64 (x := 2 * O 0 4) (by omega) (by omega), t64 (x := 2 * O 0 5) (by omega) (by omega)]
  have inner : ∀ i : Nat, i < n → ∃ r, loop (fun s => b_k_computeKind_47 F O (2 * O 0 4) (2 * O 0 5) (i : Int) s) F (((i + 1 : Nat) : Int)) = some r ∧ ((r = Sum.inr 2 ∧ Pairs O n) ∨ (r = Sum.inl () ∧ ∀ j, i < j → j < n → ¬ ((O 1 i + O 1 j) * O 0 6 = 2 * O 0 4 ∧ (O 2 i + O 2 j) * O 0 6 = 2 * O 0 5))) := by
    intro i hi
    refine lp_spec (body := fun s : Int => b_k_computeKind_47 F O (2 * O 0 4) (2 * O 0 5) (i : Int) s) (fun s => ∃ k : Nat, i < k ∧ k ≤ n ∧ s = (k : Int) ∧ ∀ j, i < j → j < k → ¬ ((O 1 i + O 1 j) * O 0 6 = 2 * O 0 4 ∧ (O 2 i + O 2 j) * O 0 6 = 2 * O 0 5)) (fun s => (100 - s).toNat) (fun r => (r = Sum.inr 2 ∧ Pairs O n) ∨ (r = Sum.inl () ∧ ∀ j, i < j → j < n → ¬ ((O 1 i + O 1 j) * O 0 6 = 2 * O 0 4 ∧ (O 2 i + O 2 j) * O 0 6 = 2 * O 0 5))) ?_ F _ ⟨i + 1, by omega, by omega, rfl, fun j p q => by omega⟩ (by omega)
    rintro t ⟨k, k1, k2, e1, hno⟩
    subst e1
    unfold b_k_computeKind_47
    rw [h1]
    by_cases c : k < n
    · have g1 : (0 : Int) ≤ (i : Int) ∧ (i : Int) < 32 := by omega
      have g2 : (0 : Int) ≤ (k : Int) ∧ (k : Int) < 32 := by omega
      obtain ⟨p1, p2, p3, p4⟩ := h3 i hi
      obtain ⟨q1, q2, q3, q4⟩ := h3 k c
      have m1 := mlb (x := O 1 i + O 1 k) (y := O 0 6) (a := 510) (b := 1040400) (by omega) (by omega) (by omega) (by omega)
      have m2 := mlb (x := O 2 i + O 2 k) (y := O 0 6) (a := 510) (b := 1040400) (by omega) (by omega) (by omega) (by omega)
      rw [if_pos (by omega)]
      simp only [if_pos g1, if_pos g2, Int.toNat_natCast, lt_eq]
      rw [t64 (x := O 1 i + O 1 k) (by omega) (by omega), t64 (x := O 2 i + O 2 k) (by omega) (by omega), t64 (x := (O 1 i + O 1 k) * O 0 6) (by omega) (by omega), t64 (x := (O 2 i + O 2 k) * O 0 6) (by omega) (by omega), t32s (by omega)]
      have go : ¬ ((O 1 i + O 1 k) * O 0 6 = 2 * O 0 4 ∧ (O 2 i + O 2 k) * O 0 6 = 2 * O 0 5) → ∃ x, (some (Sum.inl (((k + 1 : Nat) : Int))) : Option (Int ⊕ (Unit ⊕ Int))) = some x ∧ Sum.elim (fun s' : Int => (∃ k : Nat, i < k ∧ k ≤ n ∧ s' = (k : Int) ∧ ∀ j, i < j → j < k → ¬ ((O 1 i + O 1 j) * O 0 6 = 2 * O 0 4 ∧ (O 2 i + O 2 j) * O 0 6 = 2 * O 0 5)) ∧ (100 - s').toNat < (100 - (k : Int)).toNat) (fun r => (r = Sum.inr 2 ∧ Pairs O n) ∨ (r = Sum.inl () ∧ ∀ j, i < j → j < n → ¬ ((O 1 i + O 1 j) * O 0 6 = 2 * O 0 4 ∧ (O 2 i + O 2 j) * O 0 6 = 2 * O 0 5))) x := by
        intro hq
        refine ⟨_, rfl, ⟨k + 1, by omega, by omega, rfl, fun j a b => ?_⟩, by omega⟩
        by_cases w : j = k
        · rw [w]; exact hq
        · exact hno j a (by omega)
      by_cases e1 : (O 1 i + O 1 k) * O 0 6 = 2 * O 0 4
      · rw [if_pos e1]
        by_cases e2 : (O 2 i + O 2 k) * O 0 6 = 2 * O 0 5
        · rw [if_pos e2]
          exact ⟨_, rfl, Or.inl ⟨rfl, i, k, k1, c, e1, e2⟩⟩
        · rw [if_neg e2]; exact go (fun w => e2 w.2)
      · rw [if_neg e1]; exact go (fun w => e1 w.1)
    · have : k = n := by omega
      subst this
      rw [if_neg (by omega)]
      exact ⟨_, rfl, Or.inr ⟨rfl, hno⟩⟩
  have outer : ∃ r, loop (fun s => b_k_computeKind_32 F O (2 * O 0 4) (2 * O 0 5) s) F (0 : Int) = some r ∧ ∃ k, r = Sum.inr k ∧ ((Pairs O n ∧ k = 2) ∨ (¬ Pairs O n ∧ k = 3)) := by
    refine lp_spec (body := fun s : Int => b_k_computeKind_32 F O (2 * O 0 4) (2 * O 0 5) s) (fun s => ∃ i : Nat, i ≤ n ∧ s = (i : Int) ∧ ∀ a j, a < i → a < j → j < n → ¬ ((O 1 a + O 1 j) * O 0 6 = 2 * O 0 4 ∧ (O 2 a + O 2 j) * O 0 6 = 2 * O 0 5)) (fun s => (100 - s).toNat) (fun r => ∃ k, r = Sum.inr k ∧ ((Pairs O n ∧ k = 2) ∨ (¬ Pairs O n ∧ k = 3))) ?_ F _ ⟨0, by omega, rfl, fun a j h => absurd h (Nat.not_lt_zero _)⟩ (by omega)
    rintro t ⟨i, hi, e1, hno⟩
    subst e1
    unfold b_k_computeKind_32
    rw [h1]
    by_cases c : i < n
    · obtain ⟨r, er, hr⟩ := inner i c
      rw [if_pos (by omega), t32s (by omega), er, Option.bind_some]
      rcases hr with ⟨rfl, hp⟩ | ⟨rfl, hp⟩
      · exact ⟨_, rfl, 2, rfl, Or.inl ⟨hp, rfl⟩⟩
      · refine ⟨_, rfl, ⟨i + 1, by omega, rfl, fun a j p q s => ?_⟩, by omega⟩
        by_cases w : a = i
        · rw [w] at q ⊢; exact hp j q s
        · exact hno a j (by omega) q s
    · have : i = n := by omega
      subst this
      rw [if_neg (by omega)]
      refine ⟨_, rfl, 3, rfl, Or.inr ⟨?_, rfl⟩⟩
      rintro ⟨a, j, p, q, e⟩
      exact hno a j (by omega) p q e
  obtain ⟨r, er, k, rfl, hk⟩ := outer
  rw [er]
  refine ⟨k, rfl, ?_⟩
  rcases hk with ⟨a, b⟩ | ⟨a, b⟩
  · exact Or.inr (Or.inl ⟨c0, a, b⟩)
  · exact Or.inr (Or.inr ⟨c0, a, b⟩)
end Jvm.Own

--USES MC_c.lean
namespace Jvm.Own
def SV (R : Mo) (n : Nat) (D : Dk) : Prop := Cb R ∧ (R 0 4 : Rat) = D.1 * (R 0 6 : Rat) ∧ (R 0 5 : Rat) = D.2.1 * (R 0 6 : Rat) ∧ Nat.gcd (Nat.gcd (R 0 4).natAbs (R 0 5).natAbs) (R 0 6).natAbs = 1 ∧ R 0 7 = mxp (pf R) n ∧ (∀ i, i < n → R 4 i = if pf R i = R 0 7 then 1 else 0) ∧ R 0 9 = ctb (pf R) (R 0 7) n ∧ ((R 0 7 = 0 ∧ R 0 8 = 1) ∨ (R 0 7 ≠ 0 ∧ Pairs R n ∧ R 0 8 = 2) ∨ (R 0 7 ≠ 0 ∧ ¬ Pairs R n ∧ R 0 8 = 3))
theorem mxp_congr {f g : Nat → Int} : ∀ n, (∀ i, i < n → f i = g i) → mxp f n = mxp g n
  | 0, _ => rfl
  | n + 1, h => by simp only [mxp]; rw [mxp_congr n (fun i hi => h i (by omega)), h n (by omega)]
theorem ctb_congr {f g : Nat → Int} {m : Int} : ∀ n, (∀ i, i < n → f i = g i) → ctb f m n = ctb g m n
  | 0, _ => rfl
  | n + 1, h => by simp only [ctb]; rw [ctb_congr n (fun i hi => h i (by omega)), h n (by omega)]
def FrE (O R : Mo) : Prop := ∀ a i, a = 1 ∨ a = 2 ∨ (a = 0 ∧ i ≤ 3) → R a i = O a i
theorem fin_ok {F : Nat} (hF : 1000 ≤ F) {O : Mo} {n : Nat} (h1 : O 0 2 = (n : Int)) (h2 : n ≤ 32) (h3 : ∀ i, i < n → Pr1 O i) (hw : Wb O) :
    ∃ R, k_finishDisk F O = some R ∧ FrE O R ∧ SV R n (rd O) := by
  obtain ⟨d1, d2, dx, dy⟩ := hw
  have gx : Nat.gcd (O 0 10).natAbs (O 0 11).natAbs ≤ 1000000000 := by
    by_cases c : (O 0 10).natAbs = 0
    · rw [c, Nat.gcd_zero_left]; omega
    · have := Nat.gcd_le_left (O 0 11).natAbs (show 0 < (O 0 10).natAbs by omega)
      omega
  unfold k_finishDisk
  rw [gcd_ok hF (by omega) (by omega), Option.bind_some, gcd_ok hF (by omega) (by omega), Option.bind_some, Int.natAbs_natCast]
  generalize hG : Nat.gcd (Nat.gcd (O 0 10).natAbs (O 0 11).natAbs) (O 0 12).natAbs = G
  have hGp : 0 < G := by
    rw [← hG]; exact Nat.gcd_pos_of_pos_right _ (by omega)
  have gd : G ∣ (O 0 12).natAbs := by rw [← hG]; exact Nat.gcd_dvd_right _ _
  have g1 : G ∣ Nat.gcd (O 0 10).natAbs (O 0 11).natAbs := by rw [← hG]; exact Nat.gcd_dvd_left _ _
  obtain ⟨cx, ex⟩ := Int.ofNat_dvd_left.2 (Nat.dvd_trans g1 (Nat.gcd_dvd_left _ _))
  obtain ⟨cy, ey⟩ := Int.ofNat_dvd_left.2 (Nat.dvd_trans g1 (Nat.gcd_dvd_right _ _))
  obtain ⟨dn, ed⟩ := Int.ofNat_dvd_left.2 gd
  have Gz : (G : Int) ≠ 0 := by omega
  have Gp : (1 : Int) ≤ (G : Int) := by omega
  have dnp : 1 ≤ dn := by
    by_cases c : 1 ≤ dn
    · exact c
    · have := Int.mul_nonneg (show (0 : Int) ≤ (G : Int) by omega) (show 0 ≤ -dn by omega)
      rw [Int.mul_neg] at this
      omega
  have ab : ∀ c v b : Int, v = (G : Int) * c → -b ≤ v → v ≤ b → -b ≤ c ∧ c ≤ b := by
    intro c v b e p q
    constructor
    · by_cases w : -b ≤ c
      · exact w
      · exfalso
        have := Int.mul_le_mul_of_nonneg_left (show c ≤ -b - 1 by omega) (show (0 : Int) ≤ (G : Int) by omega)
        have k := Int.mul_nonneg (show (0 : Int) ≤ (G : Int) - 1 by omega) (show 0 ≤ b + 1 by omega)
        grind
    · by_cases w : c ≤ b
      · exact w
      · exfalso
        have := Int.mul_le_mul_of_nonneg_left (show b + 1 ≤ c by omega) (show (0 : Int) ≤ (G : Int) by omega)
        have k := Int.mul_nonneg (show (0 : Int) ≤ (G : Int) - 1 by omega) (show 0 ≤ b + 1 by omega)
        grind
  have bx := ab cx _ 800000000 ex (by omega) (by omega)
  have bY := ab cy _ 800000000 ey (by omega) (by omega)
  have bd := ab dn _ 1040400 ed (by omega) (by omega)
  have tx : Int.tdiv (O 0 10) (G : Int) = cx := by rw [ex]; exact Int.mul_tdiv_cancel_left _ Gz
  have ty : Int.tdiv (O 0 11) (G : Int) = cy := by rw [ey]; exact Int.mul_tdiv_cancel_left _ Gz
  have td : Int.tdiv (O 0 12) (G : Int) = dn := by rw [ed]; exact Int.mul_tdiv_cancel_left _ Gz
  have prim : Nat.gcd (Nat.gcd cx.natAbs cy.natAbs) dn.natAbs = 1 := by
    have e := hG
    rw [ex, ey, ed, Int.natAbs_mul, Int.natAbs_mul, Int.natAbs_mul, Int.natAbs_natCast, Nat.gcd_mul_left, Nat.gcd_mul_left] at e
    have : G * Nat.gcd (Nat.gcd cx.natAbs cy.natAbs) dn.natAbs = G * 1 := by rw [e]; omega
    exact Nat.eq_of_mul_eq_mul_left hGp this
  rw [if_pos (show (0 : Int) < (G : Int) by omega)]
  unfold j_k_finishDisk_31
  rw [if_neg Gz, td, t64 (x := dn) (by omega) (by omega), if_pos (by omega)]
  unfold j_k_finishDisk_55
  have u10 : upd O 0 6 dn 0 10 = O 0 10 := upd_ne (by omega)
  have u11 : upd O 0 6 dn 0 11 = O 0 11 := upd_ne (by omega)
  rw [if_neg Gz, if_neg Gz, u10, u11, tx, ty, t64 (x := cx) (by omega) (by omega), t64 (x := cy) (by omega) (by omega)]
  generalize hA : upd (upd (upd O 0 6 dn) 0 4 cx) 0 5 cy = A
  have a6 : A 0 6 = dn := by rw [← hA, upd_ne (by omega), upd_ne (by omega), upd_same]
  have a4 : A 0 4 = cx := by rw [← hA, upd_ne (by omega), upd_same]
  have a5 : A 0 5 = cy := by rw [← hA, upd_same]
  have af : ∀ a i, ¬ (a = 0 ∧ (i = 4 ∨ i = 5 ∨ i = 6)) → A a i = O a i := fun a i q => by rw [← hA, upd_ne (by omega), upd_ne (by omega), upd_ne (by omega)]
  clear hA
  have hcA : Cb A := by unfold Cb; rw [a6, a4, a5]; omega
  have pA : ∀ i, i < n → Pr1 A i := fun i hi => by unfold Pr1; rw [af 1 i (by omega), af 2 i (by omega)]; exact h3 i hi
  obtain ⟨B, eB, b1, b2, b3, b4⟩ := rec_ok hF (O := A) (n := n) (by rw [af 0 2 (by omega)]; exact h1) h2 pA hcA
  have hcB : Cb B := by unfold Cb; rw [b1 0 6 (by omega) (by omega), b1 0 4 (by omega) (by omega), b1 0 5 (by omega) (by omega)]; exact hcA
  have pB : ∀ i, i < n → Pr1 B i := fun i hi => by unfold Pr1; rw [b1 1 i (by omega) (by omega), b1 2 i (by omega) (by omega)]; exact pA i hi
  obtain ⟨k, ek, hk⟩ := kind_ok hF (O := B) (n := n) (by rw [b1 0 2 (by omega) (by omega), af 0 2 (by omega)]; exact h1) h2 pB hcB
  rw [eB, Option.bind_some, ek, Option.bind_some]
  have rf : ∀ a i, a ≠ 4 → ¬ (a = 0 ∧ (i = 7 ∨ i = 8 ∨ i = 9)) → upd B 0 8 k a i = A a i := fun a i p q => by rw [upd_ne (by omega), b1 a i p (by omega)]
  have epf : ∀ i, pf (upd B 0 8 k) i = pf A i := fun i => by unfold pf; rw [rf 0 4 (by omega) (by omega), rf 0 5 (by omega) (by omega), rf 0 6 (by omega) (by omega), rf 1 i (by omega) (by omega), rf 2 i (by omega) (by omega)]
  have r7 : upd B 0 8 k 0 7 = mxp (pf A) n := by rw [upd_ne (by omega)]; exact b2
  have em : mxp (pf (upd B 0 8 k)) n = mxp (pf A) n := mxp_congr n (fun i _ => epf i)
  refine ⟨_, rfl, fun a i q => ?_, ?_, ?_, ?_, ?_, ?_, fun i hi => ?_, ?_, ?_⟩
  · rw [rf a i (by omega) (by omega), af a i (by omega)]
  · unfold Cb; rw [rf 0 6 (by omega) (by omega), rf 0 4 (by omega) (by omega), rf 0 5 (by omega) (by omega)]; exact hcA
  · rw [rf 0 4 (by omega) (by omega), rf 0 6 (by omega) (by omega), a4, a6]
    unfold rd
    dsimp only
    have e1 := i2r ex
    have e2 := i2r ed
    rw [Rat.intCast_mul] at e1 e2
    have nz : (O 0 12 : Rat) ≠ 0 := by
      intro h
      have h' : ((O 0 12 : Int) : Rat) = ((0 : Int) : Rat) := h
      have := Rat.intCast_inj.1 h'
      omega
    grind
  · rw [rf 0 5 (by omega) (by omega), rf 0 6 (by omega) (by omega), a5, a6]
    unfold rd
    dsimp only
    have e1 := i2r ey
    have e2 := i2r ed
    rw [Rat.intCast_mul] at e1 e2
    have nz : (O 0 12 : Rat) ≠ 0 := by
      intro h
      have h' : ((O 0 12 : Int) : Rat) = ((0 : Int) : Rat) := h
      have := Rat.intCast_inj.1 h'
      omega
    grind
  · rw [rf 0 4 (by omega) (by omega), rf 0 5 (by omega) (by omega), rf 0 6 (by omega) (by omega), a4, a5, a6]; exact prim
  · rw [r7, em]
  · rw [r7, epf, upd_ne (by omega)]; exact b3 i hi
  · rw [r7, ctb_congr n (fun i _ => epf i), upd_ne (by omega)]; exact b4
  · have p0 : Pairs (upd B 0 8 k) n ↔ Pairs B n := by
      unfold Pairs
      rw [rf 0 4 (by omega) (by omega), rf 0 5 (by omega) (by omega), rf 0 6 (by omega) (by omega), ← b1 0 4 (by omega) (by omega), ← b1 0 5 (by omega) (by omega), ← b1 0 6 (by omega) (by omega)]
      constructor
      · rintro ⟨i, j, x1, x2, x3, x4⟩
        rw [upd_ne (by omega), upd_ne (by omega)] at x3 x4
        exact ⟨i, j, x1, x2, x3, x4⟩
      · rintro ⟨i, j, x1, x2, x3, x4⟩
        exact ⟨i, j, x1, x2, by rw [upd_ne (by omega), upd_ne (by omega)]; exact x3, by rw [upd_ne (by omega), upd_ne (by omega)]; exact x4⟩
    rw [p0, upd_same, upd_ne (by omega)]
    exact hk
/-- the object -/
def MI (O : Mo) (cap : Int) (n : Nat) : Prop := O 0 0 = cap ∧ (8 ≤ cap ∧ cap ≤ 32) ∧ O 0 2 = (n : Int) ∧ (n : Int) ≤ cap ∧ (∀ i, i < n → Pr1 O i) ∧ (∀ i j, i < n → j < n → i ≠ j → qp O i ≠ qp O j) ∧ (O 0 3 = 0 ∨ (O 0 3 = 1 ∧ 1 ≤ n ∧ ∃ D, SV O n D ∧ I0 (qp O) n D))
theorem I0_perm {O : Mo} {n : Nat} {o : Nat → Nat} {D : Dk} (h1 : ∀ k, k < n → o k < n) (h2 : ∀ v, v < n → ∃ k, k < n ∧ o k = v) (h : I0 (fun k => qp O (o k)) n D) : I0 (qp O) n D := by
  obtain ⟨a, b⟩ := h
  refine ⟨fun l hl => ?_, ?_⟩
  · obtain ⟨k, hk, e⟩ := h2 l hl
    have := a k hk
    dsimp only at this
    rw [e] at this; exact this
  · rcases b with ⟨l, hl, e⟩ | ⟨a, b, q, al, be, ga, c, ha, hb, hg, ⟨l, hl, el⟩, ⟨m, hm, em⟩, hh⟩
    · exact Or.inl ⟨o l, h1 l hl, e⟩
    · refine Or.inr ⟨a, b, q, al, be, ga, c, ha, hb, hg, ⟨o l, h1 l hl, el⟩, ⟨o m, h1 m hm, em⟩, ?_⟩
      rcases hh with hh | ⟨x, hx, ex, px⟩
      · exact Or.inl hh
      · exact Or.inr ⟨o x, h1 x hx, ex, px⟩
theorem SV.fr {O R : Mo} {n : Nat} {D : Dk} (h : SV O n D) (f : ∀ a i, a = 1 ∨ a = 2 ∨ a = 4 ∨ (a = 0 ∧ 4 ≤ i) → R a i = O a i) : SV R n D := by
  obtain ⟨h1, h2, h3, h4, h5, h6, h7, h8⟩ := h
  have f4 := f 0 4 (by omega)
  have f5 := f 0 5 (by omega)
  have f6 := f 0 6 (by omega)
  have f7 := f 0 7 (by omega)
  have f8 := f 0 8 (by omega)
  have f9 := f 0 9 (by omega)
  have ep : ∀ i, pf R i = pf O i := fun i => by unfold pf; rw [f4, f5, f6, f 1 i (by omega), f 2 i (by omega)]
  have pp : Pairs R n ↔ Pairs O n := by
    unfold Pairs
    rw [f4, f5, f6]
    constructor
    · rintro ⟨i, j, x1, x2, x3, x4⟩
      rw [f 1 i (by omega), f 1 j (by omega)] at x3
      rw [f 2 i (by omega), f 2 j (by omega)] at x4
      exact ⟨i, j, x1, x2, x3, x4⟩
    · rintro ⟨i, j, x1, x2, x3, x4⟩
      exact ⟨i, j, x1, x2, by rw [f 1 i (by omega), f 1 j (by omega)]; exact x3, by rw [f 2 i (by omega), f 2 j (by omega)]; exact x4⟩
  refine ⟨by unfold Cb; rw [f4, f5, f6]; exact h1, by rw [f4, f6]; exact h2, by rw [f5, f6]; exact h3, by rw [f4, f5, f6]; exact h4, by rw [f7, h5]; exact (mxp_congr n (fun i _ => ep i)).symm, fun i hi => by rw [f 4 i (by omega), ep, f7]; exact h6 i hi, by rw [f9, f7, h7]; exact (ctb_congr n (fun i _ => ep i)).symm, by rw [f7, f8, pp]; exact h8⟩
theorem qp_fr {O R : Mo} (f : ∀ a i, a = 1 ∨ a = 2 → R a i = O a i) : qp R = qp O := funext (fun i => by unfold qp; rw [f 1 i (by omega), f 2 i (by omega)])
theorem solve_ok {F : Nat} (hF : 1000 ≤ F) {O : Mo} {cap : Int} {n : Nat} (h : MI O cap n) (hn : 1 ≤ n) : ∃ R, k_solve F O = some (R 0 9, R) ∧ MI R cap n ∧ R 0 3 = 1 ∧ (∀ a i, a = 1 ∨ a = 2 → R a i = O a i) := by
  have hO := h
  obtain ⟨h0, hc, h1, h2, h3, h4, h5⟩ := h
  unfold k_solve
  rw [h1, if_pos (by omega)]
  rcases h5 with h5 | ⟨h5, _, h6⟩
  · rw [if_pos h5]
    obtain ⟨A, o, eA, fA, o1, o2, o3⟩ := shuf_ok hF (O := O) h1 (by omega) hn
    have qA : qp A = qp O := qp_fr (fun a i q => fA a i (by omega) (by omega))
    have pA : ∀ i, i < n → Pr1 A i := fun i hi => by unfold Pr1; rw [fA 1 i (by omega) (by omega), fA 2 i (by omega) (by omega)]; exact h3 i hi
    have hPO : PO A n o := ⟨by rw [fA 0 2 (by omega) (by omega)]; exact h1, by omega, pA, o1, o2, fun i j a b c => by rw [qA]; exact h4 i j a b c⟩
    obtain ⟨B, eB, fB, wB, iB⟩ := run_ok hF hPO hn
    have iB' := I0_perm (fun k hk => (o1 k hk).1) o3 iB
    rw [qA] at iB'
    obtain ⟨C, eC, fC, sC⟩ := fin_ok hF (O := B) (n := n) (by rw [fB 0 2 (by omega)]; exact hPO.1) (by omega) (fun i hi => fB.pr (pA i hi)) wB
    have tot : ∀ a i, a = 1 ∨ a = 2 ∨ (a = 0 ∧ (i = 0 ∨ i = 2)) → upd C 0 3 1 a i = O a i := fun a i q => by rw [upd_ne (by omega), fC a i (by omega), fB a i (by omega), fA a i (by omega) (by omega)]
    have qC : qp (upd C 0 3 1) = qp O := qp_fr (fun a i q => tot a i (by omega))
    rw [eA, Option.bind_some, eB, Option.bind_some, eC, Option.bind_some]
    refine ⟨upd C 0 3 1, by rw [upd_ne (by omega)], ⟨by rw [tot 0 0 (by omega)]; exact h0, hc, by rw [tot 0 2 (by omega)]; exact h1, h2, fun i hi => by unfold Pr1; rw [tot 1 i (by omega), tot 2 i (by omega)]; exact h3 i hi, fun i j a b c => by rw [qC]; exact h4 i j a b c, Or.inr ⟨upd_same _ _ _ _, hn, rd B, sC.fr (fun a i q => upd_ne (by omega)), by rw [qC]; exact iB'⟩⟩, upd_same _ _ _ _, fun a i q => tot a i (by omega)⟩
  · rw [if_neg (by omega)]
    exact ⟨O, rfl, hO, h5, fun _ _ _ => rfl⟩
theorem solve_0 {F : Nat} {O : Mo} {cap : Int} (h : MI O cap 0) : k_solve F O = some (-1, O) := by
  unfold k_solve
  rw [h.2.2.1, if_neg (by omega)]
theorem qp_eq {O : Mo} {i j : Nat} : qp O i = qp O j ↔ (O 1 i = O 1 j ∧ O 2 i = O 2 j) := by
  unfold qp
  constructor
  · intro h
    have a := congrArg Prod.fst h
    have b := congrArg Prod.snd h
    exact ⟨Rat.intCast_inj.1 a, Rat.intCast_inj.1 b⟩
  · rintro ⟨a, b⟩; rw [a, b]
theorem ctor_ok {F : Nat} (v w : Int) : ∃ R cap, k_ctor F v w = some R ∧ MI R cap 0 ∧ R 0 3 = 0 ∧ cap = (if v < 8 then 8 else if v ≤ 32 then v else 32) := by
  have fin : ∀ c s : Int, 8 ≤ c → c ≤ 32 → MI (upd (upd (upd (upd (upd zM 0 0 c) 0 1 s) 0 2 0) 0 3 0) 0 12 1) c 0 ∧ (upd (upd (upd (upd (upd zM 0 0 c) 0 1 s) 0 2 0) 0 3 0) 0 12 1) 0 3 = 0 := by
    intro c s h1 h2
    refine ⟨⟨by simp [upd], ⟨h1, h2⟩, by simp [upd], by omega, fun i hi => absurd hi (Nat.not_lt_zero _), fun i j hi => absurd hi (Nat.not_lt_zero _), Or.inl (by simp [upd])⟩, by simp [upd]⟩
  have j56 : ∀ c : Int, 8 ≤ c → c ≤ 32 → ∃ R, j_k_ctor_56 F zM w c = some R ∧ MI R c 0 ∧ R 0 3 = 0 := by
    intro c h1 h2
    unfold j_k_ctor_56 j_k_ctor_68 j_k_ctor_79
    by_cases c1 : w < 1
    · rw [if_pos c1, if_pos (by decide)]; exact ⟨_, rfl, fin c 1 h1 h2⟩
    · rw [if_neg c1]
      by_cases c2 : w ≤ 65535
      · rw [if_pos c2]; exact ⟨_, rfl, fin c w h1 h2⟩
      · rw [if_neg c2]; exact ⟨_, rfl, fin c 65535 h1 h2⟩
  unfold k_ctor j_k_ctor_47
  by_cases c : v < 8
  · obtain ⟨R, e, r1, r2⟩ := j56 8 (by omega) (by omega)
    rw [if_pos c, if_pos (by decide), e]
    exact ⟨R, 8, rfl, r1, r2, by rw [if_pos c]⟩
  · rw [if_neg c]
    by_cases c2 : v ≤ 32
    · obtain ⟨R, e, r1, r2⟩ := j56 v (by omega) c2
      rw [if_pos c2, e]
      exact ⟨R, v, rfl, r1, r2, by rw [if_neg c, if_pos c2]⟩
    · obtain ⟨R, e, r1, r2⟩ := j56 32 (by omega) (by omega)
      rw [if_neg c2, e]
      exact ⟨R, 32, rfl, r1, r2, by rw [if_neg c, if_neg c2]⟩
def rng (x y : Int) : Prop := -255 ≤ x ∧ x ≤ 255 ∧ -255 ≤ y ∧ y ≤ 255
theorem rng_ok (x y : Int) : (rng x y ∧ k_inRange x y = 1) ∨ (¬ rng x y ∧ k_inRange x y = 0) := by
  unfold rng k_inRange
  by_cases a : x < -255
  · rw [if_pos a]; exact Or.inr ⟨by omega, rfl⟩
  rw [if_neg a]
  by_cases b : 255 < x
  · rw [if_pos b]; exact Or.inr ⟨by omega, rfl⟩
  rw [if_neg b]
  by_cases c : y < -255
  · rw [if_pos c]; exact Or.inr ⟨by omega, rfl⟩
  rw [if_neg c]
  by_cases d : 255 < y
  · rw [if_pos d]; exact Or.inr ⟨by omega, rfl⟩
  rw [if_neg d]; exact Or.inl ⟨by omega, rfl⟩
def dup (O : Mo) (n : Nat) (x y : Int) : Prop := ∃ i, i < n ∧ O 1 i = x ∧ O 2 i = y
theorem add_ok {F : Nat} (hF : 1000 ≤ F) {O : Mo} {cap : Int} {n : Nat} (h : MI O cap n) (x y : Int) :
    (k_addPoint F O x y = some (-1, O) ∧ (¬ rng x y ∨ (n : Int) = cap ∨ dup O n x y)) ∨ (rng x y ∧ (n : Int) < cap ∧ ¬ dup O n x y ∧ ∃ R, k_addPoint F O x y = some ((n : Int), R) ∧ MI R cap (n + 1) ∧ R 0 3 = 0 ∧ R 1 n = x ∧ R 2 n = y ∧ ∀ a i, a = 1 ∨ a = 2 → i ≠ n → R a i = O a i) := by
  obtain ⟨h0, hc, h1, h2, h3, h4, h5⟩ := h
  unfold k_addPoint
  rcases rng_ok x y with ⟨r, e⟩ | ⟨r, e⟩
  · rw [if_neg (by rw [e]; decide), h0, h1]
    by_cases c : (n : Int) < cap
    · rw [if_pos c]
      have main : ∃ z, loop (fun s => b_k_addPoint_26 F O x y s) F (0 : Int) = some z ∧ ((z = Sum.inr (-1, O) ∧ dup O n x y) ∨ (z = Sum.inl () ∧ ¬ dup O n x y)) := by
        refine lp_spec (body := fun s : Int => b_k_addPoint_26 F O x y s) (fun s => ∃ k : Nat, k ≤ n ∧ s = (k : Int) ∧ ∀ i, i < k → ¬ (O 1 i = x ∧ O 2 i = y)) (fun s => (100 - s).toNat) (fun z => (z = Sum.inr (-1, O) ∧ dup O n x y) ∨ (z = Sum.inl () ∧ ¬ dup O n x y)) ?_ F _ ⟨0, by omega, rfl, fun i hi => absurd hi (Nat.not_lt_zero _)⟩ (by omega)
        rintro t ⟨k, hk, e1, hno⟩
        subst e1
        unfold b_k_addPoint_26
        rw [h1]
        by_cases d : k < n
        · have g : (0 : Int) ≤ (k : Int) ∧ (k : Int) < 32 := by omega
          rw [if_pos (by omega), if_pos g, if_pos g, Int.toNat_natCast, t32s (by omega)]
          have go : ¬ (O 1 k = x ∧ O 2 k = y) → ∃ z, (some (Sum.inl (((k + 1 : Nat) : Int))) : Option (Int ⊕ (Unit ⊕ (Int × Mo)))) = some z ∧ Sum.elim (fun s' : Int => (∃ k : Nat, k ≤ n ∧ s' = (k : Int) ∧ ∀ i, i < k → ¬ (O 1 i = x ∧ O 2 i = y)) ∧ (100 - s').toNat < (100 - (k : Int)).toNat) (fun z => (z = Sum.inr (-1, O) ∧ dup O n x y) ∨ (z = Sum.inl () ∧ ¬ dup O n x y)) z := by
            intro hq
            refine ⟨_, rfl, ⟨k + 1, by omega, rfl, fun i hi => ?_⟩, by omega⟩
            by_cases w : i = k
            · rw [w]; exact hq
            · exact hno i (by omega)
          by_cases e1 : O 1 k = x
          · rw [if_pos e1]
            by_cases e2 : O 2 k = y
            · rw [if_pos e2]; exact ⟨_, rfl, Or.inl ⟨rfl, k, d, e1, e2⟩⟩
            · rw [if_neg e2]; exact go (fun w => e2 w.2)
          · rw [if_neg e1]; exact go (fun w => e1 w.1)
        · have : k = n := by omega
          subst this
          rw [if_neg (by omega)]
          refine ⟨_, rfl, Or.inr ⟨rfl, ?_⟩⟩
          rintro ⟨i, hi, e⟩
          exact hno i hi e
      obtain ⟨z, ez, hz⟩ := main
      rw [ez, Option.bind_some]
      rcases hz with ⟨rfl, hd⟩ | ⟨rfl, hd⟩
      · exact Or.inl ⟨rfl, Or.inr (Or.inr hd)⟩
      · have g : (0 : Int) ≤ (n : Int) ∧ (n : Int) < 32 := by omega
        refine Or.inr ⟨r, c, hd, upd (upd (upd (upd O 1 n x) 2 n y) 0 2 ((n + 1 : Nat) : Int)) 0 3 0, ?_, ?_, upd_same _ _ _ _, ?_, ?_, ?_⟩
        · dsimp only [Sum.elim]
          rw [if_pos g, if_pos g, t32s (by omega), Int.toNat_natCast]
        · have u : ∀ a i, a = 1 ∨ a = 2 → i ≠ n → upd (upd (upd (upd O 1 n x) 2 n y) 0 2 ((n + 1 : Nat) : Int)) 0 3 0 a i = O a i := fun a i _ q => by rw [upd_ne (by omega), upd_ne (by omega), upd_ne (by omega), upd_ne (by omega)]
          have ux : upd (upd (upd (upd O 1 n x) 2 n y) 0 2 ((n + 1 : Nat) : Int)) 0 3 0 1 n = x := by rw [upd_ne (by omega), upd_ne (by omega), upd_ne (by omega), upd_same]
          have uy : upd (upd (upd (upd O 1 n x) 2 n y) 0 2 ((n + 1 : Nat) : Int)) 0 3 0 2 n = y := by rw [upd_ne (by omega), upd_ne (by omega), upd_same]
          refine ⟨by rw [upd_ne (by omega), upd_ne (by omega), upd_ne (by omega), upd_ne (by omega)]; exact h0, hc, by rw [upd_ne (by omega), upd_same], by omega, fun i hi => ?_, fun i j hi hj hij => ?_, Or.inl (upd_same _ _ _ _)⟩
          · unfold Pr1
            by_cases q : i = n
            · rw [q, ux, uy]; exact r
            · rw [u 1 i (by omega) q, u 2 i (by omega) q]; exact h3 i (by omega)
          · rw [Ne, qp_eq]
            by_cases q : i = n
            · have qj : j ≠ n := by omega
              rw [q, ux, uy, u 1 j (by omega) qj, u 2 j (by omega) qj]
              exact fun w => hd ⟨j, by omega, w.1.symm, w.2.symm⟩
            · rw [u 1 i (by omega) q, u 2 i (by omega) q]
              by_cases q2 : j = n
              · rw [q2, ux, uy]
                exact fun w => hd ⟨i, by omega, w.1, w.2⟩
              · rw [u 1 j (by omega) q2, u 2 j (by omega) q2]
                exact fun w => h4 i j (by omega) (by omega) hij (qp_eq.2 w)
        · rw [upd_ne (by omega), upd_ne (by omega), upd_ne (by omega), upd_same]
        · rw [upd_ne (by omega), upd_ne (by omega), upd_same]
        · intro a i p q; rw [upd_ne (by omega), upd_ne (by omega), upd_ne (by omega), upd_ne (by omega)]
    · rw [if_neg c]; exact Or.inl ⟨rfl, Or.inr (Or.inl (by omega))⟩
  · rw [if_pos e]; exact Or.inl ⟨rfl, Or.inl r⟩
theorem MI.cut {O : Mo} {cap : Int} {n m : Nat} (h : MI O cap n) (hm : m ≤ n) {R : Mo} (f : ∀ a i, ¬ (a = 0 ∧ (i = 2 ∨ i = 3)) → R a i = O a i) (e2 : R 0 2 = (m : Int)) (e3 : R 0 3 = 0) : MI R cap m := by
  obtain ⟨h0, hc, h1, h2, h3, h4, h5⟩ := h
  have q : qp R = qp O := qp_fr (fun a i q => f a i (by omega))
  exact ⟨by rw [f 0 0 (by omega)]; exact h0, hc, e2, by omega, fun i hi => by unfold Pr1; rw [f 1 i (by omega), f 2 i (by omega)]; exact h3 i (by omega), fun i j a b c => by rw [q]; exact h4 i j (by omega) (by omega) c, Or.inl e3⟩
theorem rem_ok {F : Nat} {O : Mo} {cap : Int} {n : Nat} (h : MI O cap n) : (n = 0 ∧ k_removeLast F O = some (0, O)) ∨ (0 < n ∧ ∃ R, k_removeLast F O = some (1, R) ∧ MI R cap (n - 1) ∧ R 0 3 = 0 ∧ ∀ a i, a = 1 ∨ a = 2 → R a i = O a i) := by
  have hn := h.2.2.2.1
  have hc := h.2.1
  unfold k_removeLast
  rw [h.2.2.1]
  by_cases c : 0 < n
  · have w : w32 ((n : Int) - 1) = ((n - 1 : Nat) : Int) := by rw [t32 (by omega) (by omega)]; omega
    rw [if_pos (by clear w; omega), w]
    clear w
    refine Or.inr ⟨c, _, rfl, h.cut (by omega) (fun a i q => by rw [upd_ne (by omega), upd_ne (by omega)]) (by rw [upd_ne (by omega), upd_same]) (upd_same _ _ _ _), upd_same _ _ _ _, fun a i q => by rw [upd_ne (by omega), upd_ne (by omega)]⟩
  · rw [if_neg (by omega)]; exact Or.inl ⟨by omega, rfl⟩
theorem clr_ok {F : Nat} {O : Mo} {cap : Int} {n : Nat} (h : MI O cap n) : ∃ R, k_clear F O = some R ∧ MI R cap 0 ∧ R 0 3 = 0 :=
  ⟨_, rfl, h.cut (Nat.zero_le _) (fun a i q => by rw [upd_ne (by omega), upd_ne (by omega)]) (by rw [upd_ne (by omega), upd_same]; rfl) (upd_same _ _ _ _), upd_same _ _ _ _⟩
end Jvm.Own

--USES MC_d.lean
namespace Jvm.Own
theorem pf_pw {R : Mo} {n : Nat} {D : Dk} (h : SV R n D) (i : Nat) : ((pf R i : Int) : Rat) = (R 0 6 : Rat) * (R 0 6 : Rat) * (pw D (qp R i) + D.2.2) := by
  obtain ⟨_, h2, h3, _⟩ := h
  unfold pf ipw pw qp
  dsimp only
  rw [Rat.intCast_add, Rat.intCast_mul, Rat.intCast_mul, Rat.intCast_sub, Rat.intCast_sub, Rat.intCast_mul, Rat.intCast_mul, h2, h3]
  grind
theorem I0.top {p : Nat → Q2} {n : Nat} {D : Dk} (h : I0 p n D) : ∃ i, i < n ∧ pw D (p i) = 0 := by
  rcases h.2 with ⟨l, hl, e⟩ | ⟨a, b, q, al, be, ga, c, _, _, _, ⟨l, hl, el⟩, _⟩
  · refine ⟨l, hl, ?_⟩
    rw [e]; unfold pw; dsimp only; grind
  · refine ⟨l, hl, ?_⟩
    rw [← el]; exact c.2.2.2.1
theorem dd_pos {R : Mo} (h : Cb R) : 0 < (R 0 6 : Rat) * (R 0 6 : Rat) := dpos h.1
theorem pf_nn {R : Mo} (i : Nat) : 0 ≤ pf R i := by
  unfold pf ipw
  have := isq (R 1 i * R 0 6 - R 0 4)
  have := isq (R 2 i * R 0 6 - R 0 5)
  omega
theorem pf_le {R : Mo} {n : Nat} {D : Dk} (h : SV R n D) {i j : Nat} (hij : pw D (qp R i) ≤ pw D (qp R j)) : pf R i ≤ pf R j := by
  have e1 := pf_pw h i
  have e2 := pf_pw h j
  have dp := dd_pos h.1
  have : ((pf R i : Int) : Rat) ≤ ((pf R j : Int) : Rat) := by
    have k := Rat.mul_nonneg (show 0 ≤ (R 0 6 : Rat) * (R 0 6 : Rat) by grind) (show 0 ≤ pw D (qp R j) - pw D (qp R i) by grind)
    rw [e1, e2]
    grind
  exact Rat.intCast_le_intCast.1 this
theorem top_r {R : Mo} {n : Nat} {D : Dk} (h : SV R n D) (k : I0 (qp R) n D) : ∃ i, i < n ∧ pw D (qp R i) = 0 ∧ R 0 7 = pf R i := by
  obtain ⟨i, hi, e⟩ := k.top
  refine ⟨i, hi, e, ?_⟩
  have h5 := h.2.2.2.2.1
  obtain ⟨m1, m2⟩ := mxp_ge (pf R) n
  have a := m2 i hi
  rw [h5]
  rcases mxp_at (pf R) n with z | ⟨j, hj, ej⟩
  · have := pf_nn (R := R) i
    omega
  · have := pf_le h (i := j) (j := i) (by rw [e]; exact k.1 j hj)
    omega
theorem bd_iff {R : Mo} {n : Nat} {D : Dk} (h : SV R n D) (k : I0 (qp R) n D) (i : Nat) : pf R i = R 0 7 ↔ pw D (qp R i) = 0 := by
  obtain ⟨j, hj, ej, e⟩ := top_r h k
  have e1 := pf_pw h i
  have e2 := pf_pw h j
  have dp := dd_pos h.1
  rw [e]
  constructor
  · intro q
    rw [q, e2, ej] at e1
    have : (R 0 6 : Rat) * (R 0 6 : Rat) * pw D (qp R i) = 0 := by grind
    exact (Rat.mul_eq_zero.1 this).resolve_left (by grind)
  · intro q
    rw [q] at e1
    rw [ej] at e2
    exact Rat.intCast_inj.1 (by rw [e1, e2])
/-- lowest terms are one -/
theorem canon {a b d a' b' d' : Int} {u v : Rat} (hd : 1 ≤ d) (hd' : 1 ≤ d') (e1 : (a : Rat) = u * (d : Rat)) (e2 : (b : Rat) = v * (d : Rat)) (e1' : (a' : Rat) = u * (d' : Rat)) (e2' : (b' : Rat) = v * (d' : Rat)) (p : Nat.gcd (Nat.gcd a.natAbs b.natAbs) d.natAbs = 1) (p' : Nat.gcd (Nat.gcd a'.natAbs b'.natAbs) d'.natAbs = 1) : a = a' ∧ b = b' ∧ d = d' := by
  have k1 : a * d' = a' * d := by
    have : ((a * d' : Int) : Rat) = ((a' * d : Int) : Rat) := by rw [Rat.intCast_mul, Rat.intCast_mul, e1, e1']; grind
    exact Rat.intCast_inj.1 this
  have k2 : b * d' = b' * d := by
    have : ((b * d' : Int) : Rat) = ((b' * d : Int) : Rat) := by rw [Rat.intCast_mul, Rat.intCast_mul, e2, e2']; grind
    exact Rat.intCast_inj.1 this
  have dv : ∀ {a b d a' b' d' : Int}, a * d' = a' * d → b * d' = b' * d → Nat.gcd (Nat.gcd a.natAbs b.natAbs) d.natAbs = 1 → d.natAbs ∣ d'.natAbs := by
    intro a b d a' b' d' h1 h2 hp
    have n1 : a.natAbs * d'.natAbs = a'.natAbs * d.natAbs := by rw [← Int.natAbs_mul, ← Int.natAbs_mul, h1]
    have n2 : b.natAbs * d'.natAbs = b'.natAbs * d.natAbs := by rw [← Int.natAbs_mul, ← Int.natAbs_mul, h2]
    have g1 : d.natAbs ∣ a.natAbs * d'.natAbs := ⟨a'.natAbs, by rw [n1, Nat.mul_comm]⟩
    have g2 : d.natAbs ∣ b.natAbs * d'.natAbs := ⟨b'.natAbs, by rw [n2, Nat.mul_comm]⟩
    have g3 : d.natAbs ∣ d.natAbs * d'.natAbs := ⟨d'.natAbs, rfl⟩
    have g4 := Nat.dvd_gcd (Nat.dvd_gcd g1 g2) g3
    rw [Nat.gcd_mul_right, Nat.gcd_mul_right, hp, Nat.one_mul] at g4
    exact g4
  have d1 := dv k1 k2 p
  have d2 := dv k1.symm k2.symm p'
  have de : d.natAbs = d'.natAbs := Nat.dvd_antisymm d1 d2
  have dd : d = d' := by omega
  subst dd
  exact ⟨Int.eq_of_mul_eq_mul_right (by omega) k1, Int.eq_of_mul_eq_mul_right (by omega) k2, rfl⟩
theorem sv_same {A B : Mo} {n m : Nat} {D E : Dk} (h : SV A n D) (k : SV B m E) (e : D = E) : A 0 4 = B 0 4 ∧ A 0 5 = B 0 5 ∧ A 0 6 = B 0 6 := by
  subst e
  obtain ⟨a1, a2, a3, a4, _⟩ := h
  obtain ⟨b1, b2, b3, b4, _⟩ := k
  exact canon a1.1 b1.1 a2 a3 b2 b3 a4 b4
/-- counts -/
theorem ctb_mono (f : Nat → Int) (m : Int) : ∀ n k, k ≤ n → ctb f m k ≤ ctb f m n
  | 0, k, h => by have : k = 0 := by omega
                  subst this; exact Int.le_refl _
  | n + 1, k, h => by
    by_cases e : k = n + 1
    · subst e; exact Int.le_refl _
    · have := ctb_mono f m n k (by omega)
      simp only [ctb]; split <;> omega
theorem ctb_s {f : Nat → Int} {m : Int} {i : Nat} (h : f i = m) : ctb f m (i + 1) = ctb f m i + 1 := by
  simp only [ctb]; rw [if_pos h]
theorem ctb1 {f : Nat → Int} {m : Int} {n i : Nat} (hi : i < n) (h : f i = m) : 1 ≤ ctb f m n := by
  have a := ctb_mono f m n (i + 1) (by omega)
  rw [ctb_s h] at a
  have := ctb_b f m i
  omega
theorem ctb2 {f : Nat → Int} {m : Int} {n i j : Nat} (hj : j < n) (hij : i < j) (h1 : f i = m) (h2 : f j = m) : 2 ≤ ctb f m n := by
  have a := ctb_mono f m n (j + 1) (by omega)
  rw [ctb_s h2] at a
  have b := ctb1 hij h1
  omega
theorem ctb3 {f : Nat → Int} {m : Int} {n i j k : Nat} (hk : k < n) (hij : i < j) (hjk : j < k) (h1 : f i = m) (h2 : f j = m) (h3 : f k = m) : 3 ≤ ctb f m n := by
  have a := ctb_mono f m n (k + 1) (by omega)
  rw [ctb_s h3] at a
  have b := ctb2 hjk hij h1 h2
  omega
theorem ctb3' {f : Nat → Int} {m : Int} {n i j k : Nat} (hi : i < n) (hj : j < n) (hk : k < n) (hij : i ≠ j) (hjk : j ≠ k) (hik : i ≠ k) (h1 : f i = m) (h2 : f j = m) (h3 : f k = m) : 3 ≤ ctb f m n := by
  by_cases a : i < j
  · by_cases b : j < k
    · exact ctb3 hk a b h1 h2 h3
    · by_cases c : i < k
      · exact ctb3 hj c (by omega) h1 h3 h2
      · exact ctb3 hj (by omega) a h3 h1 h2
  · by_cases b : i < k
    · exact ctb3 hk (by omega) b h2 h1 h3
    · by_cases c : j < k
      · exact ctb3 hi c (by omega) h2 h3 h1
      · exact ctb3 hi (by omega) (by omega : j < i) h3 h2 h1
theorem ctb2' {f : Nat → Int} {m : Int} {n i j : Nat} (hi : i < n) (hj : j < n) (hij : i ≠ j) (h1 : f i = m) (h2 : f j = m) : 2 ≤ ctb f m n := by
  by_cases a : i < j
  · exact ctb2 hj a h1 h2
  · exact ctb2 hi (by omega) h2 h1
/-- a lone point, or two at least -/
theorem one_pt {p : Nat → Q2} {n : Nat} {D : Dk} (h : I0 p n D) (hd : ∀ i j, i < n → j < n → i ≠ j → p i ≠ p j) {z : Nat} (hz : z < n) (hc : D.1 = (p z).1 ∧ D.2.1 = (p z).2) (hp : pw D (p z) = 0) : n = 1 := by
  have r0 : D.2.2 = 0 := by
    unfold pw at hp
    rw [hc.1, hc.2] at hp
    grind
  have all : ∀ i, i < n → p i = p z := by
    intro i hi
    by_cases e : p i = p z
    · exact e
    · exfalso
      have k := q2ne (fun w => e w.symm : p z ≠ p i)
      have := h.1 i hi
      unfold pw at this
      rw [hc.1, hc.2, r0] at this
      grind
  by_cases c : n = 1
  · exact c
  · exfalso
    by_cases z0 : z = 0
    · exact hd 1 z (by omega) hz (by omega) (all 1 (by omega))
    · exact hd 0 z (by omega) hz (by omega) (all 0 (by omega))
theorem two_pts {p : Nat → Q2} {n : Nat} {D : Dk} (h : I0 p n D) (hd : ∀ i j, i < n → j < n → i ≠ j → p i ≠ p j) (hn : 2 ≤ n) : ∃ i j, i < n ∧ j < n ∧ i ≠ j ∧ pw D (p i) = 0 ∧ pw D (p j) = 0 ∧ ((∃ k, k < n ∧ k ≠ i ∧ k ≠ j ∧ pw D (p k) = 0) ∨ (D.1 * 2 = (p i).1 + (p j).1 ∧ D.2.1 * 2 = (p i).2 + (p j).2)) := by
  rcases id h.2 with ⟨l, hl, e⟩ | ⟨a, b, q, al, be, ga, c, ha, hb, hg, ⟨l, hl, el⟩, ⟨m, hm, em⟩, hh⟩
  · exfalso
    have := one_pt h hd hl (by rw [e]; exact ⟨rfl, rfl⟩) (by rw [e]; unfold pw; dsimp only; grind)
    omega
  · have c' := c
    obtain ⟨c1, c2, c3, c4, c5, c6⟩ := c
    -- a second boundary point
    have sec : ∃ j, j < n ∧ j ≠ l ∧ pw D (p j) = 0 := by
      by_cases w : ∃ j, j < n ∧ j ≠ l ∧ pw D (p j) = 0
      · exact w
      · exfalso
        have eb : b = a := by
          by_cases q1 : m = l
          · rw [em, q1, el]
          · exact absurd ⟨m, hm, q1, by rw [← em]; exact c5⟩ w
        have eq : ga = 0 ∨ q = a := by
          rcases hh with hh | ⟨x, hx, ex, px⟩
          · exact Or.inl hh
          · by_cases q1 : x = l
            · exact Or.inr (by rw [ex, q1, el])
            · exact absurd ⟨x, hx, q1, by rw [← ex]; exact px⟩ w
        have ctr : D.1 = a.1 ∧ D.2.1 = a.2 := by
          rw [eb] at c2 c3
          rcases eq with g0 | g0
          · rw [g0] at c1 c2 c3
            constructor <;> grind
          · rw [g0] at c2 c3
            constructor <;> grind
        have := one_pt h hd hl (by rw [← el]; exact ctr) (by rw [← el]; exact c4)
        omega
    obtain ⟨j, hj, hjl, pj⟩ := sec
    refine ⟨l, j, hl, hj, fun w => hjl w.symm, by rw [← el]; exact c4, pj, ?_⟩
    by_cases w : ∃ k, k < n ∧ k ≠ l ∧ k ≠ j ∧ pw D (p k) = 0
    · exact Or.inl w
    · right
      have only : ∀ k, k < n → pw D (p k) = 0 → k = l ∨ k = j := by
        intro k hk pk
        by_cases q1 : k = l
        · exact Or.inl q1
        · by_cases q2 : k = j
          · exact Or.inr q2
          · exact absurd ⟨k, hk, q1, q2, pk⟩ w
      have lin : ∃ s : Rat, D.1 = (1 - s) * (p l).1 + s * (p j).1 ∧ D.2.1 = (1 - s) * (p l).2 + s * (p j).2 := by
        have hb2 : ∃ t : Rat, b.1 = (1 - t) * (p l).1 + t * (p j).1 ∧ b.2 = (1 - t) * (p l).2 + t * (p j).2 := by
          rcases only m hm (by rw [← em]; exact c5) with q1 | q1
          · exact ⟨0, by rw [em, q1]; constructor <;> grind⟩
          · exact ⟨1, by rw [em, q1]; constructor <;> grind⟩
        obtain ⟨t, t1, t2⟩ := hb2
        rcases hh with hh | ⟨x, hx, ex, px⟩
        · refine ⟨be * t, ?_, ?_⟩
          · rw [c2, hh, t1, ← el]; rw [hh] at c1; grind
          · rw [c3, hh, t2, ← el]; rw [hh] at c1; grind
        · rcases only x hx (by rw [← ex]; exact px) with q1 | q1
          · refine ⟨be * t, ?_, ?_⟩
            · rw [c2, t1, ex, q1, ← el]; grind
            · rw [c3, t2, ex, q1, ← el]; grind
          · refine ⟨be * t + ga, ?_, ?_⟩
            · rw [c2, t1, ex, q1, ← el]; grind
            · rw [c3, t2, ex, q1, ← el]; grind
      obtain ⟨s, s1, s2⟩ := lin
      have pl : pw D (p l) = 0 := by rw [← el]; exact c4
      have kk := q2ne (hd l j hl hj (fun w => hjl w.symm))
      have key : ((p j).1 - (p l).1) * ((p j).1 - (p l).1) + ((p j).2 - (p l).2) * ((p j).2 - (p l).2) ≠ 0 := by grind
      have half : (((p j).1 - (p l).1) * ((p j).1 - (p l).1) + ((p j).2 - (p l).2) * ((p j).2 - (p l).2)) * (2 * s - 1) = 0 := by
        unfold pw at pl pj
        rw [s1, s2] at pl pj
        grind
      have hs := (Rat.mul_eq_zero.1 half).resolve_left key
      constructor
      · rw [s1]; grind
      · rw [s2]; grind
end Jvm.Own

--USES MC_e.lean
namespace Jvm.Own
theorem ptx_ok {F : Nat} {O : Mo} {cap : Int} {n : Nat} (h : MI O cap n) {i : Nat} (hi : i < n) : k_pointX F O (i : Int) = some (O 1 i) := by
  obtain ⟨_, hc, h1, h2, _⟩ := h
  unfold k_pointX
  rw [h1, if_neg (by omega), if_pos (by omega), if_pos (by omega), Int.toNat_natCast]
theorem pty_ok {F : Nat} {O : Mo} {cap : Int} {n : Nat} (h : MI O cap n) {i : Nat} (hi : i < n) : k_pointY F O (i : Int) = some (O 2 i) := by
  obtain ⟨_, hc, h1, h2, _⟩ := h
  unfold k_pointY
  rw [h1, if_neg (by omega), if_pos (by omega), if_pos (by omega), Int.toNat_natCast]
theorem ptx_out {F : Nat} {O : Mo} {cap : Int} {n : Nat} (h : MI O cap n) {v : Int} (hv : (n : Int) ≤ v) : k_pointX F O v = some 0 := by
  obtain ⟨_, hc, h1, h2, _⟩ := h
  unfold k_pointX
  rw [h1, if_neg (by omega), if_neg (by omega)]
theorem pty_out {F : Nat} {O : Mo} {cap : Int} {n : Nat} (h : MI O cap n) {v : Int} (hv : (n : Int) ≤ v) : k_pointY F O v = some 0 := by
  obtain ⟨_, hc, h1, h2, _⟩ := h
  unfold k_pointY
  rw [h1, if_neg (by omega), if_neg (by omega)]
theorem onb_un {F : Nat} {O : Mo} (s : O 0 3 = 0) (v : Int) : k_onBoundary F O v = some 0 := by
  unfold k_onBoundary
  rw [if_pos s]
theorem onb_out {F : Nat} {O : Mo} {cap : Int} {n : Nat} (h : MI O cap n) {v : Int} (hv : v < 0 ∨ (n : Int) ≤ v) : k_onBoundary F O v = some 0 := by
  obtain ⟨_, hc, h1, h2, _⟩ := h
  unfold k_onBoundary
  rw [h1]
  by_cases s : O 0 3 = 0
  · rw [if_pos s]
  · rw [if_neg s]
    by_cases c : v < 0
    · rw [if_pos c]
    · rw [if_neg c, if_neg (by omega)]
theorem MI.sv {O : Mo} {cap : Int} {n : Nat} (h : MI O cap n) (s : O 0 3 = 1) : 1 ≤ n ∧ ∃ D, SV O n D ∧ I0 (qp O) n D := by
  obtain ⟨_, _, _, _, _, _, h7⟩ := h
  rcases h7 with h7 | ⟨_, a, b⟩
  · omega
  · exact ⟨a, b⟩
theorem MI.sol {O : Mo} {cap : Int} {n : Nat} (h : MI O cap n) : O 0 3 = 0 ∨ O 0 3 = 1 := by
  obtain ⟨_, _, _, _, _, _, h7⟩ := h
  rcases h7 with h7 | ⟨b, _⟩
  · exact Or.inl h7
  · exact Or.inr b
theorem onb_ok {F : Nat} {O : Mo} {cap : Int} {n : Nat} (h : MI O cap n) (s : O 0 3 = 1) {i : Nat} (hi : i < n) : k_onBoundary F O (i : Int) = some (if pf O i = O 0 7 then 1 else 0) := by
  obtain ⟨_, D, hs, _⟩ := h.sv s
  obtain ⟨_, hc, h1, h2, _⟩ := h
  unfold k_onBoundary
  rw [h1, if_neg (by omega), if_neg (by omega), if_pos (by omega), if_pos (by omega), Int.toNat_natCast, hs.2.2.2.2.2.1 i hi]
  split <;> rfl
theorem loc_un {O : Mo} (s : O 0 3 = 0) (x y : Int) : k_locate O x y = 0 := by
  unfold k_locate
  rw [if_pos s]
theorem loc_rng {O : Mo} {x y : Int} (r : ¬ rng x y) : k_locate O x y = 0 := by
  unfold k_locate
  rcases rng_ok x y with ⟨r', e⟩ | ⟨_, e⟩
  · exact absurd r' r
  · rw [if_pos e]; split <;> rfl
theorem loc_ok {O : Mo} {cap : Int} {n : Nat} (h : MI O cap n) (s : O 0 3 = 1) {x y : Int} (r : rng x y) : k_locate O x y = (if ipw (O 0 4) (O 0 5) (O 0 6) x y < O 0 7 then 1 else if ipw (O 0 4) (O 0 5) (O 0 6) x y = O 0 7 then 2 else 3) := by
  obtain ⟨_, D, hs, _⟩ := h.sv s
  unfold k_locate
  rcases rng_ok x y with ⟨_, e⟩ | ⟨r', _⟩
  · rw [if_neg (by omega), if_neg (by omega), (pwf_ok hs.1 ⟨r.1, r.2.1⟩ ⟨r.2.2.1, r.2.2.2⟩).1]
  · exact absurd r r'
theorem facts {O : Mo} {cap : Int} {n : Nat} (h : MI O cap n) (s : O 0 3 = 1) : 1 ≤ O 0 6 ∧ 0 ≤ O 0 7 ∧ (1 ≤ O 0 9 ∧ O 0 9 ≤ n) ∧ (∀ i, i < n → pf O i ≤ O 0 7) ∧ O 0 9 = ctb (pf O) (O 0 7) n := by
  obtain ⟨_, D, hs, hk⟩ := h.sv s
  obtain ⟨i, hi, _, e⟩ := top_r hs hk
  have m := mxp_ge (pf O) n
  refine ⟨hs.1.1, by rw [hs.2.2.2.2.1]; exact m.1, ⟨?_, ?_⟩, fun i hi => by rw [hs.2.2.2.2.1]; exact m.2 i hi, hs.2.2.2.2.2.2.1⟩
  · rw [hs.2.2.2.2.2.2.1]; exact ctb1 hi e.symm
  · rw [hs.2.2.2.2.2.2.1]; exact (ctb_b (pf O) (O 0 7) n).2
theorem ipw0 {X Y d x y : Int} (h : ipw X Y d x y = 0) : x * d = X ∧ y * d = Y := by
  unfold ipw at h
  have s1 := isq (x * d - X)
  have s2 := isq (y * d - Y)
  have e1 : (x * d - X) * (x * d - X) = 0 := by omega
  have e2 : (y * d - Y) * (y * d - Y) = 0 := by omega
  have := Int.mul_eq_zero.1 e1
  have := Int.mul_eq_zero.1 e2
  omega
theorem cen {O : Mo} {n : Nat} {D : Dk} (hs : SV O n D) {i : Nat} (e : pf O i = 0) : D.1 = (qp O i).1 ∧ D.2.1 = (qp O i).2 := by
  obtain ⟨e1, e2⟩ := ipw0 e
  have hd : (O 0 6 : Rat) ≠ 0 := by
    have := dd_pos hs.1
    intro q; rw [q] at this; grind
  have q1 := i2r e1
  have q2 := i2r e2
  rw [Rat.intCast_mul, hs.2.1] at q1
  rw [Rat.intCast_mul, hs.2.2.1] at q2
  unfold qp
  dsimp only
  constructor
  · grind
  · grind
theorem I0.one {p : Nat → Q2} {D : Dk} (h : I0 p 1 D) : D.1 = (p 0).1 ∧ D.2.1 = (p 0).2 := by
  obtain ⟨_, ⟨l, hl, h⟩ | ⟨a, b, q, al, be, ga, c, ha, hb, hg, ⟨l, hl, el⟩, ⟨m, hm, em⟩, hh⟩⟩ := h
  · have : l = 0 := by omega
    rw [h, this]; exact ⟨rfl, rfl⟩
  · have l0 : l = 0 := by omega
    have m0 : m = 0 := by omega
    rw [l0] at el; rw [m0] at em
    obtain ⟨c1, c2, c3, _⟩ := c
    rw [el, em] at c2 c3
    rcases hh with g0 | ⟨k, hk, ek, _⟩
    · rw [g0] at c1 c2 c3
      constructor <;> grind
    · have k0 : k = 0 := by omega
      rw [k0] at ek
      rw [ek] at c2 c3
      constructor <;> grind
theorem r_iff {O : Mo} {cap : Int} {n : Nat} (h : MI O cap n) (s : O 0 3 = 1) : O 0 7 = 0 ↔ n = 1 := by
  obtain ⟨_, D, hs, hk⟩ := h.sv s
  obtain ⟨i, hi, e0, e⟩ := top_r hs hk
  constructor
  · intro z
    have c := cen hs (i := i) (by omega)
    exact one_pt hk h.2.2.2.2.2.1 hi c e0
  · intro z
    subst z
    have i0 : i = 0 := by omega
    subst i0
    have := hk.one
    have k := pf_pw hs 0
    have q : pw D (qp O 0) + D.2.2 = 0 := by unfold pw; grind
    rw [q, Rat.mul_zero] at k
    rw [e]
    exact_mod_cast k
theorem kinds {O : Mo} {cap : Int} {n : Nat} (h : MI O cap n) (s : O 0 3 = 1) : (O 0 7 = 0 ∧ O 0 8 = 1) ∨ (O 0 7 ≠ 0 ∧ O 0 8 = 2 ∧ 2 ≤ O 0 9) ∨ (O 0 7 ≠ 0 ∧ O 0 8 = 3 ∧ 3 ≤ O 0 9) := by
  have ri := r_iff h s
  obtain ⟨n1, D, hs, hk⟩ := h.sv s
  by_cases z : O 0 7 = 0
  · left
    have := hs.2.2.2.2.2.2.2
    omega
  · right
    obtain ⟨i, j, hi, hj, hij, b1, b2, hor⟩ := two_pts hk h.2.2.2.2.2.1 (by omega)
    have c1 := (bd_iff hs hk i).2 b1
    have c2 := (bd_iff hs hk j).2 b2
    have e9 := hs.2.2.2.2.2.2.1
    have two : 2 ≤ O 0 9 := by rw [e9]; exact ctb2' hi hj hij c1 c2
    rcases hs.2.2.2.2.2.2.2 with ⟨q, _⟩ | ⟨_, _, q⟩ | ⟨_, np, q⟩
    · exact absurd q z
    · exact Or.inl ⟨z, q, two⟩
    · refine Or.inr ⟨z, q, ?_⟩
      rcases hor with ⟨k, hkn, k1, k2, b3⟩ | ⟨m1, m2⟩
      · rw [e9]; exact ctb3' hi hj hkn hij (Ne.symm k2) (Ne.symm k1) c1 c2 ((bd_iff hs hk k).2 b3)
      · exfalso
        apply np
        have q1 : (O 1 i + O 1 j) * O 0 6 = 2 * O 0 4 := by
          have : (((O 1 i + O 1 j) * O 0 6 : Int) : Rat) = ((2 * O 0 4 : Int) : Rat) := by
            rw [Rat.intCast_mul, Rat.intCast_add, Rat.intCast_mul, hs.2.1]
            unfold qp at m1; dsimp only at m1
            rw [← m1]; grind
          exact_mod_cast this
        have q2 : (O 2 i + O 2 j) * O 0 6 = 2 * O 0 5 := by
          have : (((O 2 i + O 2 j) * O 0 6 : Int) : Rat) = ((2 * O 0 5 : Int) : Rat) := by
            rw [Rat.intCast_mul, Rat.intCast_add, Rat.intCast_mul, hs.2.2.1]
            unfold qp at m2; dsimp only at m2
            rw [← m2]; grind
          exact_mod_cast this
        by_cases w : i < j
        · exact ⟨i, j, w, hj, q1, q2⟩
        · exact ⟨j, i, by omega, hi, by rw [Int.add_comm]; exact q1, by rw [Int.add_comm]; exact q2⟩
end Jvm.Own

--USES MC_f.lean
namespace Jvm.Own
theorem rad {O : Mo} {n : Nat} {D : Dk} (hs : SV O n D) (hk : I0 (qp O) n D) : ((O 0 7 : Int) : Rat) = (O 0 6 : Rat) * (O 0 6 : Rat) * D.2.2 := by
  obtain ⟨i, hi, e0, e⟩ := top_r hs hk
  rw [e, pf_pw hs i, e0]; grind
theorem dsame {A B : Mo} {n m : Nat} {D : Dk} (a1 : SV A n D) (a2 : I0 (qp A) n D) (b1 : SV B m D) (b2 : I0 (qp B) m D) : A 0 4 = B 0 4 ∧ A 0 5 = B 0 5 ∧ A 0 6 = B 0 6 ∧ A 0 7 = B 0 7 := by
  obtain ⟨e4, e5, e6⟩ := sv_same a1 b1 rfl
  refine ⟨e4, e5, e6, ?_⟩
  have h1 := rad a1 a2
  have h2 := rad b1 b2
  rw [e6, ← h2] at h1
  exact_mod_cast h1
theorem qpe {A B : Mo} {i j : Nat} (h1 : A 1 i = B 1 j) (h2 : A 2 i = B 2 j) : qp A i = qp B j := by unfold qp; rw [h1, h2]
theorem pairs_sub {A B : Mo} {n m : Nat} (e4 : A 0 4 = B 0 4) (e5 : A 0 5 = B 0 5) (e6 : A 0 6 = B 0 6) (hd : ∀ i j, i < n → j < n → i ≠ j → qp A i ≠ qp A j) (h1 : ∀ i, i < n → ∃ j, j < m ∧ A 1 i = B 1 j ∧ A 2 i = B 2 j) (h : Pairs A n) : Pairs B m := by
  obtain ⟨i, j, hij, hj, q1, q2⟩ := h
  obtain ⟨i', hi', x1, y1⟩ := h1 i (by omega)
  obtain ⟨j', hj', x2, y2⟩ := h1 j hj
  have ne : i' ≠ j' := by
    intro w
    subst w
    exact hd i j (by omega) hj (by omega) (qp_eq.2 ⟨by omega, by omega⟩)
  rw [x1, x2, e6, e4] at q1
  rw [y1, y2, e6, e5] at q2
  by_cases w : i' < j'
  · exact ⟨i', j', w, hj', q1, q2⟩
  · exact ⟨j', i', by omega, hi', by rw [Int.add_comm]; exact q1, by rw [Int.add_comm]; exact q2⟩
theorem set_same {A B : Mo} {cap cap' : Int} {n m : Nat} (hA : MI A cap n) (hB : MI B cap' m) (sA : A 0 3 = 1) (sB : B 0 3 = 1) (h1 : ∀ i, i < n → ∃ j, j < m ∧ A 1 i = B 1 j ∧ A 2 i = B 2 j) (h2 : ∀ j, j < m → ∃ i, i < n ∧ B 1 j = A 1 i ∧ B 2 j = A 2 i) :
    A 0 4 = B 0 4 ∧ A 0 5 = B 0 5 ∧ A 0 6 = B 0 6 ∧ A 0 7 = B 0 7 ∧ A 0 8 = B 0 8 := by
  obtain ⟨_, D, a1, a2⟩ := hA.sv sA
  obtain ⟨_, E, b1, b2⟩ := hB.sv sB
  have e : D = E := I0.uniq a2 b2 (fun l hl => by obtain ⟨j, hj, x, y⟩ := h1 l hl; exact ⟨j, hj, qpe x y⟩) (fun l hl => by obtain ⟨j, hj, x, y⟩ := h2 l hl; exact ⟨j, hj, qpe x y⟩)
  subst e
  obtain ⟨e4, e5, e6, e7⟩ := dsame a1 a2 b1 b2
  refine ⟨e4, e5, e6, e7, ?_⟩
  have p1 := pairs_sub e4 e5 e6 hA.2.2.2.2.2.1 h1
  have p2 := pairs_sub e4.symm e5.symm e6.symm hB.2.2.2.2.2.1 h2
  have k1 := a1.2.2.2.2.2.2.2
  have k2 := b1.2.2.2.2.2.2.2
  rcases k1 with ⟨u, v⟩ | ⟨u, w, v⟩ | ⟨u, w, v⟩ <;> rcases k2 with ⟨u', v'⟩ | ⟨u', w', v'⟩ | ⟨u', w', v'⟩
  all_goals first | (rw [v, v']; done) | (exfalso; omega) | exact absurd (p1 w) w' | exact absurd (p2 w') w
/-- the same points in the same order -/
def SP (A B : Mo) (n : Nat) : Prop := ∀ i, i < n → A 1 i = B 1 i ∧ A 2 i = B 2 i
theorem pf_same {A B : Mo} {i j : Nat} (e4 : A 0 4 = B 0 4) (e5 : A 0 5 = B 0 5) (e6 : A 0 6 = B 0 6) (x : A 1 i = B 1 j) (y : A 2 i = B 2 j) : pf A i = pf B j := by
  unfold pf; rw [e4, e5, e6, x, y]
theorem sp_same {A B : Mo} {cap cap' : Int} {n : Nat} (hA : MI A cap n) (hB : MI B cap' n) (sA : A 0 3 = 1) (sB : B 0 3 = 1) (h : SP A B n) :
    A 0 4 = B 0 4 ∧ A 0 5 = B 0 5 ∧ A 0 6 = B 0 6 ∧ A 0 7 = B 0 7 ∧ A 0 8 = B 0 8 ∧ A 0 9 = B 0 9 ∧ ∀ i, i < n → pf A i = pf B i := by
  obtain ⟨e4, e5, e6, e7, e8⟩ := set_same hA hB sA sB (fun i hi => ⟨i, hi, h i hi⟩) (fun i hi => ⟨i, hi, (h i hi).1.symm, (h i hi).2.symm⟩)
  have pe : ∀ i, i < n → pf A i = pf B i := fun i hi => pf_same e4 e5 e6 (h i hi).1 (h i hi).2
  refine ⟨e4, e5, e6, e7, e8, ?_, pe⟩
  rw [(facts hA sA).2.2.2.2, (facts hB sB).2.2.2.2, e7]
  exact ctb_congr n pe
theorem I0.congr {p q : Nat → Q2} {n : Nat} {D : Dk} (h : I0 p n D) (e : ∀ i, i < n → p i = q i) : I0 q n D := by
  obtain ⟨hi, hor⟩ := h
  refine ⟨fun l hl => by rw [← e l hl]; exact hi l hl, ?_⟩
  rcases hor with ⟨l, hl, h⟩ | ⟨a, b, u, al, be, ga, c, ha, hb, hg, ⟨l, hl, el⟩, ⟨m, hm, em⟩, hh⟩
  · exact Or.inl ⟨l, hl, by rw [← e l hl]; exact h⟩
  · refine Or.inr ⟨a, b, u, al, be, ga, c, ha, hb, hg, ⟨l, hl, by rw [← e l hl]; exact el⟩, ⟨m, hm, by rw [← e m hm]; exact em⟩, ?_⟩
    rcases hh with g0 | ⟨k, hk, ek, z⟩
    · exact Or.inl g0
    · exact Or.inr ⟨k, hk, by rw [← e k hk]; exact ek, z⟩
/-- a point that the disk does not touch may go -/
theorem I0.drop {p : Nat → Q2} {n : Nat} {D : Dk} (h : I0 p (n + 1) D) (k : pw D (p n) ≠ 0) : I0 p n D := by
  obtain ⟨hi, hor⟩ := h
  refine ⟨fun l hl => hi l (by omega), ?_⟩
  rcases hor with ⟨l, hl, h⟩ | ⟨a, b, u, al, be, ga, c, ha, hb, hg, ⟨l, hl, el⟩, ⟨m, hm, em⟩, hh⟩
  · have : l ≠ n := by
      intro w
      subst w
      apply k
      rw [h]; unfold pw; dsimp only; grind
    exact Or.inl ⟨l, by omega, h⟩
  · obtain ⟨c1, c2, c3, c4, c5, c6⟩ := c
    have l1 : l ≠ n := by intro w; subst w; rw [el] at c4; exact k c4
    have m1 : m ≠ n := by intro w; subst w; rw [em] at c5; exact k c5
    refine Or.inr ⟨a, b, u, al, be, ga, ⟨c1, c2, c3, c4, c5, c6⟩, ha, hb, hg, ⟨l, by omega, el⟩, ⟨m, by omega, em⟩, ?_⟩
    rcases hh with g0 | ⟨j, hj, ej, z⟩
    · exact Or.inl g0
    · have j1 : j ≠ n := by intro w; subst w; rw [ej] at z; exact k z
      exact Or.inr ⟨j, by omega, ej, z⟩
end Jvm.Own

--USES MC_g.lean
namespace Jvm.Own
theorem wz {x c d : Rat} (hx : 0 ≤ x) (h : 0 < c ∨ (c = 0 ∧ 0 < d)) : 0 ≤ x * c ∧ (x * c = 0 → 0 ≤ x * d ∧ (x * d = 0 → x = 0)) := by
  rcases h with h | ⟨h, k⟩
  · refine ⟨Rat.mul_nonneg hx (Rat.le_of_lt h), fun e => ?_⟩
    have : x = 0 := by
      rcases Rat.mul_eq_zero.1 e with w | w
      · exact w
      · exfalso; grind
    rw [this]
    exact ⟨by grind, fun _ => rfl⟩
  · rw [h]
    refine ⟨by grind, fun _ => ⟨Rat.mul_nonneg hx (Rat.le_of_lt k), fun e => ?_⟩⟩
    rcases Rat.mul_eq_zero.1 e with w | w
    · exact w
    · exfalso; grind
theorem halfp {p : Nat → Q2} {n : Nat} {D : Dk} (h : I0 p n D) (vx vy : Rat) (H : ∀ j, j < n → pw D (p j) = 0 → 0 < vx * ((p j).2 - D.2.1) - vy * ((p j).1 - D.1) ∨ (vx * ((p j).2 - D.2.1) - vy * ((p j).1 - D.1) = 0 ∧ 0 < vx * ((p j).1 - D.1) + vy * ((p j).2 - D.2.1))) : False := by
  obtain ⟨hi, ⟨l, hl, h⟩ | ⟨a, b, q, al, be, ga, c, ha, hb, hg, ⟨l, hl, el⟩, ⟨m, hm, em⟩, hh⟩⟩ := h
  · have e1 : D.1 = (p l).1 := by rw [h]
    have e2 : D.2.1 = (p l).2 := by rw [h]
    have e3 : D.2.2 = 0 := by rw [h]
    have := H l hl (by unfold pw; grind)
    grind
  · obtain ⟨c1, c2, c3, c4, c5, c6⟩ := c
    have A := wz ha (H l hl (by rw [← el]; exact c4))
    have B := wz hb (H m hm (by rw [← em]; exact c5))
    rw [← el] at A
    rw [← em] at B
    have G : 0 ≤ ga * (vx * (q.2 - D.2.1) - vy * (q.1 - D.1)) ∧ (ga * (vx * (q.2 - D.2.1) - vy * (q.1 - D.1)) = 0 → 0 ≤ ga * (vx * (q.1 - D.1) + vy * (q.2 - D.2.1)) ∧ (ga * (vx * (q.1 - D.1) + vy * (q.2 - D.2.1)) = 0 → ga = 0)) := by
      rcases hh with g0 | ⟨k, hk, ek, z⟩
      · rw [g0]; exact ⟨by grind, fun _ => ⟨by grind, fun _ => rfl⟩⟩
      · have := wz hg (H k hk (by rw [← ek]; exact z))
        rw [← ek] at this
        exact this
    have s1 : al * (vx * (a.2 - D.2.1) - vy * (a.1 - D.1)) + be * (vx * (b.2 - D.2.1) - vy * (b.1 - D.1)) + ga * (vx * (q.2 - D.2.1) - vy * (q.1 - D.1)) = 0 := by grind
    have s2 : al * (vx * (a.1 - D.1) + vy * (a.2 - D.2.1)) + be * (vx * (b.1 - D.1) + vy * (b.2 - D.2.1)) + ga * (vx * (q.1 - D.1) + vy * (q.2 - D.2.1)) = 0 := by grind
    generalize al * (vx * (a.2 - D.2.1) - vy * (a.1 - D.1)) = x1 at *
    generalize be * (vx * (b.2 - D.2.1) - vy * (b.1 - D.1)) = x2 at *
    generalize ga * (vx * (q.2 - D.2.1) - vy * (q.1 - D.1)) = x3 at *
    generalize al * (vx * (a.1 - D.1) + vy * (a.2 - D.2.1)) = y1 at *
    generalize be * (vx * (b.1 - D.1) + vy * (b.2 - D.2.1)) = y2 at *
    generalize ga * (vx * (q.1 - D.1) + vy * (q.2 - D.2.1)) = y3 at *
    have z1 : x1 = 0 := by have := A.1; have := B.1; have := G.1; grind
    have z2 : x2 = 0 := by have := A.1; have := B.1; have := G.1; grind
    have z3 : x3 = 0 := by have := A.1; have := B.1; have := G.1; grind
    obtain ⟨A1, A2⟩ := A.2 z1
    obtain ⟨B1, B2⟩ := B.2 z2
    obtain ⟨G1, G2⟩ := G.2 z3
    have := A2 (by grind)
    have := B2 (by grind)
    have := G2 (by grind)
    grind
def wx (O : Mo) (i : Nat) : Int := O 1 i * O 0 6 - O 0 4
def wy (O : Mo) (i : Nat) : Int := O 2 i * O 0 6 - O 0 5
theorem wb {O : Mo} (h : Cb O) {i : Nat} (p : Pr1 O i) : (-1065302000 ≤ wx O i ∧ wx O i ≤ 1065302000) ∧ (-1065302000 ≤ wy O i ∧ wy O i ≤ 1065302000) ∧ w64 (w64 (O 1 i * O 0 6) - O 0 4) = wx O i ∧ w64 (w64 (O 2 i * O 0 6) - O 0 5) = wy O i := by
  obtain ⟨h1, h2, h3, h4⟩ := h
  obtain ⟨p1, p2, p3, p4⟩ := p
  have m1 := mlb (x := O 1 i) (y := O 0 6) (a := 255) (b := 1040400) p1 p2 (by omega) h2
  have m2 := mlb (x := O 2 i) (y := O 0 6) (a := 255) (b := 1040400) p3 p4 (by omega) h2
  unfold wx wy
  generalize O 1 i * O 0 6 = s at *
  generalize O 2 i * O 0 6 = t at *
  refine ⟨by omega, by omega, ?_, ?_⟩
  · rw [t64 (x := s) (by omega) (by omega), t64 (by omega) (by omega)]
  · rw [t64 (x := t) (by omega) (by omega), t64 (by omega) (by omega)]
theorem some_side {O : Mo} {n : Nat} {D : Dk} (hs : SV O n D) (hk : I0 (qp O) n D) (vx vy : Int) (H : ∀ j, j < n → pf O j = O 0 7 → 0 < vx * wy O j - vy * wx O j ∨ (vx * wy O j - vy * wx O j = 0 ∧ 0 < vx * wx O j + vy * wy O j)) : False := by
  have dd := dd_pos hs.1
  have dp : 0 < (O 0 6 : Rat) := by
    have := hs.1.1
    have : ((0 : Int) : Rat) < ((O 0 6 : Int) : Rat) := Rat.intCast_lt_intCast.2 (by omega)
    exact_mod_cast this
  have ex : ∀ j, ((wx O j : Int) : Rat) = (O 0 6 : Rat) * ((qp O j).1 - D.1) := by
    intro j
    unfold wx qp
    rw [Rat.intCast_sub, Rat.intCast_mul, hs.2.1]
    dsimp only; grind
  have ey : ∀ j, ((wy O j : Int) : Rat) = (O 0 6 : Rat) * ((qp O j).2 - D.2.1) := by
    intro j
    unfold wy qp
    rw [Rat.intCast_sub, Rat.intCast_mul, hs.2.2.1]
    dsimp only; grind
  have pos : ∀ z : Rat, 0 < (O 0 6 : Rat) * z → 0 < z := by
    intro z h
    by_cases w : 0 < z
    · exact w
    · exfalso
      have := Rat.mul_nonneg (Rat.le_of_lt dp) (show 0 ≤ -z by grind)
      grind
  refine halfp hk (vx : Rat) (vy : Rat) (fun j hj e => ?_)
  have := H j hj ((bd_iff hs hk j).2 e)
  have c1 : ((vx * wy O j - vy * wx O j : Int) : Rat) = (O 0 6 : Rat) * ((vx : Rat) * ((qp O j).2 - D.2.1) - (vy : Rat) * ((qp O j).1 - D.1)) := by
    rw [Rat.intCast_sub, Rat.intCast_mul, Rat.intCast_mul, ex, ey]; grind
  have c2 : ((vx * wx O j + vy * wy O j : Int) : Rat) = (O 0 6 : Rat) * ((vx : Rat) * ((qp O j).1 - D.1) + (vy : Rat) * ((qp O j).2 - D.2.1)) := by
    rw [Rat.intCast_add, Rat.intCast_mul, Rat.intCast_mul, ex, ey]; grind
  have up : ∀ z : Int, 0 < z → 0 < (z : Rat) := fun z hz => by
    have : ((0 : Int) : Rat) < ((z : Int) : Rat) := Rat.intCast_lt_intCast.2 hz
    exact_mod_cast this
  rcases this with a | ⟨a, b⟩
  · left
    have := up _ a
    rw [c1] at this
    exact pos _ this
  · right
    have b' := up _ b
    rw [c2] at b'
    refine ⟨?_, pos _ b'⟩
    rw [a] at c1
    have z : (O 0 6 : Rat) * ((vx : Rat) * ((qp O j).2 - D.2.1) - (vy : Rat) * ((qp O j).1 - D.1)) = 0 := by rw [← c1]; rfl
    rcases Rat.mul_eq_zero.1 z with w | w
    · exfalso; grind
    · exact w
theorem ptb {O : Mo} {cap : Int} {n : Nat} (h : MI O cap n) {i : Nat} (hi : i < n) : rng (O 1 i) (O 2 i) := h.2.2.2.2.1 i hi
theorem c58 {F : Nat} (hF : 1000 ≤ F) {O : Mo} {cap : Int} {n : Nat} (h : MI O cap n) (s : O 0 3 = 1) (a b c : Int) : loop (fun s => b_u_check_58 F O a b c (n : Int) s.1 s.2) F ((0 : Int), (0 : Int)) = some (Sum.inl (O 0 9)) := by
  obtain ⟨f1, f2, f3, f4, f5⟩ := facts h s
  have hn : n ≤ 32 := by have := h.2.2.2.1; have := h.2.1; omega
  rw [f5]
  refine lp_iter (body := fun s : Int × Int => b_u_check_58 F O a b c (n : Int) s.1 s.2) (fun k => (ctb (pf O) (O 0 7) k, (k : Int))) n _ (fun k hk => ?_) ?_ (F := F) (by omega)
  · dsimp only
    have ks : k < 2147483647 := by omega
    have cb := ctb_b (pf O) (O 0 7) k
    have k1 : (k : Int) < (n : Int) := by omega
    have le : ipw (O 0 4) (O 0 5) (O 0 6) (O 1 k) (O 2 k) ≤ O 0 7 := f4 k hk
    have lc := loc_ok h s (ptb h hk)
    have ob := onb_ok (F := F) h s hk
    unfold b_u_check_58
    rw [if_pos k1, ptx_ok h hk, Option.bind_some, pty_ok h hk, Option.bind_some]
    by_cases e : ipw (O 0 4) (O 0 5) (O 0 6) (O 1 k) (O 2 k) = O 0 7
    · rw [if_neg (by omega), if_pos e] at lc
      rw [if_pos (show pf O k = O 0 7 from e)] at ob
      have c1 : ctb (pf O) (O 0 7) (k + 1) = ctb (pf O) (O 0 7) k + 1 := ctb_s e
      have w : w32 (ctb (pf O) (O 0 7) k + 1) = ctb (pf O) (O 0 7) (k + 1) := by rw [c1]; exact t32 (by omega) (by omega)
      rw [lc, if_neg (by decide), if_pos rfl]
      unfold i_u_check_97
      rw [if_pos rfl]
      unfold i_u_check_108
      rw [ob, Option.bind_some, if_pos rfl, if_neg (by decide), w, t32s ks]
    · rw [if_pos (by omega)] at lc
      rw [if_neg (show ¬ pf O k = O 0 7 from e)] at ob
      have c1 : ctb (pf O) (O 0 7) (k + 1) = ctb (pf O) (O 0 7) k := by
        simp only [ctb]; rw [if_neg (show ¬ pf O k = O 0 7 from e)]; first | rfl | omega
      rw [lc, if_pos rfl]
      unfold i_u_check_97
      rw [if_neg (by decide)]
      unfold i_u_check_108
      rw [ob, Option.bind_some, if_pos rfl, if_pos rfl, c1, t32s ks]
  · dsimp only
    unfold b_u_check_58
    rw [if_neg (by omega)]
theorem c226 {F : Nat} (hF : 1000 ≤ F) {O : Mo} {cap : Int} {n : Nat} (h : MI O cap n) (s : O 0 3 = 1) {vx vy : Int} (hx : -1065302000 ≤ vx ∧ vx ≤ 1065302000) (hy : -1065302000 ≤ vy ∧ vy ≤ 1065302000) (c1 c2 : Int) :
    ∃ r, loop (fun s => b_u_check_226 F O (O 0 6) (O 0 4) (O 0 5) (n : Int) c1 vx vy c2 s) F (0 : Int) = some r ∧ (r = Sum.inr (Sum.inl ()) ∨ r = Sum.inr (Sum.inr ())) := by
  obtain ⟨_, D, hs, hk⟩ := h.sv s
  have hn : n ≤ 32 := by have := h.2.2.2.1; have := h.2.1; omega
  refine lp_spec (body := fun s : Int => b_u_check_226 F O (O 0 6) (O 0 4) (O 0 5) (n : Int) c1 vx vy c2 s) (fun s => ∃ k : Nat, k ≤ n ∧ s = (k : Int) ∧ ∀ j, j < k → pf O j = O 0 7 → 0 < vx * wy O j - vy * wx O j ∨ (vx * wy O j - vy * wx O j = 0 ∧ 0 < vx * wx O j + vy * wy O j)) (fun s => (100 - s).toNat) _ ?_ F _ ⟨0, by omega, rfl, fun j hj => absurd hj (Nat.not_lt_zero _)⟩ (by omega)
  rintro t ⟨k, hkn, e1, hall⟩
  subst e1
  unfold b_u_check_226
  by_cases d : k < n
  · have ks : k < 2147483647 := by omega
    have k1 : (k : Int) < (n : Int) := by omega
    have mu : (100 - ((k + 1 : Nat) : Int)).toNat < (100 - (k : Int)).toNat := by omega
    have nxt : (pf O k = O 0 7 → 0 < vx * wy O k - vy * wx O k ∨ (vx * wy O k - vy * wx O k = 0 ∧ 0 < vx * wx O k + vy * wy O k)) → ∃ z, (some (Sum.inl (((k + 1 : Nat) : Int))) : Option (Int ⊕ (Unit ⊕ (Unit ⊕ Unit)))) = some z ∧ Sum.elim (fun s' : Int => (∃ k : Nat, k ≤ n ∧ s' = (k : Int) ∧ ∀ j, j < k → pf O j = O 0 7 → 0 < vx * wy O j - vy * wx O j ∨ (vx * wy O j - vy * wx O j = 0 ∧ 0 < vx * wx O j + vy * wy O j)) ∧ (100 - s').toNat < (100 - (k : Int)).toNat) (fun r => r = Sum.inr (Sum.inl ()) ∨ r = Sum.inr (Sum.inr ())) z := by
      intro hq
      refine ⟨_, rfl, ⟨k + 1, by omega, rfl, fun j hj => ?_⟩, mu⟩
      by_cases w : j = k
      · rw [w]; exact hq
      · exact hall j (by omega)
    rw [if_pos k1, onb_ok h s d, Option.bind_some, t32s ks]
    by_cases e : pf O k = O 0 7
    · rw [if_pos e, if_neg (by decide), ptx_ok h d, Option.bind_some, lt_eq, pty_ok h d, Option.bind_some, lt_eq]
      obtain ⟨b1, b2, b3, b4⟩ := wb hs.1 (h.2.2.2.2.1 k d)
      rw [b3, b4]
      have m1 := mlb hx.1 hx.2 b2.1 b2.2
      have m2 := mlb hy.1 hy.2 b1.1 b1.2
      have m3 := mlb hx.1 hx.2 b1.1 b1.2
      have m4 := mlb hy.1 hy.2 b2.1 b2.2
      clear b3 b4
      generalize hp : vx * wy O k = p at *
      generalize hq : vy * wx O k = q at *
      generalize hu : vx * wx O k = u at *
      generalize hv : vy * wy O k = v at *
      have n1 : w64 (-v) = -v := t64 (by omega) (by omega)
      rw [t64 (x := p) (by omega) (by omega), t64 (x := q) (by omega) (by omega), t64 (x := u) (by omega) (by omega), t64 (x := v) (by omega) (by omega), n1]
      clear n1
      by_cases x1 : p < q
      · rw [if_pos x1]; exact ⟨_, rfl, Or.inl rfl⟩
      · rw [if_neg x1]
        by_cases x2 : p = q
        · rw [if_pos x2]
          by_cases x3 : -v < u
          · rw [if_pos x3]; exact nxt (fun _ => Or.inr ⟨by omega, by omega⟩)
          · rw [if_neg x3]; exact ⟨_, rfl, Or.inr rfl⟩
        · rw [if_neg x2]; exact nxt (fun _ => Or.inl (by omega))
    · rw [if_neg e, if_pos rfl]
      exact nxt (fun w => absurd w e)
  · exfalso
    have : k = n := by omega
    subst this
    exact some_side hs hk vx vy hall
theorem c157 {F : Nat} (hF : 1000 ≤ F) {O : Mo} {cap : Int} {n : Nat} (h : MI O cap n) (s : O 0 3 = 1) : loop (fun s => b_u_check_157 F O (O 0 6) (O 0 4) (O 0 5) (n : Int) s) F (0 : Int) = some (Sum.inr 1) := by
  obtain ⟨_, D, hs, hk⟩ := h.sv s
  have hn : n ≤ 32 := by have := h.2.2.2.1; have := h.2.1; omega
  refine lp_iter (body := fun s : Int => b_u_check_157 F O (O 0 6) (O 0 4) (O 0 5) (n : Int) s) (fun k => (k : Int)) n _ (fun k hkn => ?_) ?_ (F := F) (by omega)
  · have ks : k < 2147483647 := by omega
    have k1 : (k : Int) < (n : Int) := by omega
    obtain ⟨b1, b2, b3, b4⟩ := wb hs.1 (h.2.2.2.2.1 k hkn)
    unfold b_u_check_157
    rw [if_pos k1, onb_ok h s hkn, Option.bind_some, t32s ks]
    by_cases e : pf O k = O 0 7
    · rw [if_pos e, if_neg (by decide), ptx_ok h hkn, Option.bind_some, lt_eq, pty_ok h hkn, Option.bind_some, lt_eq, b3, b4]
      have go : i_u_check_220 F O (O 0 6) (O 0 4) (O 0 5) (n : Int) (k : Int) (wx O k) (wy O k) = some (Sum.inl ((k + 1 : Nat) : Int)) := by
        unfold i_u_check_220
        obtain ⟨r, er, hr⟩ := c226 hF h s b1 b2 (k : Int) 1
        rw [er, Option.bind_some]
        rcases hr with rfl | rfl
        · dsimp only [Sum.elim]; unfold i_u_check_335; rw [if_pos rfl, t32s ks]
        · dsimp only [Sum.elim]; unfold i_u_check_335; rw [if_pos rfl, t32s ks]
      rw [go]
      by_cases y1 : wx O k = 0
      · rw [if_pos y1]
        by_cases y2 : wy O k = 0
        · rw [if_pos y2]
        · rw [if_neg y2]
      · rw [if_neg y1]
    · rw [if_neg e, if_pos rfl]
  · unfold b_u_check_157
    rw [if_neg (by omega)]
theorem chk {F : Nat} (hF : 1000 ≤ F) {O : Mo} {cap : Int} {n : Nat} (h : MI O cap n) : u_check F O = some 1 := by
  unfold u_check
  rcases h.sol with s | s
  · rw [if_pos (show k_isSolved O = 0 by unfold k_isSolved; rw [s]; rfl)]
  · have sn : ¬ O 0 3 = 0 := by omega
    obtain ⟨f1, f2, f3, f4, f5⟩ := facts h s
    have e6 : k_centreDen O = O 0 6 := if_neg sn
    have e4 : k_centreXNum O = O 0 4 := if_neg sn
    have e5 : k_centreYNum O = O 0 5 := if_neg sn
    have e7 : k_radiusSqNum O = O 0 7 := if_neg sn
    have e9 : k_boundaryCount O = O 0 9 := if_neg sn
    have ec : k_count O = (n : Int) := h.2.2.1
    rw [if_neg (show ¬ k_isSolved O = 0 by unfold k_isSolved; rw [s]; decide), e6, e4, e5, e7, e9, ec, if_neg (by omega), if_neg (by omega), c58 hF h s, Option.bind_some]
    dsimp only [Sum.elim]
    rw [if_neg (by omega), if_pos rfl, c157 hF h s]
    rfl
theorem fin {F : Nat} (hF : 1000 ≤ F) {O : Mo} {cap : Int} {n : Nat} {xs : List Int} {v3 : Int} (h : MI O cap n) : i_u_law_191 F O xs v3 = some (Sum.inl (w32 (v3 + 3), O)) := by
  unfold i_u_law_191
  rw [chk hF h, Option.bind_some, if_neg (by decide)]
theorem cell_ok (F : Nat) (xs : List Int) {v : Int} (h : 0 ≤ v) : ∃ r, u_cell F xs v = some r := by
  unfold u_cell
  by_cases c : v < (xs.length : Int)
  · rw [if_pos c, if_pos ⟨h, c⟩]; exact ⟨_, rfl⟩
  · rw [if_neg c]; exact ⟨_, rfl⟩
theorem pos_ok (F : Nat) (v : Int) {m : Int} (h : m ≠ 0) : ∃ r, u_pos F v m = some r := by
  unfold u_pos
  rw [if_neg h]
  split <;> exact ⟨_, rfl⟩
theorem sol {F : Nat} (hF : 1000 ≤ F) {O : Mo} {cap : Int} {n : Nat} (h : MI O cap n) : ∃ q R, k_solve F O = some (q, R) ∧ MI R cap n := by
  by_cases z : n = 0
  · subst z
    exact ⟨_, _, solve_0 h, h⟩
  · obtain ⟨P', e, p1, p2, p3⟩ := solve_ok hF h (by omega)
    exact ⟨_, _, e, p1⟩
theorem ad {F : Nat} (hF : 1000 ≤ F) {O : Mo} {cap : Int} {n : Nat} (h : MI O cap n) (x y : Int) : ∃ q R m, k_addPoint F O x y = some (q, R) ∧ MI R cap m := by
  rcases add_ok hF h x y with ⟨p1, p2⟩ | ⟨p1, p2, p3, P', p4, p5, p6, p7, p8, p9⟩
  · exact ⟨_, _, _, p1, h⟩
  · exact ⟨_, _, _, p4, p5⟩
theorem rm {F : Nat} {O : Mo} {cap : Int} {n : Nat} (h : MI O cap n) : ∃ q R m, k_removeLast F O = some (q, R) ∧ MI R cap m := by
  rcases rem_ok (F := F) h with ⟨z, e⟩ | ⟨z, P', e, p1, p2, p3⟩
  · exact ⟨_, _, _, e, h⟩
  · exact ⟨_, _, _, e, p1⟩
theorem u_law_F {F : Nat} (hF : 1000 ≤ F) (xs : List Int) (hl : xs.length ≤ 260) : u_law F xs = some 1 := by
  unfold u_law
  obtain ⟨r0, x0⟩ := cell_ok F xs (v := 0) (Int.le_refl _)
  obtain ⟨r1, x1⟩ := pos_ok F r0 (m := 25) (by decide)
  obtain ⟨r2, x2⟩ := cell_ok F xs (v := 1) (by decide)
  obtain ⟨A, cap, eA, a1, a2, a3⟩ := ctor_ok (F := F) (w32 (8 + r1)) r2
  clear a3
  rw [x0, Option.bind_some, x1, Option.bind_some, x2, Option.bind_some, eA, Option.bind_some]
  have main : ∃ r, loop (fun s => b_u_law_30 F xs s.1 s.2) F ((2 : Int), A) = some r ∧ ∃ R n, r = Sum.inl R ∧ MI R cap n := by
    refine lp_spec (body := fun s : Int × Mo => b_u_law_30 F xs s.1 s.2) (fun s => ∃ k n : Nat, s.1 = ((3 * k + 2 : Nat) : Int) ∧ 3 * k ≤ xs.length + 2 ∧ MI s.2 cap n) (fun s => (500 - s.1).toNat) (fun r => ∃ R n, r = Sum.inl R ∧ MI R cap n) ?_ F _ ⟨0, 0, rfl, by omega, a1⟩ (by dsimp only; omega)
    rintro ⟨t1, P⟩ ⟨k, n, e1, hk, hP⟩
    dsimp only at e1 hP ⊢
    subst e1
    unfold b_u_law_30
    by_cases c : ((3 * k + 2 : Nat) : Int) < (xs.length : Int)
    · have z1 : w32 (((3 * k + 2 : Nat) : Int) + 1) = ((3 * k + 3 : Nat) : Int) := by rw [t32 (by omega) (by omega)]; omega
      have z2 : w32 (((3 * k + 2 : Nat) : Int) + 2) = ((3 * k + 4 : Nat) : Int) := by clear z1; rw [t32 (by omega) (by omega)]; omega
      have z3 : w32 (((3 * k + 2 : Nat) : Int) + 3) = ((3 * (k + 1) + 2 : Nat) : Int) := by clear z1 z2; rw [t32 (by omega) (by omega)]; omega
      have mu : (500 - ((3 * (k + 1) + 2 : Nat) : Int)).toNat < (500 - ((3 * k + 2 : Nat) : Int)).toNat := by clear z1 z2 z3; omega
      have nk : 3 * (k + 1) ≤ xs.length + 2 := by clear z1 z2 z3; omega
      obtain ⟨s1, y1⟩ := cell_ok F xs (v := ((3 * k + 2 : Nat) : Int)) (Int.natCast_nonneg _)
      obtain ⟨s2, y2⟩ := pos_ok F s1 (m := 16) (by decide)
      obtain ⟨s3, y3⟩ := cell_ok F xs (v := ((3 * k + 3 : Nat) : Int)) (Int.natCast_nonneg _)
      obtain ⟨s4, y4⟩ := cell_ok F xs (v := ((3 * k + 4 : Nat) : Int)) (Int.natCast_nonneg _)
      rw [if_pos c, y1, Option.bind_some, y2, Option.bind_some, z1, y3, Option.bind_some, z2, y4, Option.bind_some]
      clear z1 z2 y1 y2 y3 y4
      have go : ∀ (R : Mo) (m : Nat), MI R cap m → ∃ x, i_u_law_191 F R xs ((3 * k + 2 : Nat) : Int) = some x ∧ Sum.elim (fun s' : Int × Mo => (∃ k n : Nat, s'.1 = ((3 * k + 2 : Nat) : Int) ∧ 3 * k ≤ xs.length + 2 ∧ MI s'.2 cap n) ∧ (500 - s'.1).toNat < (500 - ((3 * k + 2 : Nat) : Int)).toNat) (fun r => ∃ R n, r = Sum.inl R ∧ MI R cap n) x := by
        intro R m hR
        rw [fin hF hR, z3]
        exact ⟨_, rfl, ⟨k + 1, m, rfl, nk, hR⟩, mu⟩
      clear z3
      by_cases o1 : s2 < 4
      · rw [if_pos o1]
        obtain ⟨u, hu⟩ := pos_ok F s3 (m := 9) (by decide)
        obtain ⟨v, hv⟩ := pos_ok F s4 (m := 9) (by decide)
        obtain ⟨q, R, m, eR, hR⟩ := ad hF hP (w32 (u - 4)) (w32 (v - 4))
        rw [hu, Option.bind_some, hv, Option.bind_some, eR, Option.bind_some]
        exact go R m hR
      rw [if_neg o1]
      by_cases o2 : s2 < 8
      · rw [if_pos o2]
        obtain ⟨u, hu⟩ := pos_ok F s3 (m := 511) (by decide)
        obtain ⟨v, hv⟩ := pos_ok F s4 (m := 511) (by decide)
        obtain ⟨q, R, m, eR, hR⟩ := ad hF hP (w32 (u - 255)) (w32 (v - 255))
        rw [hu, Option.bind_some, hv, Option.bind_some, eR, Option.bind_some]
        exact go R m hR
      rw [if_neg o2]
      by_cases o3 : s2 < 12
      · rw [if_pos o3]
        obtain ⟨q, R, eR, hR⟩ := sol hF hP
        rw [eR, Option.bind_some]
        exact go R n hR
      rw [if_neg o3]
      by_cases o4 : s2 < 14
      · rw [if_pos o4]
        obtain ⟨q, R, m, eR, hR⟩ := rm (F := F) hP
        rw [eR, Option.bind_some]
        exact go R m hR
      rw [if_neg o4]
      by_cases o5 : s2 = 14
      · rw [if_pos o5]
        obtain ⟨q, R, eR, hR⟩ := sol hF hP
        obtain ⟨q', R', eR', hR'⟩ := sol hF hR
        rw [eR, Option.bind_some]
        dsimp only
        rw [eR', Option.bind_some]
        exact go R' n hR'
      · rw [if_neg o5]
        obtain ⟨P', e, p1, p2⟩ := clr_ok (F := F) hP
        rw [e, Option.bind_some]
        exact go P' 0 p1
    · rw [if_neg c]
      exact ⟨_, rfl, _, n, rfl, hP⟩
  obtain ⟨r, e, R, n, rfl, hR⟩ := main
  obtain ⟨q, S, eS, hS⟩ := sol hF hR
  rw [e, Option.bind_some]
  dsimp only [Sum.elim]
  rw [eS, Option.bind_some]
  dsimp only
  rw [chk hF hS]
  rfl
theorem u_law_ok (xs : List Int) (hl : xs.length ≤ 260) (_ : ∀ x ∈ xs, R32 x) : u_law 1000 xs = some 1 := u_law_F (Nat.le_refl _) xs hl
end Jvm.Own

namespace Jvm.Pilot.@@N@@
open Jvm Jvm.ClassFile Sem Op Lib Jvm.Free Jvm.Stand Jvm.LawKit Jvm.RoadKit Bundle Jvm.Pilot.@@N@@.Jvm.D
open Jvm.Own
def D : Cls := ("MinCircle", [(0, "cap", "I", .int), (1, "rng", "I", .int), (2, "n", "I", .int), (3, "solved", "Z", .boolean), (4, "cxNum", "J", .long), (5, "cyNum", "J", .long), (6, "den", "J", .long), (7, "rNum", "J", .long), (8, "kindV", "I", .int), (9, "bCount", "I", .int), (10, "tnx", "J", .long), (11, "tny", "J", .long), (12, "td", "J", .long), (13, "trr", "J", .long)], [("xs", "[I", .int, 32), ("ys", "[I", .int, 32), ("order", "[I", .int, 32), ("onB", "[Z", .boolean, 32)])
theorem D_C : D.C = "MinCircle" := rfl
theorem xc : x.cls = "MinCircleOwnLaw" := rfl
theorem fs_cap : (0, "cap", "I", (.int : FieldType)) ∈ D.FS := List.mem_of_getElem? (i := 0) rfl
theorem fs_rng : (1, "rng", "I", (.int : FieldType)) ∈ D.FS := List.mem_of_getElem? (i := 1) rfl
theorem fs_n : (2, "n", "I", (.int : FieldType)) ∈ D.FS := List.mem_of_getElem? (i := 2) rfl
theorem fs_solved : (3, "solved", "Z", (.boolean : FieldType)) ∈ D.FS := List.mem_of_getElem? (i := 3) rfl
theorem fs_cxNum : (4, "cxNum", "J", (.long : FieldType)) ∈ D.FS := List.mem_of_getElem? (i := 4) rfl
theorem fs_cyNum : (5, "cyNum", "J", (.long : FieldType)) ∈ D.FS := List.mem_of_getElem? (i := 5) rfl
theorem fs_den : (6, "den", "J", (.long : FieldType)) ∈ D.FS := List.mem_of_getElem? (i := 6) rfl
theorem fs_rNum : (7, "rNum", "J", (.long : FieldType)) ∈ D.FS := List.mem_of_getElem? (i := 7) rfl
theorem fs_kindV : (8, "kindV", "I", (.int : FieldType)) ∈ D.FS := List.mem_of_getElem? (i := 8) rfl
theorem fs_bCount : (9, "bCount", "I", (.int : FieldType)) ∈ D.FS := List.mem_of_getElem? (i := 9) rfl
theorem fs_tnx : (10, "tnx", "J", (.long : FieldType)) ∈ D.FS := List.mem_of_getElem? (i := 10) rfl
theorem fs_tny : (11, "tny", "J", (.long : FieldType)) ∈ D.FS := List.mem_of_getElem? (i := 11) rfl
theorem fs_td : (12, "td", "J", (.long : FieldType)) ∈ D.FS := List.mem_of_getElem? (i := 12) rfl
theorem fs_trr : (13, "trr", "J", (.long : FieldType)) ∈ D.FS := List.mem_of_getElem? (i := 13) rfl
theorem w_0 {Z : State} {a0 : Array Value} (hw : ∀ d ∈ tables_1, d.before a0 Z = true) : (Jvm.Cond.classLink "MinCircleOwnLaw" 8 "MinCircle").before a0 Z = true := hw _ (List.mem_of_getElem? (i := 0) rfl)
theorem w_1 {Z : State} {a0 : Array Value} (hw : ∀ d ∈ tables_1, d.before a0 Z = true) : (Jvm.Cond.instantiable "MinCircle" 18).before a0 Z = true := hw _ (List.mem_of_getElem? (i := 1) rfl)
theorem w_2 {Z : State} {a0 : Array Value} (hw : ∀ d ∈ tables_1, d.before a0 Z = true) : (Jvm.Cond.initialized "MinCircle").before a0 Z = true := hw _ (List.mem_of_getElem? (i := 2) rfl)
theorem w_3 {Z : State} {a0 : Array Value} (hw : ∀ d ∈ tables_1, d.before a0 Z = true) : (Jvm.Cond.methodLink "MinCircleOwnLaw" 48 ({ cls := "MinCircleOwnLaw", name := "cell", desc := "([II)I" } : Jvm.MethodName)).before a0 Z = true := hw _ (List.mem_of_getElem? (i := 3) rfl)
theorem w_4 {Z : State} {a0 : Array Value} (hw : ∀ d ∈ tables_1, d.before a0 Z = true) : (Jvm.Cond.static ({ cls := "MinCircleOwnLaw", name := "cell", desc := "([II)I" } : Jvm.MethodName)).before a0 Z = true := hw _ (List.mem_of_getElem? (i := 4) rfl)
theorem w_5 {Z : State} {a0 : Array Value} (hw : ∀ d ∈ tables_1, d.before a0 Z = true) : (Jvm.Cond.initialized "MinCircleOwnLaw").before a0 Z = true := hw _ (List.mem_of_getElem? (i := 5) rfl)
theorem w_6 {Z : State} {a0 : Array Value} (hw : ∀ d ∈ tables_1, d.before a0 Z = true) : (Jvm.Cond.code ({ cls := "MinCircleOwnLaw", name := "cell", desc := "([II)I" } : Jvm.MethodName) method_2_code 2 (Option.some Jvm.ClassFile.FieldType.int)).before a0 Z = true := hw _ (List.mem_of_getElem? (i := 6) rfl)
theorem w_7 {Z : State} {a0 : Array Value} (hw : ∀ d ∈ tables_1, d.before a0 Z = true) : (Jvm.Cond.methodLink "MinCircleOwnLaw" 54 ({ cls := "MinCircleOwnLaw", name := "pos", desc := "(II)I" } : Jvm.MethodName)).before a0 Z = true := hw _ (List.mem_of_getElem? (i := 7) rfl)
theorem w_8 {Z : State} {a0 : Array Value} (hw : ∀ d ∈ tables_1, d.before a0 Z = true) : (Jvm.Cond.static ({ cls := "MinCircleOwnLaw", name := "pos", desc := "(II)I" } : Jvm.MethodName)).before a0 Z = true := hw _ (List.mem_of_getElem? (i := 8) rfl)
theorem w_9 {Z : State} {a0 : Array Value} (hw : ∀ d ∈ tables_1, d.before a0 Z = true) : (Jvm.Cond.code ({ cls := "MinCircleOwnLaw", name := "pos", desc := "(II)I" } : Jvm.MethodName) method_3_code 3 (Option.some Jvm.ClassFile.FieldType.int)).before a0 Z = true := hw _ (List.mem_of_getElem? (i := 9) rfl)
theorem w_10 {Z : State} {a0 : Array Value} (hw : ∀ d ∈ tables_1, d.before a0 Z = true) : (Jvm.Cond.methodLink "MinCircleOwnLaw" 57 ({ cls := "MinCircle", name := "<init>", desc := "(II)V" } : Jvm.MethodName)).before a0 Z = true := hw _ (List.mem_of_getElem? (i := 10) rfl)
theorem w_11 {Z : State} {a0 : Array Value} (hw : ∀ d ∈ tables_1, d.before a0 Z = true) : (Jvm.Cond.instanceMethod ({ cls := "MinCircle", name := "<init>", desc := "(II)V" } : Jvm.MethodName)).before a0 Z = true := hw _ (List.mem_of_getElem? (i := 11) rfl)
theorem w_12 {Z : State} {a0 : Array Value} (hw : ∀ d ∈ tables_1, d.before a0 Z = true) : (Jvm.Cond.code ({ cls := "MinCircle", name := "<init>", desc := "(II)V" } : Jvm.MethodName) prog_1_method_1_code 5 (Option.none : Option Jvm.ClassFile.FieldType)).before a0 Z = true := hw _ (List.mem_of_getElem? (i := 12) rfl)
theorem w_13 {Z : State} {a0 : Array Value} (hw : ∀ d ∈ tables_1, d.before a0 Z = true) : (Jvm.Cond.methodLink "MinCircle" 1 ({ cls := "java/lang/Object", name := "<init>", desc := "()V" } : Jvm.MethodName)).before a0 Z = true := hw _ (List.mem_of_getElem? (i := 13) rfl)
theorem w_14 {Z : State} {a0 : Array Value} (hw : ∀ d ∈ tables_1, d.before a0 Z = true) : (Jvm.Cond.instanceMethod ({ cls := "java/lang/Object", name := "<init>", desc := "()V" } : Jvm.MethodName)).before a0 Z = true := hw _ (List.mem_of_getElem? (i := 14) rfl)
theorem w_15 {Z : State} {a0 : Array Value} (hw : ∀ d ∈ tables_1, d.before a0 Z = true) : (Jvm.Cond.code ({ cls := "java/lang/Object", name := "<init>", desc := "()V" } : Jvm.MethodName) object_method_1_code 1 (Option.none : Option Jvm.ClassFile.FieldType)).before a0 Z = true := hw _ (List.mem_of_getElem? (i := 15) rfl)
theorem w_16 {Z : State} {a0 : Array Value} (hw : ∀ d ∈ tables_1, d.before a0 Z = true) : (Jvm.Cond.arrayClass Jvm.ClassFile.FieldType.int).before a0 Z = true := hw _ (List.mem_of_getElem? (i := 16) rfl)
theorem w_17 {Z : State} {a0 : Array Value} (hw : ∀ d ∈ tables_1, d.before a0 Z = true) : (Jvm.Cond.fieldLink "MinCircle" 7 "MinCircle" "xs" "[I").before a0 Z = true := hw _ (List.mem_of_getElem? (i := 17) rfl)
theorem w_18 {Z : State} {a0 : Array Value} (hw : ∀ d ∈ tables_1, d.before a0 Z = true) : (Jvm.Cond.lays "MinCircle" "MinCircle" "xs" "[I").before a0 Z = true := hw _ (List.mem_of_getElem? (i := 18) rfl)
theorem w_19 {Z : State} {a0 : Array Value} (hw : ∀ d ∈ tables_1, d.before a0 Z = true) : (Jvm.Cond.fieldLink "MinCircle" 13 "MinCircle" "ys" "[I").before a0 Z = true := hw _ (List.mem_of_getElem? (i := 19) rfl)
theorem w_20 {Z : State} {a0 : Array Value} (hw : ∀ d ∈ tables_1, d.before a0 Z = true) : (Jvm.Cond.lays "MinCircle" "MinCircle" "ys" "[I").before a0 Z = true := hw _ (List.mem_of_getElem? (i := 20) rfl)
theorem w_21 {Z : State} {a0 : Array Value} (hw : ∀ d ∈ tables_1, d.before a0 Z = true) : (Jvm.Cond.fieldLink "MinCircle" 16 "MinCircle" "order" "[I").before a0 Z = true := hw _ (List.mem_of_getElem? (i := 21) rfl)
theorem w_22 {Z : State} {a0 : Array Value} (hw : ∀ d ∈ tables_1, d.before a0 Z = true) : (Jvm.Cond.lays "MinCircle" "MinCircle" "order" "[I").before a0 Z = true := hw _ (List.mem_of_getElem? (i := 22) rfl)
theorem w_23 {Z : State} {a0 : Array Value} (hw : ∀ d ∈ tables_1, d.before a0 Z = true) : (Jvm.Cond.arrayClass Jvm.ClassFile.FieldType.boolean).before a0 Z = true := hw _ (List.mem_of_getElem? (i := 23) rfl)
theorem w_24 {Z : State} {a0 : Array Value} (hw : ∀ d ∈ tables_1, d.before a0 Z = true) : (Jvm.Cond.fieldLink "MinCircle" 19 "MinCircle" "onB" "[Z").before a0 Z = true := hw _ (List.mem_of_getElem? (i := 24) rfl)
theorem w_25 {Z : State} {a0 : Array Value} (hw : ∀ d ∈ tables_1, d.before a0 Z = true) : (Jvm.Cond.lays "MinCircle" "MinCircle" "onB" "[Z").before a0 Z = true := hw _ (List.mem_of_getElem? (i := 25) rfl)
theorem w_26 {Z : State} {a0 : Array Value} (hw : ∀ d ∈ tables_1, d.before a0 Z = true) : (Jvm.Cond.constant "MinCircle" 23 65535).before a0 Z = true := hw _ (List.mem_of_getElem? (i := 26) rfl)
theorem w_27 {Z : State} {a0 : Array Value} (hw : ∀ d ∈ tables_1, d.before a0 Z = true) : (Jvm.Cond.fieldLink "MinCircle" 24 "MinCircle" "cap" "I").before a0 Z = true := hw _ (List.mem_of_getElem? (i := 27) rfl)
theorem w_28 {Z : State} {a0 : Array Value} (hw : ∀ d ∈ tables_1, d.before a0 Z = true) : (Jvm.Cond.lays "MinCircle" "MinCircle" "cap" "I").before a0 Z = true := hw _ (List.mem_of_getElem? (i := 28) rfl)
theorem w_29 {Z : State} {a0 : Array Value} (hw : ∀ d ∈ tables_1, d.before a0 Z = true) : (Jvm.Cond.fieldLink "MinCircle" 28 "MinCircle" "rng" "I").before a0 Z = true := hw _ (List.mem_of_getElem? (i := 29) rfl)
theorem w_30 {Z : State} {a0 : Array Value} (hw : ∀ d ∈ tables_1, d.before a0 Z = true) : (Jvm.Cond.lays "MinCircle" "MinCircle" "rng" "I").before a0 Z = true := hw _ (List.mem_of_getElem? (i := 30) rfl)
theorem w_31 {Z : State} {a0 : Array Value} (hw : ∀ d ∈ tables_1, d.before a0 Z = true) : (Jvm.Cond.fieldLink "MinCircle" 31 "MinCircle" "n" "I").before a0 Z = true := hw _ (List.mem_of_getElem? (i := 31) rfl)
theorem w_32 {Z : State} {a0 : Array Value} (hw : ∀ d ∈ tables_1, d.before a0 Z = true) : (Jvm.Cond.lays "MinCircle" "MinCircle" "n" "I").before a0 Z = true := hw _ (List.mem_of_getElem? (i := 32) rfl)
theorem w_33 {Z : State} {a0 : Array Value} (hw : ∀ d ∈ tables_1, d.before a0 Z = true) : (Jvm.Cond.fieldLink "MinCircle" 34 "MinCircle" "solved" "Z").before a0 Z = true := hw _ (List.mem_of_getElem? (i := 33) rfl)
theorem w_34 {Z : State} {a0 : Array Value} (hw : ∀ d ∈ tables_1, d.before a0 Z = true) : (Jvm.Cond.lays "MinCircle" "MinCircle" "solved" "Z").before a0 Z = true := hw _ (List.mem_of_getElem? (i := 34) rfl)
theorem w_35 {Z : State} {a0 : Array Value} (hw : ∀ d ∈ tables_1, d.before a0 Z = true) : (Jvm.Cond.fieldLink "MinCircle" 38 "MinCircle" "td" "J").before a0 Z = true := hw _ (List.mem_of_getElem? (i := 35) rfl)
theorem w_36 {Z : State} {a0 : Array Value} (hw : ∀ d ∈ tables_1, d.before a0 Z = true) : (Jvm.Cond.lays "MinCircle" "MinCircle" "td" "J").before a0 Z = true := hw _ (List.mem_of_getElem? (i := 36) rfl)
theorem w_37 {Z : State} {a0 : Array Value} (hw : ∀ d ∈ tables_1, d.before a0 Z = true) : (Jvm.Cond.methodLink "MinCircleOwnLaw" 60 ({ cls := "MinCircle", name := "addPoint", desc := "(II)I" } : Jvm.MethodName)).before a0 Z = true := hw _ (List.mem_of_getElem? (i := 37) rfl)
theorem w_38 {Z : State} {a0 : Array Value} (hw : ∀ d ∈ tables_1, d.before a0 Z = true) : (Jvm.Cond.declares ({ cls := "MinCircle", name := "addPoint", desc := "(II)I" } : Jvm.MethodName)).before a0 Z = true := hw _ (List.mem_of_getElem? (i := 38) rfl)
theorem w_39 {Z : State} {a0 : Array Value} (hw : ∀ d ∈ tables_1, d.before a0 Z = true) : (Jvm.Cond.instanceMethod ({ cls := "MinCircle", name := "addPoint", desc := "(II)I" } : Jvm.MethodName)).before a0 Z = true := hw _ (List.mem_of_getElem? (i := 39) rfl)
theorem w_40 {Z : State} {a0 : Array Value} (hw : ∀ d ∈ tables_1, d.before a0 Z = true) : (Jvm.Cond.selects "MinCircle" ({ cls := "MinCircle", name := "addPoint", desc := "(II)I" } : Jvm.MethodName) ({ cls := "MinCircle", name := "addPoint", desc := "(II)I" } : Jvm.MethodName)).before a0 Z = true := hw _ (List.mem_of_getElem? (i := 40) rfl)
theorem w_41 {Z : State} {a0 : Array Value} (hw : ∀ d ∈ tables_1, d.before a0 Z = true) : (Jvm.Cond.code ({ cls := "MinCircle", name := "addPoint", desc := "(II)I" } : Jvm.MethodName) prog_1_method_2_code 4 (Option.some Jvm.ClassFile.FieldType.int)).before a0 Z = true := hw _ (List.mem_of_getElem? (i := 41) rfl)
theorem w_42 {Z : State} {a0 : Array Value} (hw : ∀ d ∈ tables_1, d.before a0 Z = true) : (Jvm.Cond.methodLink "MinCircle" 42 ({ cls := "MinCircle", name := "inRange", desc := "(II)Z" } : Jvm.MethodName)).before a0 Z = true := hw _ (List.mem_of_getElem? (i := 42) rfl)
theorem w_43 {Z : State} {a0 : Array Value} (hw : ∀ d ∈ tables_1, d.before a0 Z = true) : (Jvm.Cond.instanceMethod ({ cls := "MinCircle", name := "inRange", desc := "(II)Z" } : Jvm.MethodName)).before a0 Z = true := hw _ (List.mem_of_getElem? (i := 43) rfl)
theorem w_44 {Z : State} {a0 : Array Value} (hw : ∀ d ∈ tables_1, d.before a0 Z = true) : (Jvm.Cond.privateMethod ({ cls := "MinCircle", name := "inRange", desc := "(II)Z" } : Jvm.MethodName)).before a0 Z = true := hw _ (List.mem_of_getElem? (i := 44) rfl)
theorem w_45 {Z : State} {a0 : Array Value} (hw : ∀ d ∈ tables_1, d.before a0 Z = true) : (Jvm.Cond.code ({ cls := "MinCircle", name := "inRange", desc := "(II)Z" } : Jvm.MethodName) prog_1_method_18_code 3 (Option.some Jvm.ClassFile.FieldType.boolean)).before a0 Z = true := hw _ (List.mem_of_getElem? (i := 45) rfl)
theorem w_46 {Z : State} {a0 : Array Value} (hw : ∀ d ∈ tables_1, d.before a0 Z = true) : (Jvm.Cond.methodLink "MinCircleOwnLaw" 72 ({ cls := "MinCircleOwnLaw", name := "check", desc := "(LMinCircle;)Z" } : Jvm.MethodName)).before a0 Z = true := hw _ (List.mem_of_getElem? (i := 46) rfl)
theorem w_47 {Z : State} {a0 : Array Value} (hw : ∀ d ∈ tables_1, d.before a0 Z = true) : (Jvm.Cond.static ({ cls := "MinCircleOwnLaw", name := "check", desc := "(LMinCircle;)Z" } : Jvm.MethodName)).before a0 Z = true := hw _ (List.mem_of_getElem? (i := 47) rfl)
theorem w_48 {Z : State} {a0 : Array Value} (hw : ∀ d ∈ tables_1, d.before a0 Z = true) : (Jvm.Cond.code ({ cls := "MinCircleOwnLaw", name := "check", desc := "(LMinCircle;)Z" } : Jvm.MethodName) method_4_code 26 (Option.some Jvm.ClassFile.FieldType.boolean)).before a0 Z = true := hw _ (List.mem_of_getElem? (i := 48) rfl)
theorem w_49 {Z : State} {a0 : Array Value} (hw : ∀ d ∈ tables_1, d.before a0 Z = true) : (Jvm.Cond.methodLink "MinCircleOwnLaw" 7 ({ cls := "MinCircle", name := "isSolved", desc := "()Z" } : Jvm.MethodName)).before a0 Z = true := hw _ (List.mem_of_getElem? (i := 49) rfl)
theorem w_50 {Z : State} {a0 : Array Value} (hw : ∀ d ∈ tables_1, d.before a0 Z = true) : (Jvm.Cond.declares ({ cls := "MinCircle", name := "isSolved", desc := "()Z" } : Jvm.MethodName)).before a0 Z = true := hw _ (List.mem_of_getElem? (i := 50) rfl)
theorem w_51 {Z : State} {a0 : Array Value} (hw : ∀ d ∈ tables_1, d.before a0 Z = true) : (Jvm.Cond.instanceMethod ({ cls := "MinCircle", name := "isSolved", desc := "()Z" } : Jvm.MethodName)).before a0 Z = true := hw _ (List.mem_of_getElem? (i := 51) rfl)
theorem w_52 {Z : State} {a0 : Array Value} (hw : ∀ d ∈ tables_1, d.before a0 Z = true) : (Jvm.Cond.selects "MinCircle" ({ cls := "MinCircle", name := "isSolved", desc := "()Z" } : Jvm.MethodName) ({ cls := "MinCircle", name := "isSolved", desc := "()Z" } : Jvm.MethodName)).before a0 Z = true := hw _ (List.mem_of_getElem? (i := 52) rfl)
theorem w_53 {Z : State} {a0 : Array Value} (hw : ∀ d ∈ tables_1, d.before a0 Z = true) : (Jvm.Cond.code ({ cls := "MinCircle", name := "isSolved", desc := "()Z" } : Jvm.MethodName) prog_1_method_9_code 1 (Option.some Jvm.ClassFile.FieldType.boolean)).before a0 Z = true := hw _ (List.mem_of_getElem? (i := 53) rfl)
theorem w_54 {Z : State} {a0 : Array Value} (hw : ∀ d ∈ tables_1, d.before a0 Z = true) : (Jvm.Cond.methodLink "MinCircleOwnLaw" 63 ({ cls := "MinCircle", name := "solve", desc := "()I" } : Jvm.MethodName)).before a0 Z = true := hw _ (List.mem_of_getElem? (i := 54) rfl)
theorem w_55 {Z : State} {a0 : Array Value} (hw : ∀ d ∈ tables_1, d.before a0 Z = true) : (Jvm.Cond.declares ({ cls := "MinCircle", name := "solve", desc := "()I" } : Jvm.MethodName)).before a0 Z = true := hw _ (List.mem_of_getElem? (i := 55) rfl)
theorem w_56 {Z : State} {a0 : Array Value} (hw : ∀ d ∈ tables_1, d.before a0 Z = true) : (Jvm.Cond.instanceMethod ({ cls := "MinCircle", name := "solve", desc := "()I" } : Jvm.MethodName)).before a0 Z = true := hw _ (List.mem_of_getElem? (i := 56) rfl)
theorem w_57 {Z : State} {a0 : Array Value} (hw : ∀ d ∈ tables_1, d.before a0 Z = true) : (Jvm.Cond.selects "MinCircle" ({ cls := "MinCircle", name := "solve", desc := "()I" } : Jvm.MethodName) ({ cls := "MinCircle", name := "solve", desc := "()I" } : Jvm.MethodName)).before a0 Z = true := hw _ (List.mem_of_getElem? (i := 57) rfl)
theorem w_58 {Z : State} {a0 : Array Value} (hw : ∀ d ∈ tables_1, d.before a0 Z = true) : (Jvm.Cond.code ({ cls := "MinCircle", name := "solve", desc := "()I" } : Jvm.MethodName) prog_1_method_5_code 1 (Option.some Jvm.ClassFile.FieldType.int)).before a0 Z = true := hw _ (List.mem_of_getElem? (i := 58) rfl)
theorem w_59 {Z : State} {a0 : Array Value} (hw : ∀ d ∈ tables_1, d.before a0 Z = true) : (Jvm.Cond.methodLink "MinCircle" 49 ({ cls := "MinCircle", name := "shuffle", desc := "()V" } : Jvm.MethodName)).before a0 Z = true := hw _ (List.mem_of_getElem? (i := 59) rfl)
theorem w_60 {Z : State} {a0 : Array Value} (hw : ∀ d ∈ tables_1, d.before a0 Z = true) : (Jvm.Cond.instanceMethod ({ cls := "MinCircle", name := "shuffle", desc := "()V" } : Jvm.MethodName)).before a0 Z = true := hw _ (List.mem_of_getElem? (i := 60) rfl)
theorem w_61 {Z : State} {a0 : Array Value} (hw : ∀ d ∈ tables_1, d.before a0 Z = true) : (Jvm.Cond.privateMethod ({ cls := "MinCircle", name := "shuffle", desc := "()V" } : Jvm.MethodName)).before a0 Z = true := hw _ (List.mem_of_getElem? (i := 61) rfl)
theorem w_62 {Z : State} {a0 : Array Value} (hw : ∀ d ∈ tables_1, d.before a0 Z = true) : (Jvm.Cond.code ({ cls := "MinCircle", name := "shuffle", desc := "()V" } : Jvm.MethodName) prog_1_method_20_code 4 (Option.none : Option Jvm.ClassFile.FieldType)).before a0 Z = true := hw _ (List.mem_of_getElem? (i := 62) rfl)
theorem w_63 {Z : State} {a0 : Array Value} (hw : ∀ d ∈ tables_1, d.before a0 Z = true) : (Jvm.Cond.methodLink "MinCircle" 79 ({ cls := "MinCircle", name := "nextRand", desc := "(I)I" } : Jvm.MethodName)).before a0 Z = true := hw _ (List.mem_of_getElem? (i := 63) rfl)
theorem w_64 {Z : State} {a0 : Array Value} (hw : ∀ d ∈ tables_1, d.before a0 Z = true) : (Jvm.Cond.instanceMethod ({ cls := "MinCircle", name := "nextRand", desc := "(I)I" } : Jvm.MethodName)).before a0 Z = true := hw _ (List.mem_of_getElem? (i := 64) rfl)
theorem w_65 {Z : State} {a0 : Array Value} (hw : ∀ d ∈ tables_1, d.before a0 Z = true) : (Jvm.Cond.privateMethod ({ cls := "MinCircle", name := "nextRand", desc := "(I)I" } : Jvm.MethodName)).before a0 Z = true := hw _ (List.mem_of_getElem? (i := 65) rfl)
theorem w_66 {Z : State} {a0 : Array Value} (hw : ∀ d ∈ tables_1, d.before a0 Z = true) : (Jvm.Cond.code ({ cls := "MinCircle", name := "nextRand", desc := "(I)I" } : Jvm.MethodName) prog_1_method_19_code 3 (Option.some Jvm.ClassFile.FieldType.int)).before a0 Z = true := hw _ (List.mem_of_getElem? (i := 66) rfl)
theorem w_67 {Z : State} {a0 : Array Value} (hw : ∀ d ∈ tables_1, d.before a0 Z = true) : (Jvm.Cond.constant "MinCircle" 77 1103515245).before a0 Z = true := hw _ (List.mem_of_getElem? (i := 67) rfl)
theorem w_68 {Z : State} {a0 : Array Value} (hw : ∀ d ∈ tables_1, d.before a0 Z = true) : (Jvm.Cond.constant "MinCircle" 78 8388607).before a0 Z = true := hw _ (List.mem_of_getElem? (i := 68) rfl)
theorem w_69 {Z : State} {a0 : Array Value} (hw : ∀ d ∈ tables_1, d.before a0 Z = true) : (Jvm.Cond.methodLink "MinCircle" 52 ({ cls := "MinCircle", name := "runIncremental", desc := "()V" } : Jvm.MethodName)).before a0 Z = true := hw _ (List.mem_of_getElem? (i := 69) rfl)
theorem w_70 {Z : State} {a0 : Array Value} (hw : ∀ d ∈ tables_1, d.before a0 Z = true) : (Jvm.Cond.instanceMethod ({ cls := "MinCircle", name := "runIncremental", desc := "()V" } : Jvm.MethodName)).before a0 Z = true := hw _ (List.mem_of_getElem? (i := 70) rfl)
theorem w_71 {Z : State} {a0 : Array Value} (hw : ∀ d ∈ tables_1, d.before a0 Z = true) : (Jvm.Cond.privateMethod ({ cls := "MinCircle", name := "runIncremental", desc := "()V" } : Jvm.MethodName)).before a0 Z = true := hw _ (List.mem_of_getElem? (i := 71) rfl)
theorem w_72 {Z : State} {a0 : Array Value} (hw : ∀ d ∈ tables_1, d.before a0 Z = true) : (Jvm.Cond.code ({ cls := "MinCircle", name := "runIncremental", desc := "()V" } : Jvm.MethodName) prog_1_method_21_code 2 (Option.none : Option Jvm.ClassFile.FieldType)).before a0 Z = true := hw _ (List.mem_of_getElem? (i := 72) rfl)
theorem w_73 {Z : State} {a0 : Array Value} (hw : ∀ d ∈ tables_1, d.before a0 Z = true) : (Jvm.Cond.methodLink "MinCircle" 83 ({ cls := "MinCircle", name := "setPoint", desc := "(I)V" } : Jvm.MethodName)).before a0 Z = true := hw _ (List.mem_of_getElem? (i := 73) rfl)
theorem w_74 {Z : State} {a0 : Array Value} (hw : ∀ d ∈ tables_1, d.before a0 Z = true) : (Jvm.Cond.instanceMethod ({ cls := "MinCircle", name := "setPoint", desc := "(I)V" } : Jvm.MethodName)).before a0 Z = true := hw _ (List.mem_of_getElem? (i := 74) rfl)
theorem w_75 {Z : State} {a0 : Array Value} (hw : ∀ d ∈ tables_1, d.before a0 Z = true) : (Jvm.Cond.privateMethod ({ cls := "MinCircle", name := "setPoint", desc := "(I)V" } : Jvm.MethodName)).before a0 Z = true := hw _ (List.mem_of_getElem? (i := 75) rfl)
theorem w_76 {Z : State} {a0 : Array Value} (hw : ∀ d ∈ tables_1, d.before a0 Z = true) : (Jvm.Cond.code ({ cls := "MinCircle", name := "setPoint", desc := "(I)V" } : Jvm.MethodName) prog_1_method_25_code 2 (Option.none : Option Jvm.ClassFile.FieldType)).before a0 Z = true := hw _ (List.mem_of_getElem? (i := 76) rfl)
theorem w_77 {Z : State} {a0 : Array Value} (hw : ∀ d ∈ tables_1, d.before a0 Z = true) : (Jvm.Cond.fieldLink "MinCircle" 105 "MinCircle" "tnx" "J").before a0 Z = true := hw _ (List.mem_of_getElem? (i := 77) rfl)
theorem w_78 {Z : State} {a0 : Array Value} (hw : ∀ d ∈ tables_1, d.before a0 Z = true) : (Jvm.Cond.lays "MinCircle" "MinCircle" "tnx" "J").before a0 Z = true := hw _ (List.mem_of_getElem? (i := 78) rfl)
theorem w_79 {Z : State} {a0 : Array Value} (hw : ∀ d ∈ tables_1, d.before a0 Z = true) : (Jvm.Cond.fieldLink "MinCircle" 108 "MinCircle" "tny" "J").before a0 Z = true := hw _ (List.mem_of_getElem? (i := 79) rfl)
theorem w_80 {Z : State} {a0 : Array Value} (hw : ∀ d ∈ tables_1, d.before a0 Z = true) : (Jvm.Cond.lays "MinCircle" "MinCircle" "tny" "J").before a0 Z = true := hw _ (List.mem_of_getElem? (i := 80) rfl)
theorem w_81 {Z : State} {a0 : Array Value} (hw : ∀ d ∈ tables_1, d.before a0 Z = true) : (Jvm.Cond.fieldLink "MinCircle" 111 "MinCircle" "trr" "J").before a0 Z = true := hw _ (List.mem_of_getElem? (i := 81) rfl)
theorem w_82 {Z : State} {a0 : Array Value} (hw : ∀ d ∈ tables_1, d.before a0 Z = true) : (Jvm.Cond.lays "MinCircle" "MinCircle" "trr" "J").before a0 Z = true := hw _ (List.mem_of_getElem? (i := 82) rfl)
theorem w_83 {Z : State} {a0 : Array Value} (hw : ∀ d ∈ tables_1, d.before a0 Z = true) : (Jvm.Cond.methodLink "MinCircle" 87 ({ cls := "MinCircle", name := "outside", desc := "(I)Z" } : Jvm.MethodName)).before a0 Z = true := hw _ (List.mem_of_getElem? (i := 83) rfl)
theorem w_84 {Z : State} {a0 : Array Value} (hw : ∀ d ∈ tables_1, d.before a0 Z = true) : (Jvm.Cond.instanceMethod ({ cls := "MinCircle", name := "outside", desc := "(I)Z" } : Jvm.MethodName)).before a0 Z = true := hw _ (List.mem_of_getElem? (i := 84) rfl)
theorem w_85 {Z : State} {a0 : Array Value} (hw : ∀ d ∈ tables_1, d.before a0 Z = true) : (Jvm.Cond.privateMethod ({ cls := "MinCircle", name := "outside", desc := "(I)Z" } : Jvm.MethodName)).before a0 Z = true := hw _ (List.mem_of_getElem? (i := 85) rfl)
theorem w_86 {Z : State} {a0 : Array Value} (hw : ∀ d ∈ tables_1, d.before a0 Z = true) : (Jvm.Cond.code ({ cls := "MinCircle", name := "outside", desc := "(I)Z" } : Jvm.MethodName) prog_1_method_24_code 6 (Option.some Jvm.ClassFile.FieldType.boolean)).before a0 Z = true := hw _ (List.mem_of_getElem? (i := 86) rfl)
theorem w_87 {Z : State} {a0 : Array Value} (hw : ∀ d ∈ tables_1, d.before a0 Z = true) : (Jvm.Cond.methodLink "MinCircle" 91 ({ cls := "MinCircle", name := "extendOne", desc := "(I)V" } : Jvm.MethodName)).before a0 Z = true := hw _ (List.mem_of_getElem? (i := 87) rfl)
theorem w_88 {Z : State} {a0 : Array Value} (hw : ∀ d ∈ tables_1, d.before a0 Z = true) : (Jvm.Cond.instanceMethod ({ cls := "MinCircle", name := "extendOne", desc := "(I)V" } : Jvm.MethodName)).before a0 Z = true := hw _ (List.mem_of_getElem? (i := 88) rfl)
theorem w_89 {Z : State} {a0 : Array Value} (hw : ∀ d ∈ tables_1, d.before a0 Z = true) : (Jvm.Cond.privateMethod ({ cls := "MinCircle", name := "extendOne", desc := "(I)V" } : Jvm.MethodName)).before a0 Z = true := hw _ (List.mem_of_getElem? (i := 89) rfl)
theorem w_90 {Z : State} {a0 : Array Value} (hw : ∀ d ∈ tables_1, d.before a0 Z = true) : (Jvm.Cond.code ({ cls := "MinCircle", name := "extendOne", desc := "(I)V" } : Jvm.MethodName) prog_1_method_22_code 3 (Option.none : Option Jvm.ClassFile.FieldType)).before a0 Z = true := hw _ (List.mem_of_getElem? (i := 90) rfl)
theorem w_91 {Z : State} {a0 : Array Value} (hw : ∀ d ∈ tables_1, d.before a0 Z = true) : (Jvm.Cond.methodLink "MinCircle" 94 ({ cls := "MinCircle", name := "extendTwo", desc := "(II)V" } : Jvm.MethodName)).before a0 Z = true := hw _ (List.mem_of_getElem? (i := 91) rfl)
theorem w_92 {Z : State} {a0 : Array Value} (hw : ∀ d ∈ tables_1, d.before a0 Z = true) : (Jvm.Cond.instanceMethod ({ cls := "MinCircle", name := "extendTwo", desc := "(II)V" } : Jvm.MethodName)).before a0 Z = true := hw _ (List.mem_of_getElem? (i := 92) rfl)
theorem w_93 {Z : State} {a0 : Array Value} (hw : ∀ d ∈ tables_1, d.before a0 Z = true) : (Jvm.Cond.privateMethod ({ cls := "MinCircle", name := "extendTwo", desc := "(II)V" } : Jvm.MethodName)).before a0 Z = true := hw _ (List.mem_of_getElem? (i := 93) rfl)
theorem w_94 {Z : State} {a0 : Array Value} (hw : ∀ d ∈ tables_1, d.before a0 Z = true) : (Jvm.Cond.code ({ cls := "MinCircle", name := "extendTwo", desc := "(II)V" } : Jvm.MethodName) prog_1_method_23_code 7 (Option.none : Option Jvm.ClassFile.FieldType)).before a0 Z = true := hw _ (List.mem_of_getElem? (i := 94) rfl)
theorem w_95 {Z : State} {a0 : Array Value} (hw : ∀ d ∈ tables_1, d.before a0 Z = true) : (Jvm.Cond.methodLink "MinCircle" 98 ({ cls := "MinCircle", name := "setPair", desc := "(II)V" } : Jvm.MethodName)).before a0 Z = true := hw _ (List.mem_of_getElem? (i := 95) rfl)
theorem w_96 {Z : State} {a0 : Array Value} (hw : ∀ d ∈ tables_1, d.before a0 Z = true) : (Jvm.Cond.instanceMethod ({ cls := "MinCircle", name := "setPair", desc := "(II)V" } : Jvm.MethodName)).before a0 Z = true := hw _ (List.mem_of_getElem? (i := 96) rfl)
theorem w_97 {Z : State} {a0 : Array Value} (hw : ∀ d ∈ tables_1, d.before a0 Z = true) : (Jvm.Cond.privateMethod ({ cls := "MinCircle", name := "setPair", desc := "(II)V" } : Jvm.MethodName)).before a0 Z = true := hw _ (List.mem_of_getElem? (i := 97) rfl)
theorem w_98 {Z : State} {a0 : Array Value} (hw : ∀ d ∈ tables_1, d.before a0 Z = true) : (Jvm.Cond.code ({ cls := "MinCircle", name := "setPair", desc := "(II)V" } : Jvm.MethodName) prog_1_method_26_code 7 (Option.none : Option Jvm.ClassFile.FieldType)).before a0 Z = true := hw _ (List.mem_of_getElem? (i := 98) rfl)
theorem w_99 {Z : State} {a0 : Array Value} (hw : ∀ d ∈ tables_1, d.before a0 Z = true) : (Jvm.Cond.constantLong "MinCircle" 114 2).before a0 Z = true := hw _ (List.mem_of_getElem? (i := 99) rfl)
theorem w_100 {Z : State} {a0 : Array Value} (hw : ∀ d ∈ tables_1, d.before a0 Z = true) : (Jvm.Cond.methodLink "MinCircle" 101 ({ cls := "MinCircle", name := "setTriple", desc := "(III)V" } : Jvm.MethodName)).before a0 Z = true := hw _ (List.mem_of_getElem? (i := 100) rfl)
theorem w_101 {Z : State} {a0 : Array Value} (hw : ∀ d ∈ tables_1, d.before a0 Z = true) : (Jvm.Cond.instanceMethod ({ cls := "MinCircle", name := "setTriple", desc := "(III)V" } : Jvm.MethodName)).before a0 Z = true := hw _ (List.mem_of_getElem? (i := 101) rfl)
theorem w_102 {Z : State} {a0 : Array Value} (hw : ∀ d ∈ tables_1, d.before a0 Z = true) : (Jvm.Cond.privateMethod ({ cls := "MinCircle", name := "setTriple", desc := "(III)V" } : Jvm.MethodName)).before a0 Z = true := hw _ (List.mem_of_getElem? (i := 102) rfl)
theorem w_103 {Z : State} {a0 : Array Value} (hw : ∀ d ∈ tables_1, d.before a0 Z = true) : (Jvm.Cond.code ({ cls := "MinCircle", name := "setTriple", desc := "(III)V" } : Jvm.MethodName) prog_1_method_28_code 22 (Option.none : Option Jvm.ClassFile.FieldType)).before a0 Z = true := hw _ (List.mem_of_getElem? (i := 103) rfl)
theorem w_104 {Z : State} {a0 : Array Value} (hw : ∀ d ∈ tables_1, d.before a0 Z = true) : (Jvm.Cond.methodLink "MinCircle" 55 ({ cls := "MinCircle", name := "finishDisk", desc := "()V" } : Jvm.MethodName)).before a0 Z = true := hw _ (List.mem_of_getElem? (i := 104) rfl)
theorem w_105 {Z : State} {a0 : Array Value} (hw : ∀ d ∈ tables_1, d.before a0 Z = true) : (Jvm.Cond.instanceMethod ({ cls := "MinCircle", name := "finishDisk", desc := "()V" } : Jvm.MethodName)).before a0 Z = true := hw _ (List.mem_of_getElem? (i := 105) rfl)
theorem w_106 {Z : State} {a0 : Array Value} (hw : ∀ d ∈ tables_1, d.before a0 Z = true) : (Jvm.Cond.privateMethod ({ cls := "MinCircle", name := "finishDisk", desc := "()V" } : Jvm.MethodName)).before a0 Z = true := hw _ (List.mem_of_getElem? (i := 106) rfl)
theorem w_107 {Z : State} {a0 : Array Value} (hw : ∀ d ∈ tables_1, d.before a0 Z = true) : (Jvm.Cond.code ({ cls := "MinCircle", name := "finishDisk", desc := "()V" } : Jvm.MethodName) prog_1_method_32_code 5 (Option.none : Option Jvm.ClassFile.FieldType)).before a0 Z = true := hw _ (List.mem_of_getElem? (i := 107) rfl)
theorem w_108 {Z : State} {a0 : Array Value} (hw : ∀ d ∈ tables_1, d.before a0 Z = true) : (Jvm.Cond.methodLink "MinCircle" 126 ({ cls := "MinCircle", name := "gcd", desc := "(JJ)J" } : Jvm.MethodName)).before a0 Z = true := hw _ (List.mem_of_getElem? (i := 108) rfl)
theorem w_109 {Z : State} {a0 : Array Value} (hw : ∀ d ∈ tables_1, d.before a0 Z = true) : (Jvm.Cond.instanceMethod ({ cls := "MinCircle", name := "gcd", desc := "(JJ)J" } : Jvm.MethodName)).before a0 Z = true := hw _ (List.mem_of_getElem? (i := 109) rfl)
theorem w_110 {Z : State} {a0 : Array Value} (hw : ∀ d ∈ tables_1, d.before a0 Z = true) : (Jvm.Cond.privateMethod ({ cls := "MinCircle", name := "gcd", desc := "(JJ)J" } : Jvm.MethodName)).before a0 Z = true := hw _ (List.mem_of_getElem? (i := 110) rfl)
theorem w_111 {Z : State} {a0 : Array Value} (hw : ∀ d ∈ tables_1, d.before a0 Z = true) : (Jvm.Cond.code ({ cls := "MinCircle", name := "gcd", desc := "(JJ)J" } : Jvm.MethodName) prog_1_method_31_code 12 (Option.some Jvm.ClassFile.FieldType.long)).before a0 Z = true := hw _ (List.mem_of_getElem? (i := 111) rfl)
theorem w_112 {Z : State} {a0 : Array Value} (hw : ∀ d ∈ tables_1, d.before a0 Z = true) : (Jvm.Cond.methodLink "MinCircle" 122 ({ cls := "MinCircle", name := "absL", desc := "(J)J" } : Jvm.MethodName)).before a0 Z = true := hw _ (List.mem_of_getElem? (i := 112) rfl)
theorem w_113 {Z : State} {a0 : Array Value} (hw : ∀ d ∈ tables_1, d.before a0 Z = true) : (Jvm.Cond.instanceMethod ({ cls := "MinCircle", name := "absL", desc := "(J)J" } : Jvm.MethodName)).before a0 Z = true := hw _ (List.mem_of_getElem? (i := 113) rfl)
theorem w_114 {Z : State} {a0 : Array Value} (hw : ∀ d ∈ tables_1, d.before a0 Z = true) : (Jvm.Cond.privateMethod ({ cls := "MinCircle", name := "absL", desc := "(J)J" } : Jvm.MethodName)).before a0 Z = true := hw _ (List.mem_of_getElem? (i := 114) rfl)
theorem w_115 {Z : State} {a0 : Array Value} (hw : ∀ d ∈ tables_1, d.before a0 Z = true) : (Jvm.Cond.code ({ cls := "MinCircle", name := "absL", desc := "(J)J" } : Jvm.MethodName) prog_1_method_30_code 3 (Option.some Jvm.ClassFile.FieldType.long)).before a0 Z = true := hw _ (List.mem_of_getElem? (i := 115) rfl)
theorem w_116 {Z : State} {a0 : Array Value} (hw : ∀ d ∈ tables_1, d.before a0 Z = true) : (Jvm.Cond.fieldLink "MinCircle" 64 "MinCircle" "den" "J").before a0 Z = true := hw _ (List.mem_of_getElem? (i := 116) rfl)
theorem w_117 {Z : State} {a0 : Array Value} (hw : ∀ d ∈ tables_1, d.before a0 Z = true) : (Jvm.Cond.lays "MinCircle" "MinCircle" "den" "J").before a0 Z = true := hw _ (List.mem_of_getElem? (i := 117) rfl)
theorem w_118 {Z : State} {a0 : Array Value} (hw : ∀ d ∈ tables_1, d.before a0 Z = true) : (Jvm.Cond.fieldLink "MinCircle" 58 "MinCircle" "cxNum" "J").before a0 Z = true := hw _ (List.mem_of_getElem? (i := 118) rfl)
theorem w_119 {Z : State} {a0 : Array Value} (hw : ∀ d ∈ tables_1, d.before a0 Z = true) : (Jvm.Cond.lays "MinCircle" "MinCircle" "cxNum" "J").before a0 Z = true := hw _ (List.mem_of_getElem? (i := 119) rfl)
theorem w_120 {Z : State} {a0 : Array Value} (hw : ∀ d ∈ tables_1, d.before a0 Z = true) : (Jvm.Cond.fieldLink "MinCircle" 61 "MinCircle" "cyNum" "J").before a0 Z = true := hw _ (List.mem_of_getElem? (i := 120) rfl)
theorem w_121 {Z : State} {a0 : Array Value} (hw : ∀ d ∈ tables_1, d.before a0 Z = true) : (Jvm.Cond.lays "MinCircle" "MinCircle" "cyNum" "J").before a0 Z = true := hw _ (List.mem_of_getElem? (i := 121) rfl)
theorem w_122 {Z : State} {a0 : Array Value} (hw : ∀ d ∈ tables_1, d.before a0 Z = true) : (Jvm.Cond.methodLink "MinCircle" 130 ({ cls := "MinCircle", name := "recordRadius", desc := "()V" } : Jvm.MethodName)).before a0 Z = true := hw _ (List.mem_of_getElem? (i := 122) rfl)
theorem w_123 {Z : State} {a0 : Array Value} (hw : ∀ d ∈ tables_1, d.before a0 Z = true) : (Jvm.Cond.instanceMethod ({ cls := "MinCircle", name := "recordRadius", desc := "()V" } : Jvm.MethodName)).before a0 Z = true := hw _ (List.mem_of_getElem? (i := 123) rfl)
theorem w_124 {Z : State} {a0 : Array Value} (hw : ∀ d ∈ tables_1, d.before a0 Z = true) : (Jvm.Cond.privateMethod ({ cls := "MinCircle", name := "recordRadius", desc := "()V" } : Jvm.MethodName)).before a0 Z = true := hw _ (List.mem_of_getElem? (i := 124) rfl)
theorem w_125 {Z : State} {a0 : Array Value} (hw : ∀ d ∈ tables_1, d.before a0 Z = true) : (Jvm.Cond.code ({ cls := "MinCircle", name := "recordRadius", desc := "()V" } : Jvm.MethodName) prog_1_method_33_code 6 (Option.none : Option Jvm.ClassFile.FieldType)).before a0 Z = true := hw _ (List.mem_of_getElem? (i := 125) rfl)
theorem w_126 {Z : State} {a0 : Array Value} (hw : ∀ d ∈ tables_1, d.before a0 Z = true) : (Jvm.Cond.methodLink "MinCircle" 73 ({ cls := "MinCircle", name := "pwFinal", desc := "(II)J" } : Jvm.MethodName)).before a0 Z = true := hw _ (List.mem_of_getElem? (i := 126) rfl)
theorem w_127 {Z : State} {a0 : Array Value} (hw : ∀ d ∈ tables_1, d.before a0 Z = true) : (Jvm.Cond.instanceMethod ({ cls := "MinCircle", name := "pwFinal", desc := "(II)J" } : Jvm.MethodName)).before a0 Z = true := hw _ (List.mem_of_getElem? (i := 127) rfl)
theorem w_128 {Z : State} {a0 : Array Value} (hw : ∀ d ∈ tables_1, d.before a0 Z = true) : (Jvm.Cond.privateMethod ({ cls := "MinCircle", name := "pwFinal", desc := "(II)J" } : Jvm.MethodName)).before a0 Z = true := hw _ (List.mem_of_getElem? (i := 128) rfl)
theorem w_129 {Z : State} {a0 : Array Value} (hw : ∀ d ∈ tables_1, d.before a0 Z = true) : (Jvm.Cond.code ({ cls := "MinCircle", name := "pwFinal", desc := "(II)J" } : Jvm.MethodName) prog_1_method_34_code 7 (Option.some Jvm.ClassFile.FieldType.long)).before a0 Z = true := hw _ (List.mem_of_getElem? (i := 129) rfl)
theorem w_130 {Z : State} {a0 : Array Value} (hw : ∀ d ∈ tables_1, d.before a0 Z = true) : (Jvm.Cond.fieldLink "MinCircle" 67 "MinCircle" "rNum" "J").before a0 Z = true := hw _ (List.mem_of_getElem? (i := 130) rfl)
theorem w_131 {Z : State} {a0 : Array Value} (hw : ∀ d ∈ tables_1, d.before a0 Z = true) : (Jvm.Cond.lays "MinCircle" "MinCircle" "rNum" "J").before a0 Z = true := hw _ (List.mem_of_getElem? (i := 131) rfl)
theorem w_132 {Z : State} {a0 : Array Value} (hw : ∀ d ∈ tables_1, d.before a0 Z = true) : (Jvm.Cond.fieldLink "MinCircle" 46 "MinCircle" "bCount" "I").before a0 Z = true := hw _ (List.mem_of_getElem? (i := 132) rfl)
theorem w_133 {Z : State} {a0 : Array Value} (hw : ∀ d ∈ tables_1, d.before a0 Z = true) : (Jvm.Cond.lays "MinCircle" "MinCircle" "bCount" "I").before a0 Z = true := hw _ (List.mem_of_getElem? (i := 133) rfl)
theorem w_134 {Z : State} {a0 : Array Value} (hw : ∀ d ∈ tables_1, d.before a0 Z = true) : (Jvm.Cond.methodLink "MinCircle" 133 ({ cls := "MinCircle", name := "computeKind", desc := "()I" } : Jvm.MethodName)).before a0 Z = true := hw _ (List.mem_of_getElem? (i := 134) rfl)
theorem w_135 {Z : State} {a0 : Array Value} (hw : ∀ d ∈ tables_1, d.before a0 Z = true) : (Jvm.Cond.instanceMethod ({ cls := "MinCircle", name := "computeKind", desc := "()I" } : Jvm.MethodName)).before a0 Z = true := hw _ (List.mem_of_getElem? (i := 135) rfl)
theorem w_136 {Z : State} {a0 : Array Value} (hw : ∀ d ∈ tables_1, d.before a0 Z = true) : (Jvm.Cond.privateMethod ({ cls := "MinCircle", name := "computeKind", desc := "()I" } : Jvm.MethodName)).before a0 Z = true := hw _ (List.mem_of_getElem? (i := 136) rfl)
theorem w_137 {Z : State} {a0 : Array Value} (hw : ∀ d ∈ tables_1, d.before a0 Z = true) : (Jvm.Cond.code ({ cls := "MinCircle", name := "computeKind", desc := "()I" } : Jvm.MethodName) prog_1_method_35_code 11 (Option.some Jvm.ClassFile.FieldType.int)).before a0 Z = true := hw _ (List.mem_of_getElem? (i := 137) rfl)
theorem w_138 {Z : State} {a0 : Array Value} (hw : ∀ d ∈ tables_1, d.before a0 Z = true) : (Jvm.Cond.fieldLink "MinCircle" 70 "MinCircle" "kindV" "I").before a0 Z = true := hw _ (List.mem_of_getElem? (i := 138) rfl)
theorem w_139 {Z : State} {a0 : Array Value} (hw : ∀ d ∈ tables_1, d.before a0 Z = true) : (Jvm.Cond.lays "MinCircle" "MinCircle" "kindV" "I").before a0 Z = true := hw _ (List.mem_of_getElem? (i := 139) rfl)
theorem w_140 {Z : State} {a0 : Array Value} (hw : ∀ d ∈ tables_1, d.before a0 Z = true) : (Jvm.Cond.methodLink "MinCircleOwnLaw" 13 ({ cls := "MinCircle", name := "centreDen", desc := "()J" } : Jvm.MethodName)).before a0 Z = true := hw _ (List.mem_of_getElem? (i := 140) rfl)
theorem w_141 {Z : State} {a0 : Array Value} (hw : ∀ d ∈ tables_1, d.before a0 Z = true) : (Jvm.Cond.declares ({ cls := "MinCircle", name := "centreDen", desc := "()J" } : Jvm.MethodName)).before a0 Z = true := hw _ (List.mem_of_getElem? (i := 141) rfl)
theorem w_142 {Z : State} {a0 : Array Value} (hw : ∀ d ∈ tables_1, d.before a0 Z = true) : (Jvm.Cond.instanceMethod ({ cls := "MinCircle", name := "centreDen", desc := "()J" } : Jvm.MethodName)).before a0 Z = true := hw _ (List.mem_of_getElem? (i := 142) rfl)
theorem w_143 {Z : State} {a0 : Array Value} (hw : ∀ d ∈ tables_1, d.before a0 Z = true) : (Jvm.Cond.selects "MinCircle" ({ cls := "MinCircle", name := "centreDen", desc := "()J" } : Jvm.MethodName) ({ cls := "MinCircle", name := "centreDen", desc := "()J" } : Jvm.MethodName)).before a0 Z = true := hw _ (List.mem_of_getElem? (i := 143) rfl)
theorem w_144 {Z : State} {a0 : Array Value} (hw : ∀ d ∈ tables_1, d.before a0 Z = true) : (Jvm.Cond.code ({ cls := "MinCircle", name := "centreDen", desc := "()J" } : Jvm.MethodName) prog_1_method_12_code 1 (Option.some Jvm.ClassFile.FieldType.long)).before a0 Z = true := hw _ (List.mem_of_getElem? (i := 144) rfl)
theorem w_145 {Z : State} {a0 : Array Value} (hw : ∀ d ∈ tables_1, d.before a0 Z = true) : (Jvm.Cond.methodLink "MinCircleOwnLaw" 17 ({ cls := "MinCircle", name := "centreXNum", desc := "()J" } : Jvm.MethodName)).before a0 Z = true := hw _ (List.mem_of_getElem? (i := 145) rfl)
theorem w_146 {Z : State} {a0 : Array Value} (hw : ∀ d ∈ tables_1, d.before a0 Z = true) : (Jvm.Cond.declares ({ cls := "MinCircle", name := "centreXNum", desc := "()J" } : Jvm.MethodName)).before a0 Z = true := hw _ (List.mem_of_getElem? (i := 146) rfl)
theorem w_147 {Z : State} {a0 : Array Value} (hw : ∀ d ∈ tables_1, d.before a0 Z = true) : (Jvm.Cond.instanceMethod ({ cls := "MinCircle", name := "centreXNum", desc := "()J" } : Jvm.MethodName)).before a0 Z = true := hw _ (List.mem_of_getElem? (i := 147) rfl)
theorem w_148 {Z : State} {a0 : Array Value} (hw : ∀ d ∈ tables_1, d.before a0 Z = true) : (Jvm.Cond.selects "MinCircle" ({ cls := "MinCircle", name := "centreXNum", desc := "()J" } : Jvm.MethodName) ({ cls := "MinCircle", name := "centreXNum", desc := "()J" } : Jvm.MethodName)).before a0 Z = true := hw _ (List.mem_of_getElem? (i := 148) rfl)
theorem w_149 {Z : State} {a0 : Array Value} (hw : ∀ d ∈ tables_1, d.before a0 Z = true) : (Jvm.Cond.code ({ cls := "MinCircle", name := "centreXNum", desc := "()J" } : Jvm.MethodName) prog_1_method_10_code 1 (Option.some Jvm.ClassFile.FieldType.long)).before a0 Z = true := hw _ (List.mem_of_getElem? (i := 149) rfl)
theorem w_150 {Z : State} {a0 : Array Value} (hw : ∀ d ∈ tables_1, d.before a0 Z = true) : (Jvm.Cond.methodLink "MinCircleOwnLaw" 20 ({ cls := "MinCircle", name := "centreYNum", desc := "()J" } : Jvm.MethodName)).before a0 Z = true := hw _ (List.mem_of_getElem? (i := 150) rfl)
theorem w_151 {Z : State} {a0 : Array Value} (hw : ∀ d ∈ tables_1, d.before a0 Z = true) : (Jvm.Cond.declares ({ cls := "MinCircle", name := "centreYNum", desc := "()J" } : Jvm.MethodName)).before a0 Z = true := hw _ (List.mem_of_getElem? (i := 151) rfl)
theorem w_152 {Z : State} {a0 : Array Value} (hw : ∀ d ∈ tables_1, d.before a0 Z = true) : (Jvm.Cond.instanceMethod ({ cls := "MinCircle", name := "centreYNum", desc := "()J" } : Jvm.MethodName)).before a0 Z = true := hw _ (List.mem_of_getElem? (i := 152) rfl)
theorem w_153 {Z : State} {a0 : Array Value} (hw : ∀ d ∈ tables_1, d.before a0 Z = true) : (Jvm.Cond.selects "MinCircle" ({ cls := "MinCircle", name := "centreYNum", desc := "()J" } : Jvm.MethodName) ({ cls := "MinCircle", name := "centreYNum", desc := "()J" } : Jvm.MethodName)).before a0 Z = true := hw _ (List.mem_of_getElem? (i := 153) rfl)
theorem w_154 {Z : State} {a0 : Array Value} (hw : ∀ d ∈ tables_1, d.before a0 Z = true) : (Jvm.Cond.code ({ cls := "MinCircle", name := "centreYNum", desc := "()J" } : Jvm.MethodName) prog_1_method_11_code 1 (Option.some Jvm.ClassFile.FieldType.long)).before a0 Z = true := hw _ (List.mem_of_getElem? (i := 154) rfl)
theorem w_155 {Z : State} {a0 : Array Value} (hw : ∀ d ∈ tables_1, d.before a0 Z = true) : (Jvm.Cond.methodLink "MinCircleOwnLaw" 23 ({ cls := "MinCircle", name := "radiusSqNum", desc := "()J" } : Jvm.MethodName)).before a0 Z = true := hw _ (List.mem_of_getElem? (i := 155) rfl)
theorem w_156 {Z : State} {a0 : Array Value} (hw : ∀ d ∈ tables_1, d.before a0 Z = true) : (Jvm.Cond.declares ({ cls := "MinCircle", name := "radiusSqNum", desc := "()J" } : Jvm.MethodName)).before a0 Z = true := hw _ (List.mem_of_getElem? (i := 156) rfl)
theorem w_157 {Z : State} {a0 : Array Value} (hw : ∀ d ∈ tables_1, d.before a0 Z = true) : (Jvm.Cond.instanceMethod ({ cls := "MinCircle", name := "radiusSqNum", desc := "()J" } : Jvm.MethodName)).before a0 Z = true := hw _ (List.mem_of_getElem? (i := 157) rfl)
theorem w_158 {Z : State} {a0 : Array Value} (hw : ∀ d ∈ tables_1, d.before a0 Z = true) : (Jvm.Cond.selects "MinCircle" ({ cls := "MinCircle", name := "radiusSqNum", desc := "()J" } : Jvm.MethodName) ({ cls := "MinCircle", name := "radiusSqNum", desc := "()J" } : Jvm.MethodName)).before a0 Z = true := hw _ (List.mem_of_getElem? (i := 158) rfl)
theorem w_159 {Z : State} {a0 : Array Value} (hw : ∀ d ∈ tables_1, d.before a0 Z = true) : (Jvm.Cond.code ({ cls := "MinCircle", name := "radiusSqNum", desc := "()J" } : Jvm.MethodName) prog_1_method_13_code 1 (Option.some Jvm.ClassFile.FieldType.long)).before a0 Z = true := hw _ (List.mem_of_getElem? (i := 159) rfl)
theorem w_160 {Z : State} {a0 : Array Value} (hw : ∀ d ∈ tables_1, d.before a0 Z = true) : (Jvm.Cond.methodLink "MinCircleOwnLaw" 26 ({ cls := "MinCircle", name := "count", desc := "()I" } : Jvm.MethodName)).before a0 Z = true := hw _ (List.mem_of_getElem? (i := 160) rfl)
theorem w_161 {Z : State} {a0 : Array Value} (hw : ∀ d ∈ tables_1, d.before a0 Z = true) : (Jvm.Cond.declares ({ cls := "MinCircle", name := "count", desc := "()I" } : Jvm.MethodName)).before a0 Z = true := hw _ (List.mem_of_getElem? (i := 161) rfl)
theorem w_162 {Z : State} {a0 : Array Value} (hw : ∀ d ∈ tables_1, d.before a0 Z = true) : (Jvm.Cond.instanceMethod ({ cls := "MinCircle", name := "count", desc := "()I" } : Jvm.MethodName)).before a0 Z = true := hw _ (List.mem_of_getElem? (i := 162) rfl)
theorem w_163 {Z : State} {a0 : Array Value} (hw : ∀ d ∈ tables_1, d.before a0 Z = true) : (Jvm.Cond.selects "MinCircle" ({ cls := "MinCircle", name := "count", desc := "()I" } : Jvm.MethodName) ({ cls := "MinCircle", name := "count", desc := "()I" } : Jvm.MethodName)).before a0 Z = true := hw _ (List.mem_of_getElem? (i := 163) rfl)
theorem w_164 {Z : State} {a0 : Array Value} (hw : ∀ d ∈ tables_1, d.before a0 Z = true) : (Jvm.Cond.code ({ cls := "MinCircle", name := "count", desc := "()I" } : Jvm.MethodName) prog_1_method_6_code 1 (Option.some Jvm.ClassFile.FieldType.int)).before a0 Z = true := hw _ (List.mem_of_getElem? (i := 164) rfl)
theorem w_165 {Z : State} {a0 : Array Value} (hw : ∀ d ∈ tables_1, d.before a0 Z = true) : (Jvm.Cond.methodLink "MinCircleOwnLaw" 30 ({ cls := "MinCircle", name := "pointX", desc := "(I)I" } : Jvm.MethodName)).before a0 Z = true := hw _ (List.mem_of_getElem? (i := 165) rfl)
theorem w_166 {Z : State} {a0 : Array Value} (hw : ∀ d ∈ tables_1, d.before a0 Z = true) : (Jvm.Cond.declares ({ cls := "MinCircle", name := "pointX", desc := "(I)I" } : Jvm.MethodName)).before a0 Z = true := hw _ (List.mem_of_getElem? (i := 166) rfl)
theorem w_167 {Z : State} {a0 : Array Value} (hw : ∀ d ∈ tables_1, d.before a0 Z = true) : (Jvm.Cond.instanceMethod ({ cls := "MinCircle", name := "pointX", desc := "(I)I" } : Jvm.MethodName)).before a0 Z = true := hw _ (List.mem_of_getElem? (i := 167) rfl)
theorem w_168 {Z : State} {a0 : Array Value} (hw : ∀ d ∈ tables_1, d.before a0 Z = true) : (Jvm.Cond.selects "MinCircle" ({ cls := "MinCircle", name := "pointX", desc := "(I)I" } : Jvm.MethodName) ({ cls := "MinCircle", name := "pointX", desc := "(I)I" } : Jvm.MethodName)).before a0 Z = true := hw _ (List.mem_of_getElem? (i := 168) rfl)
theorem w_169 {Z : State} {a0 : Array Value} (hw : ∀ d ∈ tables_1, d.before a0 Z = true) : (Jvm.Cond.code ({ cls := "MinCircle", name := "pointX", desc := "(I)I" } : Jvm.MethodName) prog_1_method_7_code 2 (Option.some Jvm.ClassFile.FieldType.int)).before a0 Z = true := hw _ (List.mem_of_getElem? (i := 169) rfl)
theorem w_170 {Z : State} {a0 : Array Value} (hw : ∀ d ∈ tables_1, d.before a0 Z = true) : (Jvm.Cond.methodLink "MinCircleOwnLaw" 34 ({ cls := "MinCircle", name := "pointY", desc := "(I)I" } : Jvm.MethodName)).before a0 Z = true := hw _ (List.mem_of_getElem? (i := 170) rfl)
theorem w_171 {Z : State} {a0 : Array Value} (hw : ∀ d ∈ tables_1, d.before a0 Z = true) : (Jvm.Cond.declares ({ cls := "MinCircle", name := "pointY", desc := "(I)I" } : Jvm.MethodName)).before a0 Z = true := hw _ (List.mem_of_getElem? (i := 171) rfl)
theorem w_172 {Z : State} {a0 : Array Value} (hw : ∀ d ∈ tables_1, d.before a0 Z = true) : (Jvm.Cond.instanceMethod ({ cls := "MinCircle", name := "pointY", desc := "(I)I" } : Jvm.MethodName)).before a0 Z = true := hw _ (List.mem_of_getElem? (i := 172) rfl)
theorem w_173 {Z : State} {a0 : Array Value} (hw : ∀ d ∈ tables_1, d.before a0 Z = true) : (Jvm.Cond.selects "MinCircle" ({ cls := "MinCircle", name := "pointY", desc := "(I)I" } : Jvm.MethodName) ({ cls := "MinCircle", name := "pointY", desc := "(I)I" } : Jvm.MethodName)).before a0 Z = true := hw _ (List.mem_of_getElem? (i := 173) rfl)
theorem w_174 {Z : State} {a0 : Array Value} (hw : ∀ d ∈ tables_1, d.before a0 Z = true) : (Jvm.Cond.code ({ cls := "MinCircle", name := "pointY", desc := "(I)I" } : Jvm.MethodName) prog_1_method_8_code 2 (Option.some Jvm.ClassFile.FieldType.int)).before a0 Z = true := hw _ (List.mem_of_getElem? (i := 174) rfl)
theorem w_175 {Z : State} {a0 : Array Value} (hw : ∀ d ∈ tables_1, d.before a0 Z = true) : (Jvm.Cond.methodLink "MinCircleOwnLaw" 37 ({ cls := "MinCircle", name := "locate", desc := "(II)I" } : Jvm.MethodName)).before a0 Z = true := hw _ (List.mem_of_getElem? (i := 175) rfl)
theorem w_176 {Z : State} {a0 : Array Value} (hw : ∀ d ∈ tables_1, d.before a0 Z = true) : (Jvm.Cond.declares ({ cls := "MinCircle", name := "locate", desc := "(II)I" } : Jvm.MethodName)).before a0 Z = true := hw _ (List.mem_of_getElem? (i := 176) rfl)
theorem w_177 {Z : State} {a0 : Array Value} (hw : ∀ d ∈ tables_1, d.before a0 Z = true) : (Jvm.Cond.instanceMethod ({ cls := "MinCircle", name := "locate", desc := "(II)I" } : Jvm.MethodName)).before a0 Z = true := hw _ (List.mem_of_getElem? (i := 177) rfl)
theorem w_178 {Z : State} {a0 : Array Value} (hw : ∀ d ∈ tables_1, d.before a0 Z = true) : (Jvm.Cond.selects "MinCircle" ({ cls := "MinCircle", name := "locate", desc := "(II)I" } : Jvm.MethodName) ({ cls := "MinCircle", name := "locate", desc := "(II)I" } : Jvm.MethodName)).before a0 Z = true := hw _ (List.mem_of_getElem? (i := 178) rfl)
theorem w_179 {Z : State} {a0 : Array Value} (hw : ∀ d ∈ tables_1, d.before a0 Z = true) : (Jvm.Cond.code ({ cls := "MinCircle", name := "locate", desc := "(II)I" } : Jvm.MethodName) prog_1_method_17_code 5 (Option.some Jvm.ClassFile.FieldType.int)).before a0 Z = true := hw _ (List.mem_of_getElem? (i := 179) rfl)
theorem w_180 {Z : State} {a0 : Array Value} (hw : ∀ d ∈ tables_1, d.before a0 Z = true) : (Jvm.Cond.methodLink "MinCircleOwnLaw" 41 ({ cls := "MinCircle", name := "onBoundary", desc := "(I)Z" } : Jvm.MethodName)).before a0 Z = true := hw _ (List.mem_of_getElem? (i := 180) rfl)
theorem w_181 {Z : State} {a0 : Array Value} (hw : ∀ d ∈ tables_1, d.before a0 Z = true) : (Jvm.Cond.declares ({ cls := "MinCircle", name := "onBoundary", desc := "(I)Z" } : Jvm.MethodName)).before a0 Z = true := hw _ (List.mem_of_getElem? (i := 181) rfl)
theorem w_182 {Z : State} {a0 : Array Value} (hw : ∀ d ∈ tables_1, d.before a0 Z = true) : (Jvm.Cond.instanceMethod ({ cls := "MinCircle", name := "onBoundary", desc := "(I)Z" } : Jvm.MethodName)).before a0 Z = true := hw _ (List.mem_of_getElem? (i := 182) rfl)
theorem w_183 {Z : State} {a0 : Array Value} (hw : ∀ d ∈ tables_1, d.before a0 Z = true) : (Jvm.Cond.selects "MinCircle" ({ cls := "MinCircle", name := "onBoundary", desc := "(I)Z" } : Jvm.MethodName) ({ cls := "MinCircle", name := "onBoundary", desc := "(I)Z" } : Jvm.MethodName)).before a0 Z = true := hw _ (List.mem_of_getElem? (i := 183) rfl)
theorem w_184 {Z : State} {a0 : Array Value} (hw : ∀ d ∈ tables_1, d.before a0 Z = true) : (Jvm.Cond.code ({ cls := "MinCircle", name := "onBoundary", desc := "(I)Z" } : Jvm.MethodName) prog_1_method_16_code 2 (Option.some Jvm.ClassFile.FieldType.boolean)).before a0 Z = true := hw _ (List.mem_of_getElem? (i := 184) rfl)
theorem w_185 {Z : State} {a0 : Array Value} (hw : ∀ d ∈ tables_1, d.before a0 Z = true) : (Jvm.Cond.methodLink "MinCircleOwnLaw" 45 ({ cls := "MinCircle", name := "boundaryCount", desc := "()I" } : Jvm.MethodName)).before a0 Z = true := hw _ (List.mem_of_getElem? (i := 185) rfl)
theorem w_186 {Z : State} {a0 : Array Value} (hw : ∀ d ∈ tables_1, d.before a0 Z = true) : (Jvm.Cond.declares ({ cls := "MinCircle", name := "boundaryCount", desc := "()I" } : Jvm.MethodName)).before a0 Z = true := hw _ (List.mem_of_getElem? (i := 186) rfl)
theorem w_187 {Z : State} {a0 : Array Value} (hw : ∀ d ∈ tables_1, d.before a0 Z = true) : (Jvm.Cond.instanceMethod ({ cls := "MinCircle", name := "boundaryCount", desc := "()I" } : Jvm.MethodName)).before a0 Z = true := hw _ (List.mem_of_getElem? (i := 187) rfl)
theorem w_188 {Z : State} {a0 : Array Value} (hw : ∀ d ∈ tables_1, d.before a0 Z = true) : (Jvm.Cond.selects "MinCircle" ({ cls := "MinCircle", name := "boundaryCount", desc := "()I" } : Jvm.MethodName) ({ cls := "MinCircle", name := "boundaryCount", desc := "()I" } : Jvm.MethodName)).before a0 Z = true := hw _ (List.mem_of_getElem? (i := 188) rfl)
theorem w_189 {Z : State} {a0 : Array Value} (hw : ∀ d ∈ tables_1, d.before a0 Z = true) : (Jvm.Cond.code ({ cls := "MinCircle", name := "boundaryCount", desc := "()I" } : Jvm.MethodName) prog_1_method_15_code 1 (Option.some Jvm.ClassFile.FieldType.int)).before a0 Z = true := hw _ (List.mem_of_getElem? (i := 189) rfl)
theorem w_190 {Z : State} {a0 : Array Value} (hw : ∀ d ∈ tables_1, d.before a0 Z = true) : (Jvm.Cond.methodLink "MinCircleOwnLaw" 66 ({ cls := "MinCircle", name := "removeLast", desc := "()Z" } : Jvm.MethodName)).before a0 Z = true := hw _ (List.mem_of_getElem? (i := 190) rfl)
theorem w_191 {Z : State} {a0 : Array Value} (hw : ∀ d ∈ tables_1, d.before a0 Z = true) : (Jvm.Cond.declares ({ cls := "MinCircle", name := "removeLast", desc := "()Z" } : Jvm.MethodName)).before a0 Z = true := hw _ (List.mem_of_getElem? (i := 191) rfl)
theorem w_192 {Z : State} {a0 : Array Value} (hw : ∀ d ∈ tables_1, d.before a0 Z = true) : (Jvm.Cond.instanceMethod ({ cls := "MinCircle", name := "removeLast", desc := "()Z" } : Jvm.MethodName)).before a0 Z = true := hw _ (List.mem_of_getElem? (i := 192) rfl)
theorem w_193 {Z : State} {a0 : Array Value} (hw : ∀ d ∈ tables_1, d.before a0 Z = true) : (Jvm.Cond.selects "MinCircle" ({ cls := "MinCircle", name := "removeLast", desc := "()Z" } : Jvm.MethodName) ({ cls := "MinCircle", name := "removeLast", desc := "()Z" } : Jvm.MethodName)).before a0 Z = true := hw _ (List.mem_of_getElem? (i := 193) rfl)
theorem w_194 {Z : State} {a0 : Array Value} (hw : ∀ d ∈ tables_1, d.before a0 Z = true) : (Jvm.Cond.code ({ cls := "MinCircle", name := "removeLast", desc := "()Z" } : Jvm.MethodName) prog_1_method_3_code 1 (Option.some Jvm.ClassFile.FieldType.boolean)).before a0 Z = true := hw _ (List.mem_of_getElem? (i := 194) rfl)
theorem w_195 {Z : State} {a0 : Array Value} (hw : ∀ d ∈ tables_1, d.before a0 Z = true) : (Jvm.Cond.methodLink "MinCircleOwnLaw" 69 ({ cls := "MinCircle", name := "clear", desc := "()V" } : Jvm.MethodName)).before a0 Z = true := hw _ (List.mem_of_getElem? (i := 195) rfl)
theorem w_196 {Z : State} {a0 : Array Value} (hw : ∀ d ∈ tables_1, d.before a0 Z = true) : (Jvm.Cond.declares ({ cls := "MinCircle", name := "clear", desc := "()V" } : Jvm.MethodName)).before a0 Z = true := hw _ (List.mem_of_getElem? (i := 196) rfl)
theorem w_197 {Z : State} {a0 : Array Value} (hw : ∀ d ∈ tables_1, d.before a0 Z = true) : (Jvm.Cond.instanceMethod ({ cls := "MinCircle", name := "clear", desc := "()V" } : Jvm.MethodName)).before a0 Z = true := hw _ (List.mem_of_getElem? (i := 197) rfl)
theorem w_198 {Z : State} {a0 : Array Value} (hw : ∀ d ∈ tables_1, d.before a0 Z = true) : (Jvm.Cond.selects "MinCircle" ({ cls := "MinCircle", name := "clear", desc := "()V" } : Jvm.MethodName) ({ cls := "MinCircle", name := "clear", desc := "()V" } : Jvm.MethodName)).before a0 Z = true := hw _ (List.mem_of_getElem? (i := 198) rfl)
theorem w_199 {Z : State} {a0 : Array Value} (hw : ∀ d ∈ tables_1, d.before a0 Z = true) : (Jvm.Cond.code ({ cls := "MinCircle", name := "clear", desc := "()V" } : Jvm.MethodName) prog_1_method_4_code 1 (Option.none : Option Jvm.ClassFile.FieldType)).before a0 Z = true := hw _ (List.mem_of_getElem? (i := 199) rfl)
theorem cw_ok {Z : State} {a0 : Array Value} (hw : ∀ d ∈ tables_1, d.before a0 Z = true) : CW Z a0 D := CW.of
  (fcons ⟨Or.inl (w_28 hw), (by decide +kernel), (by simp [pt])⟩ (fcons ⟨Or.inl (w_30 hw), (by decide +kernel), (by simp [pt])⟩ (fcons ⟨Or.inl (w_32 hw), (by decide +kernel), (by simp [pt])⟩ (fcons ⟨Or.inl (w_34 hw), (by decide +kernel), (by simp [pt])⟩ (fcons ⟨Or.inl (w_119 hw), (by decide +kernel), (by simp [pt])⟩ (fcons ⟨Or.inl (w_121 hw), (by decide +kernel), (by simp [pt])⟩ (fcons ⟨Or.inl (w_117 hw), (by decide +kernel), (by simp [pt])⟩ (fcons ⟨Or.inl (w_131 hw), (by decide +kernel), (by simp [pt])⟩ (fcons ⟨Or.inl (w_139 hw), (by decide +kernel), (by simp [pt])⟩ (fcons ⟨Or.inl (w_133 hw), (by decide +kernel), (by simp [pt])⟩ (fcons ⟨Or.inl (w_78 hw), (by decide +kernel), (by simp [pt])⟩ (fcons ⟨Or.inl (w_80 hw), (by decide +kernel), (by simp [pt])⟩ (fcons ⟨Or.inl (w_36 hw), (by decide +kernel), (by simp [pt])⟩ (fcons ⟨Or.inl (w_82 hw), (by decide +kernel), (by simp [pt])⟩ fnil))))))))))))))
  (fcons ⟨Or.inl (w_18 hw), (by decide +kernel), (by simp [pt]), (by decide)⟩ (fcons ⟨Or.inl (w_20 hw), (by decide +kernel), (by simp [pt]), (by decide)⟩ (fcons ⟨Or.inl (w_22 hw), (by decide +kernel), (by simp [pt]), (by decide)⟩ (fcons ⟨Or.inl (w_25 hw), (by decide +kernel), (by simp [pt]), (by decide)⟩ fnil))))
  (by decide +kernel) (by decide +kernel) (by decide +kernel)
theorem pn_cls : plainName "MinCircle" = true := by first | (simp [plainName, overriddenIn]; done) | decide +kernel
theorem pn_law : plainName "MinCircleOwnLaw" = true := by first | (simp [plainName, overriddenIn]; done) | decide +kernel
def QL (r : Int) (w : Option V) (_ : Heap) : Prop := w = some (vI r)
theorem d_u_cell_0 : decode method_2_code 0 = .ok (.iload_n 1, 1) := by decide +kernel
theorem d_u_cell_1 : decode method_2_code 1 = .ok (.aload_n 0, 1) := by decide +kernel
theorem d_u_cell_2 : decode method_2_code 2 = .ok (.arraylength, 1) := by decide +kernel
theorem d_u_cell_3 : decode method_2_code 3 = .ok (.if_icmp .ge 9, 3) := by decide +kernel
theorem d_u_cell_6 : decode method_2_code 6 = .ok (.aload_n 0, 1) := by decide +kernel
theorem d_u_cell_7 : decode method_2_code 7 = .ok (.iload_n 1, 1) := by decide +kernel
theorem d_u_cell_8 : decode method_2_code 8 = .ok (.iaload, 1) := by decide +kernel
theorem d_u_cell_9 : decode method_2_code 9 = .ok (.goto 4, 3) := by decide +kernel
theorem d_u_cell_13 : decode method_2_code 13 = .ok (.ireturn, 1) := by decide +kernel
theorem d_u_cell_12 : decode method_2_code 12 = .ok (.iconst 0, 1) := by decide +kernel
def R_u_cell : Room := { frames := 0, cells := 0, slots := 0, locals := 0 }
abbrev G_u_cell (l : Launch) (Z : State) (n0 : Nat) (P : Heap → Prop) := Go l Z D n0 P (⟨"MinCircleOwnLaw", "cell", "([II)I"⟩ : MethodName) method_2_code 2 (some .int) R_u_cell
theorem pd_u_cell : parseMethodDescriptor "([II)I" = some ⟨[.array .int, .int], some .int⟩ := by decide +kernel
theorem d_u_pos_0 : decode method_3_code 0 = .ok (.iload_n 0, 1) := by decide +kernel
theorem d_u_pos_1 : decode method_3_code 1 = .ok (.iload_n 1, 1) := by decide +kernel
theorem d_u_pos_2 : decode method_3_code 2 = .ok (.irem, 1) := by decide +kernel
theorem d_u_pos_3 : decode method_3_code 3 = .ok (.istore_n 2, 1) := by decide +kernel
theorem d_u_pos_4 : decode method_3_code 4 = .ok (.iload_n 2, 1) := by decide +kernel
theorem d_u_pos_5 : decode method_3_code 5 = .ok (.ifCond .ge 9, 3) := by decide +kernel
theorem d_u_pos_8 : decode method_3_code 8 = .ok (.iload_n 2, 1) := by decide +kernel
theorem d_u_pos_9 : decode method_3_code 9 = .ok (.iload_n 1, 1) := by decide +kernel
theorem d_u_pos_10 : decode method_3_code 10 = .ok (.iadd, 1) := by decide +kernel
theorem d_u_pos_11 : decode method_3_code 11 = .ok (.goto 4, 3) := by decide +kernel
theorem d_u_pos_15 : decode method_3_code 15 = .ok (.ireturn, 1) := by decide +kernel
theorem d_u_pos_14 : decode method_3_code 14 = .ok (.iload_n 2, 1) := by decide +kernel
def R_u_pos : Room := { frames := 0, cells := 0, slots := 0, locals := 0 }
abbrev G_u_pos (l : Launch) (Z : State) (n0 : Nat) (P : Heap → Prop) := Go l Z D n0 P (⟨"MinCircleOwnLaw", "pos", "(II)I"⟩ : MethodName) method_3_code 3 (some .int) R_u_pos
theorem pd_u_pos : parseMethodDescriptor "(II)I" = some ⟨[.int, .int], some .int⟩ := by decide +kernel
theorem d_k_ctor_0 : decode prog_1_method_1_code 0 = .ok (.aload_n 0, 1) := by decide +kernel
theorem d_k_ctor_1 : decode prog_1_method_1_code 1 = .ok (.invokespecial 1, 3) := by decide +kernel
theorem d_k_ctor_4 : decode prog_1_method_1_code 4 = .ok (.aload_n 0, 1) := by decide +kernel
theorem d_k_ctor_5 : decode prog_1_method_1_code 5 = .ok (.bipush 32, 2) := by decide +kernel
theorem d_k_ctor_7 : decode prog_1_method_1_code 7 = .ok (.newarray .int, 2) := by decide +kernel
theorem d_k_ctor_9 : decode prog_1_method_1_code 9 = .ok (.putfield 7, 3) := by decide +kernel
theorem d_k_ctor_12 : decode prog_1_method_1_code 12 = .ok (.aload_n 0, 1) := by decide +kernel
theorem d_k_ctor_13 : decode prog_1_method_1_code 13 = .ok (.bipush 32, 2) := by decide +kernel
theorem d_k_ctor_15 : decode prog_1_method_1_code 15 = .ok (.newarray .int, 2) := by decide +kernel
theorem d_k_ctor_17 : decode prog_1_method_1_code 17 = .ok (.putfield 13, 3) := by decide +kernel
theorem d_k_ctor_20 : decode prog_1_method_1_code 20 = .ok (.aload_n 0, 1) := by decide +kernel
theorem d_k_ctor_21 : decode prog_1_method_1_code 21 = .ok (.bipush 32, 2) := by decide +kernel
theorem d_k_ctor_23 : decode prog_1_method_1_code 23 = .ok (.newarray .int, 2) := by decide +kernel
theorem d_k_ctor_25 : decode prog_1_method_1_code 25 = .ok (.putfield 16, 3) := by decide +kernel
theorem d_k_ctor_28 : decode prog_1_method_1_code 28 = .ok (.aload_n 0, 1) := by decide +kernel
theorem d_k_ctor_29 : decode prog_1_method_1_code 29 = .ok (.bipush 32, 2) := by decide +kernel
theorem d_k_ctor_31 : decode prog_1_method_1_code 31 = .ok (.newarray .boolean, 2) := by decide +kernel
theorem d_k_ctor_33 : decode prog_1_method_1_code 33 = .ok (.putfield 19, 3) := by decide +kernel
theorem d_k_ctor_36 : decode prog_1_method_1_code 36 = .ok (.iload_n 1, 1) := by decide +kernel
theorem d_k_ctor_37 : decode prog_1_method_1_code 37 = .ok (.istore_n 3, 1) := by decide +kernel
theorem d_k_ctor_38 : decode prog_1_method_1_code 38 = .ok (.iload_n 3, 1) := by decide +kernel
theorem d_k_ctor_39 : decode prog_1_method_1_code 39 = .ok (.bipush 8, 2) := by decide +kernel
theorem d_k_ctor_41 : decode prog_1_method_1_code 41 = .ok (.if_icmp .ge 6, 3) := by decide +kernel
theorem d_k_ctor_44 : decode prog_1_method_1_code 44 = .ok (.bipush 8, 2) := by decide +kernel
theorem d_k_ctor_46 : decode prog_1_method_1_code 46 = .ok (.istore_n 3, 1) := by decide +kernel
theorem d_k_ctor_47 : decode prog_1_method_1_code 47 = .ok (.iload_n 3, 1) := by decide +kernel
theorem d_k_ctor_48 : decode prog_1_method_1_code 48 = .ok (.bipush 32, 2) := by decide +kernel
theorem d_k_ctor_50 : decode prog_1_method_1_code 50 = .ok (.if_icmp .le 6, 3) := by decide +kernel
theorem d_k_ctor_56 : decode prog_1_method_1_code 56 = .ok (.iload_n 2, 1) := by decide +kernel
theorem d_k_ctor_57 : decode prog_1_method_1_code 57 = .ok (.istore 4, 2) := by decide +kernel
theorem d_k_ctor_59 : decode prog_1_method_1_code 59 = .ok (.iload 4, 2) := by decide +kernel
theorem d_k_ctor_61 : decode prog_1_method_1_code 61 = .ok (.iconst 1, 1) := by decide +kernel
theorem d_k_ctor_62 : decode prog_1_method_1_code 62 = .ok (.if_icmp .ge 6, 3) := by decide +kernel
theorem d_k_ctor_65 : decode prog_1_method_1_code 65 = .ok (.iconst 1, 1) := by decide +kernel
theorem d_k_ctor_66 : decode prog_1_method_1_code 66 = .ok (.istore 4, 2) := by decide +kernel
theorem d_k_ctor_68 : decode prog_1_method_1_code 68 = .ok (.iload 4, 2) := by decide +kernel
theorem d_k_ctor_70 : decode prog_1_method_1_code 70 = .ok (.ldc 23, 2) := by decide +kernel
theorem d_k_ctor_72 : decode prog_1_method_1_code 72 = .ok (.if_icmp .le 7, 3) := by decide +kernel
theorem d_k_ctor_79 : decode prog_1_method_1_code 79 = .ok (.aload_n 0, 1) := by decide +kernel
theorem d_k_ctor_80 : decode prog_1_method_1_code 80 = .ok (.iload_n 3, 1) := by decide +kernel
theorem d_k_ctor_81 : decode prog_1_method_1_code 81 = .ok (.putfield 24, 3) := by decide +kernel
theorem d_k_ctor_84 : decode prog_1_method_1_code 84 = .ok (.aload_n 0, 1) := by decide +kernel
theorem d_k_ctor_85 : decode prog_1_method_1_code 85 = .ok (.iload 4, 2) := by decide +kernel
theorem d_k_ctor_87 : decode prog_1_method_1_code 87 = .ok (.putfield 28, 3) := by decide +kernel
theorem d_k_ctor_90 : decode prog_1_method_1_code 90 = .ok (.aload_n 0, 1) := by decide +kernel
theorem d_k_ctor_91 : decode prog_1_method_1_code 91 = .ok (.iconst 0, 1) := by decide +kernel
theorem d_k_ctor_92 : decode prog_1_method_1_code 92 = .ok (.putfield 31, 3) := by decide +kernel
theorem d_k_ctor_95 : decode prog_1_method_1_code 95 = .ok (.aload_n 0, 1) := by decide +kernel
theorem d_k_ctor_96 : decode prog_1_method_1_code 96 = .ok (.iconst 0, 1) := by decide +kernel
theorem d_k_ctor_97 : decode prog_1_method_1_code 97 = .ok (.putfield 34, 3) := by decide +kernel
theorem d_k_ctor_100 : decode prog_1_method_1_code 100 = .ok (.aload_n 0, 1) := by decide +kernel
theorem d_k_ctor_101 : decode prog_1_method_1_code 101 = .ok (.lconst 1, 1) := by decide +kernel
theorem d_k_ctor_102 : decode prog_1_method_1_code 102 = .ok (.putfield 38, 3) := by decide +kernel
theorem d_k_ctor_105 : decode prog_1_method_1_code 105 = .ok (.return_, 1) := by decide +kernel
theorem d_k_ctor_75 : decode prog_1_method_1_code 75 = .ok (.ldc 23, 2) := by decide +kernel
theorem d_k_ctor_77 : decode prog_1_method_1_code 77 = .ok (.istore 4, 2) := by decide +kernel
theorem d_k_ctor_53 : decode prog_1_method_1_code 53 = .ok (.bipush 32, 2) := by decide +kernel
theorem d_k_ctor_55 : decode prog_1_method_1_code 55 = .ok (.istore_n 3, 1) := by decide +kernel
def R_k_ctor : Room := { frames := 1, cells := 4, slots := 128, locals := 12 }
abbrev G_k_ctor (l : Launch) (Z : State) (n0 : Nat) (P : Heap → Prop) := Go l Z D n0 P (⟨"MinCircle", "<init>", "(II)V"⟩ : MethodName) prog_1_method_1_code 5 none R_k_ctor
theorem pd_k_ctor : parseMethodDescriptor "(II)V" = some ⟨[.int, .int], none⟩ := by decide +kernel
theorem d_k_inRange_0 : decode prog_1_method_18_code 0 = .ok (.iload_n 1, 1) := by decide +kernel
theorem d_k_inRange_1 : decode prog_1_method_18_code 1 = .ok (.sipush (-255), 3) := by decide +kernel
theorem d_k_inRange_4 : decode prog_1_method_18_code 4 = .ok (.if_icmp .lt 28, 3) := by decide +kernel
theorem d_k_inRange_32 : decode prog_1_method_18_code 32 = .ok (.iconst 0, 1) := by decide +kernel
theorem d_k_inRange_33 : decode prog_1_method_18_code 33 = .ok (.ireturn, 1) := by decide +kernel
theorem d_k_inRange_7 : decode prog_1_method_18_code 7 = .ok (.iload_n 1, 1) := by decide +kernel
theorem d_k_inRange_8 : decode prog_1_method_18_code 8 = .ok (.sipush 255, 3) := by decide +kernel
theorem d_k_inRange_11 : decode prog_1_method_18_code 11 = .ok (.if_icmp .gt 21, 3) := by decide +kernel
theorem d_k_inRange_14 : decode prog_1_method_18_code 14 = .ok (.iload_n 2, 1) := by decide +kernel
theorem d_k_inRange_15 : decode prog_1_method_18_code 15 = .ok (.sipush (-255), 3) := by decide +kernel
theorem d_k_inRange_18 : decode prog_1_method_18_code 18 = .ok (.if_icmp .lt 14, 3) := by decide +kernel
theorem d_k_inRange_21 : decode prog_1_method_18_code 21 = .ok (.iload_n 2, 1) := by decide +kernel
theorem d_k_inRange_22 : decode prog_1_method_18_code 22 = .ok (.sipush 255, 3) := by decide +kernel
theorem d_k_inRange_25 : decode prog_1_method_18_code 25 = .ok (.if_icmp .gt 7, 3) := by decide +kernel
theorem d_k_inRange_28 : decode prog_1_method_18_code 28 = .ok (.iconst 1, 1) := by decide +kernel
theorem d_k_inRange_29 : decode prog_1_method_18_code 29 = .ok (.goto 4, 3) := by decide +kernel
def R_k_inRange : Room := { frames := 0, cells := 0, slots := 0, locals := 0 }
abbrev G_k_inRange (l : Launch) (Z : State) (n0 : Nat) (P : Heap → Prop) := Go l Z D n0 P (⟨"MinCircle", "inRange", "(II)Z"⟩ : MethodName) prog_1_method_18_code 3 (some .boolean) R_k_inRange
theorem pd_k_inRange : parseMethodDescriptor "(II)Z" = some ⟨[.int, .int], some .boolean⟩ := by decide +kernel
theorem d_k_addPoint_0 : decode prog_1_method_2_code 0 = .ok (.aload_n 0, 1) := by decide +kernel
theorem d_k_addPoint_1 : decode prog_1_method_2_code 1 = .ok (.iload_n 1, 1) := by decide +kernel
theorem d_k_addPoint_2 : decode prog_1_method_2_code 2 = .ok (.iload_n 2, 1) := by decide +kernel
theorem d_k_addPoint_3 : decode prog_1_method_2_code 3 = .ok (.invokevirtual 42, 3) := by decide +kernel
theorem d_k_addPoint_6 : decode prog_1_method_2_code 6 = .ok (.ifCond .ne 5, 3) := by decide +kernel
theorem d_k_addPoint_9 : decode prog_1_method_2_code 9 = .ok (.iconst (-1), 1) := by decide +kernel
theorem d_k_addPoint_10 : decode prog_1_method_2_code 10 = .ok (.ireturn, 1) := by decide +kernel
theorem d_k_addPoint_11 : decode prog_1_method_2_code 11 = .ok (.aload_n 0, 1) := by decide +kernel
theorem d_k_addPoint_12 : decode prog_1_method_2_code 12 = .ok (.getfield 31, 3) := by decide +kernel
theorem d_k_addPoint_15 : decode prog_1_method_2_code 15 = .ok (.aload_n 0, 1) := by decide +kernel
theorem d_k_addPoint_16 : decode prog_1_method_2_code 16 = .ok (.getfield 24, 3) := by decide +kernel
theorem d_k_addPoint_19 : decode prog_1_method_2_code 19 = .ok (.if_icmp .lt 5, 3) := by decide +kernel
theorem d_k_addPoint_24 : decode prog_1_method_2_code 24 = .ok (.iconst 0, 1) := by decide +kernel
theorem d_k_addPoint_25 : decode prog_1_method_2_code 25 = .ok (.istore_n 3, 1) := by decide +kernel
theorem d_k_addPoint_26 : decode prog_1_method_2_code 26 = .ok (.iload_n 3, 1) := by decide +kernel
theorem d_k_addPoint_27 : decode prog_1_method_2_code 27 = .ok (.aload_n 0, 1) := by decide +kernel
theorem d_k_addPoint_28 : decode prog_1_method_2_code 28 = .ok (.getfield 31, 3) := by decide +kernel
theorem d_k_addPoint_31 : decode prog_1_method_2_code 31 = .ok (.if_icmp .ge 31, 3) := by decide +kernel
theorem d_k_addPoint_34 : decode prog_1_method_2_code 34 = .ok (.aload_n 0, 1) := by decide +kernel
theorem d_k_addPoint_35 : decode prog_1_method_2_code 35 = .ok (.getfield 7, 3) := by decide +kernel
theorem d_k_addPoint_38 : decode prog_1_method_2_code 38 = .ok (.iload_n 3, 1) := by decide +kernel
theorem d_k_addPoint_39 : decode prog_1_method_2_code 39 = .ok (.iaload, 1) := by decide +kernel
theorem d_k_addPoint_40 : decode prog_1_method_2_code 40 = .ok (.iload_n 1, 1) := by decide +kernel
theorem d_k_addPoint_41 : decode prog_1_method_2_code 41 = .ok (.if_icmp .ne 15, 3) := by decide +kernel
theorem d_k_addPoint_44 : decode prog_1_method_2_code 44 = .ok (.aload_n 0, 1) := by decide +kernel
theorem d_k_addPoint_45 : decode prog_1_method_2_code 45 = .ok (.getfield 13, 3) := by decide +kernel
theorem d_k_addPoint_48 : decode prog_1_method_2_code 48 = .ok (.iload_n 3, 1) := by decide +kernel
theorem d_k_addPoint_49 : decode prog_1_method_2_code 49 = .ok (.iaload, 1) := by decide +kernel
theorem d_k_addPoint_50 : decode prog_1_method_2_code 50 = .ok (.iload_n 2, 1) := by decide +kernel
theorem d_k_addPoint_51 : decode prog_1_method_2_code 51 = .ok (.if_icmp .ne 5, 3) := by decide +kernel
theorem d_k_addPoint_54 : decode prog_1_method_2_code 54 = .ok (.iconst (-1), 1) := by decide +kernel
theorem d_k_addPoint_55 : decode prog_1_method_2_code 55 = .ok (.ireturn, 1) := by decide +kernel
theorem d_k_addPoint_56 : decode prog_1_method_2_code 56 = .ok (.iinc 3 1, 3) := by decide +kernel
theorem d_k_addPoint_59 : decode prog_1_method_2_code 59 = .ok (.goto (-33), 3) := by decide +kernel
theorem d_k_addPoint_62 : decode prog_1_method_2_code 62 = .ok (.aload_n 0, 1) := by decide +kernel
theorem d_k_addPoint_63 : decode prog_1_method_2_code 63 = .ok (.getfield 31, 3) := by decide +kernel
theorem d_k_addPoint_66 : decode prog_1_method_2_code 66 = .ok (.istore_n 3, 1) := by decide +kernel
theorem d_k_addPoint_67 : decode prog_1_method_2_code 67 = .ok (.aload_n 0, 1) := by decide +kernel
theorem d_k_addPoint_68 : decode prog_1_method_2_code 68 = .ok (.getfield 7, 3) := by decide +kernel
theorem d_k_addPoint_71 : decode prog_1_method_2_code 71 = .ok (.iload_n 3, 1) := by decide +kernel
theorem d_k_addPoint_72 : decode prog_1_method_2_code 72 = .ok (.iload_n 1, 1) := by decide +kernel
theorem d_k_addPoint_73 : decode prog_1_method_2_code 73 = .ok (.iastore, 1) := by decide +kernel
theorem d_k_addPoint_74 : decode prog_1_method_2_code 74 = .ok (.aload_n 0, 1) := by decide +kernel
theorem d_k_addPoint_75 : decode prog_1_method_2_code 75 = .ok (.getfield 13, 3) := by decide +kernel
theorem d_k_addPoint_78 : decode prog_1_method_2_code 78 = .ok (.iload_n 3, 1) := by decide +kernel
theorem d_k_addPoint_79 : decode prog_1_method_2_code 79 = .ok (.iload_n 2, 1) := by decide +kernel
theorem d_k_addPoint_80 : decode prog_1_method_2_code 80 = .ok (.iastore, 1) := by decide +kernel
theorem d_k_addPoint_81 : decode prog_1_method_2_code 81 = .ok (.aload_n 0, 1) := by decide +kernel
theorem d_k_addPoint_82 : decode prog_1_method_2_code 82 = .ok (.iload_n 3, 1) := by decide +kernel
theorem d_k_addPoint_83 : decode prog_1_method_2_code 83 = .ok (.iconst 1, 1) := by decide +kernel
theorem d_k_addPoint_84 : decode prog_1_method_2_code 84 = .ok (.iadd, 1) := by decide +kernel
theorem d_k_addPoint_85 : decode prog_1_method_2_code 85 = .ok (.putfield 31, 3) := by decide +kernel
theorem d_k_addPoint_88 : decode prog_1_method_2_code 88 = .ok (.aload_n 0, 1) := by decide +kernel
theorem d_k_addPoint_89 : decode prog_1_method_2_code 89 = .ok (.iconst 0, 1) := by decide +kernel
theorem d_k_addPoint_90 : decode prog_1_method_2_code 90 = .ok (.putfield 34, 3) := by decide +kernel
theorem d_k_addPoint_93 : decode prog_1_method_2_code 93 = .ok (.iload_n 3, 1) := by decide +kernel
theorem d_k_addPoint_94 : decode prog_1_method_2_code 94 = .ok (.ireturn, 1) := by decide +kernel
theorem d_k_addPoint_22 : decode prog_1_method_2_code 22 = .ok (.iconst (-1), 1) := by decide +kernel
theorem d_k_addPoint_23 : decode prog_1_method_2_code 23 = .ok (.ireturn, 1) := by decide +kernel
def R_k_addPoint : Room := { frames := 1, cells := 0, slots := 0, locals := 14 }
abbrev G_k_addPoint (l : Launch) (Z : State) (n0 : Nat) (P : Heap → Prop) := Go l Z D n0 P (⟨"MinCircle", "addPoint", "(II)I"⟩ : MethodName) prog_1_method_2_code 4 (some .int) R_k_addPoint
theorem pd_k_addPoint : parseMethodDescriptor "(II)I" = some ⟨[.int, .int], some .int⟩ := by decide +kernel
theorem d_k_nextRand_0 : decode prog_1_method_19_code 0 = .ok (.aload_n 0, 1) := by decide +kernel
theorem d_k_nextRand_1 : decode prog_1_method_19_code 1 = .ok (.aload_n 0, 1) := by decide +kernel
theorem d_k_nextRand_2 : decode prog_1_method_19_code 2 = .ok (.getfield 28, 3) := by decide +kernel
theorem d_k_nextRand_5 : decode prog_1_method_19_code 5 = .ok (.ldc 77, 2) := by decide +kernel
theorem d_k_nextRand_7 : decode prog_1_method_19_code 7 = .ok (.imul, 1) := by decide +kernel
theorem d_k_nextRand_8 : decode prog_1_method_19_code 8 = .ok (.sipush 12345, 3) := by decide +kernel
theorem d_k_nextRand_11 : decode prog_1_method_19_code 11 = .ok (.iadd, 1) := by decide +kernel
theorem d_k_nextRand_12 : decode prog_1_method_19_code 12 = .ok (.putfield 28, 3) := by decide +kernel
theorem d_k_nextRand_15 : decode prog_1_method_19_code 15 = .ok (.aload_n 0, 1) := by decide +kernel
theorem d_k_nextRand_16 : decode prog_1_method_19_code 16 = .ok (.getfield 28, 3) := by decide +kernel
theorem d_k_nextRand_19 : decode prog_1_method_19_code 19 = .ok (.bipush 8, 2) := by decide +kernel
theorem d_k_nextRand_21 : decode prog_1_method_19_code 21 = .ok (.iushr, 1) := by decide +kernel
theorem d_k_nextRand_22 : decode prog_1_method_19_code 22 = .ok (.ldc 78, 2) := by decide +kernel
theorem d_k_nextRand_24 : decode prog_1_method_19_code 24 = .ok (.iand, 1) := by decide +kernel
theorem d_k_nextRand_25 : decode prog_1_method_19_code 25 = .ok (.istore_n 2, 1) := by decide +kernel
theorem d_k_nextRand_26 : decode prog_1_method_19_code 26 = .ok (.iload_n 1, 1) := by decide +kernel
theorem d_k_nextRand_27 : decode prog_1_method_19_code 27 = .ok (.ifCond .gt 5, 3) := by decide +kernel
theorem d_k_nextRand_32 : decode prog_1_method_19_code 32 = .ok (.iload_n 2, 1) := by decide +kernel
theorem d_k_nextRand_33 : decode prog_1_method_19_code 33 = .ok (.iload_n 1, 1) := by decide +kernel
theorem d_k_nextRand_34 : decode prog_1_method_19_code 34 = .ok (.irem, 1) := by decide +kernel
theorem d_k_nextRand_35 : decode prog_1_method_19_code 35 = .ok (.ireturn, 1) := by decide +kernel
theorem d_k_nextRand_30 : decode prog_1_method_19_code 30 = .ok (.iconst 0, 1) := by decide +kernel
theorem d_k_nextRand_31 : decode prog_1_method_19_code 31 = .ok (.ireturn, 1) := by decide +kernel
def R_k_nextRand : Room := { frames := 0, cells := 0, slots := 0, locals := 0 }
abbrev G_k_nextRand (l : Launch) (Z : State) (n0 : Nat) (P : Heap → Prop) := Go l Z D n0 P (⟨"MinCircle", "nextRand", "(I)I"⟩ : MethodName) prog_1_method_19_code 3 (some .int) R_k_nextRand
theorem pd_k_nextRand : parseMethodDescriptor "(I)I" = some ⟨[.int], some .int⟩ := by decide +kernel
theorem d_k_shuffle_0 : decode prog_1_method_20_code 0 = .ok (.iconst 0, 1) := by decide +kernel
theorem d_k_shuffle_1 : decode prog_1_method_20_code 1 = .ok (.istore_n 1, 1) := by decide +kernel
theorem d_k_shuffle_2 : decode prog_1_method_20_code 2 = .ok (.iload_n 1, 1) := by decide +kernel
theorem d_k_shuffle_3 : decode prog_1_method_20_code 3 = .ok (.aload_n 0, 1) := by decide +kernel
theorem d_k_shuffle_4 : decode prog_1_method_20_code 4 = .ok (.getfield 31, 3) := by decide +kernel
theorem d_k_shuffle_7 : decode prog_1_method_20_code 7 = .ok (.if_icmp .ge 16, 3) := by decide +kernel
theorem d_k_shuffle_10 : decode prog_1_method_20_code 10 = .ok (.aload_n 0, 1) := by decide +kernel
theorem d_k_shuffle_11 : decode prog_1_method_20_code 11 = .ok (.getfield 16, 3) := by decide +kernel
theorem d_k_shuffle_14 : decode prog_1_method_20_code 14 = .ok (.iload_n 1, 1) := by decide +kernel
theorem d_k_shuffle_15 : decode prog_1_method_20_code 15 = .ok (.iload_n 1, 1) := by decide +kernel
theorem d_k_shuffle_16 : decode prog_1_method_20_code 16 = .ok (.iastore, 1) := by decide +kernel
theorem d_k_shuffle_17 : decode prog_1_method_20_code 17 = .ok (.iinc 1 1, 3) := by decide +kernel
theorem d_k_shuffle_20 : decode prog_1_method_20_code 20 = .ok (.goto (-18), 3) := by decide +kernel
theorem d_k_shuffle_23 : decode prog_1_method_20_code 23 = .ok (.aload_n 0, 1) := by decide +kernel
theorem d_k_shuffle_24 : decode prog_1_method_20_code 24 = .ok (.getfield 31, 3) := by decide +kernel
theorem d_k_shuffle_27 : decode prog_1_method_20_code 27 = .ok (.iconst 1, 1) := by decide +kernel
theorem d_k_shuffle_28 : decode prog_1_method_20_code 28 = .ok (.isub, 1) := by decide +kernel
theorem d_k_shuffle_29 : decode prog_1_method_20_code 29 = .ok (.istore_n 1, 1) := by decide +kernel
theorem d_k_shuffle_30 : decode prog_1_method_20_code 30 = .ok (.iload_n 1, 1) := by decide +kernel
theorem d_k_shuffle_31 : decode prog_1_method_20_code 31 = .ok (.ifCond .le 54, 3) := by decide +kernel
theorem d_k_shuffle_34 : decode prog_1_method_20_code 34 = .ok (.aload_n 0, 1) := by decide +kernel
theorem d_k_shuffle_35 : decode prog_1_method_20_code 35 = .ok (.iload_n 1, 1) := by decide +kernel
theorem d_k_shuffle_36 : decode prog_1_method_20_code 36 = .ok (.iconst 1, 1) := by decide +kernel
theorem d_k_shuffle_37 : decode prog_1_method_20_code 37 = .ok (.iadd, 1) := by decide +kernel
theorem d_k_shuffle_38 : decode prog_1_method_20_code 38 = .ok (.invokevirtual 79, 3) := by decide +kernel
theorem d_k_shuffle_41 : decode prog_1_method_20_code 41 = .ok (.istore_n 2, 1) := by decide +kernel
theorem d_k_shuffle_42 : decode prog_1_method_20_code 42 = .ok (.iload_n 2, 1) := by decide +kernel
theorem d_k_shuffle_43 : decode prog_1_method_20_code 43 = .ok (.ifCond .lt 8, 3) := by decide +kernel
theorem d_k_shuffle_51 : decode prog_1_method_20_code 51 = .ok (.iload_n 1, 1) := by decide +kernel
theorem d_k_shuffle_52 : decode prog_1_method_20_code 52 = .ok (.istore_n 2, 1) := by decide +kernel
theorem d_k_shuffle_53 : decode prog_1_method_20_code 53 = .ok (.aload_n 0, 1) := by decide +kernel
theorem d_k_shuffle_54 : decode prog_1_method_20_code 54 = .ok (.getfield 16, 3) := by decide +kernel
theorem d_k_shuffle_57 : decode prog_1_method_20_code 57 = .ok (.iload_n 1, 1) := by decide +kernel
theorem d_k_shuffle_58 : decode prog_1_method_20_code 58 = .ok (.iaload, 1) := by decide +kernel
theorem d_k_shuffle_59 : decode prog_1_method_20_code 59 = .ok (.istore_n 3, 1) := by decide +kernel
theorem d_k_shuffle_60 : decode prog_1_method_20_code 60 = .ok (.aload_n 0, 1) := by decide +kernel
theorem d_k_shuffle_61 : decode prog_1_method_20_code 61 = .ok (.getfield 16, 3) := by decide +kernel
theorem d_k_shuffle_64 : decode prog_1_method_20_code 64 = .ok (.iload_n 1, 1) := by decide +kernel
theorem d_k_shuffle_65 : decode prog_1_method_20_code 65 = .ok (.aload_n 0, 1) := by decide +kernel
theorem d_k_shuffle_66 : decode prog_1_method_20_code 66 = .ok (.getfield 16, 3) := by decide +kernel
theorem d_k_shuffle_69 : decode prog_1_method_20_code 69 = .ok (.iload_n 2, 1) := by decide +kernel
theorem d_k_shuffle_70 : decode prog_1_method_20_code 70 = .ok (.iaload, 1) := by decide +kernel
theorem d_k_shuffle_71 : decode prog_1_method_20_code 71 = .ok (.iastore, 1) := by decide +kernel
theorem d_k_shuffle_72 : decode prog_1_method_20_code 72 = .ok (.aload_n 0, 1) := by decide +kernel
theorem d_k_shuffle_73 : decode prog_1_method_20_code 73 = .ok (.getfield 16, 3) := by decide +kernel
theorem d_k_shuffle_76 : decode prog_1_method_20_code 76 = .ok (.iload_n 2, 1) := by decide +kernel
theorem d_k_shuffle_77 : decode prog_1_method_20_code 77 = .ok (.iload_n 3, 1) := by decide +kernel
theorem d_k_shuffle_78 : decode prog_1_method_20_code 78 = .ok (.iastore, 1) := by decide +kernel
theorem d_k_shuffle_79 : decode prog_1_method_20_code 79 = .ok (.iinc 1 (-1), 3) := by decide +kernel
theorem d_k_shuffle_82 : decode prog_1_method_20_code 82 = .ok (.goto (-52), 3) := by decide +kernel
theorem d_k_shuffle_46 : decode prog_1_method_20_code 46 = .ok (.iload_n 2, 1) := by decide +kernel
theorem d_k_shuffle_47 : decode prog_1_method_20_code 47 = .ok (.iload_n 1, 1) := by decide +kernel
theorem d_k_shuffle_48 : decode prog_1_method_20_code 48 = .ok (.if_icmp .le 5, 3) := by decide +kernel
theorem d_k_shuffle_85 : decode prog_1_method_20_code 85 = .ok (.return_, 1) := by decide +kernel
def R_k_shuffle : Room := { frames := 1, cells := 0, slots := 0, locals := 14 }
abbrev G_k_shuffle (l : Launch) (Z : State) (n0 : Nat) (P : Heap → Prop) := Go l Z D n0 P (⟨"MinCircle", "shuffle", "()V"⟩ : MethodName) prog_1_method_20_code 4 none R_k_shuffle
theorem pd_k_shuffle : parseMethodDescriptor "()V" = some ⟨[], none⟩ := by decide +kernel
theorem d_k_setPoint_0 : decode prog_1_method_25_code 0 = .ok (.aload_n 0, 1) := by decide +kernel
theorem d_k_setPoint_1 : decode prog_1_method_25_code 1 = .ok (.aload_n 0, 1) := by decide +kernel
theorem d_k_setPoint_2 : decode prog_1_method_25_code 2 = .ok (.getfield 7, 3) := by decide +kernel
theorem d_k_setPoint_5 : decode prog_1_method_25_code 5 = .ok (.iload_n 1, 1) := by decide +kernel
theorem d_k_setPoint_6 : decode prog_1_method_25_code 6 = .ok (.iaload, 1) := by decide +kernel
theorem d_k_setPoint_7 : decode prog_1_method_25_code 7 = .ok (.i2l, 1) := by decide +kernel
theorem d_k_setPoint_8 : decode prog_1_method_25_code 8 = .ok (.putfield 105, 3) := by decide +kernel
theorem d_k_setPoint_11 : decode prog_1_method_25_code 11 = .ok (.aload_n 0, 1) := by decide +kernel
theorem d_k_setPoint_12 : decode prog_1_method_25_code 12 = .ok (.aload_n 0, 1) := by decide +kernel
theorem d_k_setPoint_13 : decode prog_1_method_25_code 13 = .ok (.getfield 13, 3) := by decide +kernel
theorem d_k_setPoint_16 : decode prog_1_method_25_code 16 = .ok (.iload_n 1, 1) := by decide +kernel
theorem d_k_setPoint_17 : decode prog_1_method_25_code 17 = .ok (.iaload, 1) := by decide +kernel
theorem d_k_setPoint_18 : decode prog_1_method_25_code 18 = .ok (.i2l, 1) := by decide +kernel
theorem d_k_setPoint_19 : decode prog_1_method_25_code 19 = .ok (.putfield 108, 3) := by decide +kernel
theorem d_k_setPoint_22 : decode prog_1_method_25_code 22 = .ok (.aload_n 0, 1) := by decide +kernel
theorem d_k_setPoint_23 : decode prog_1_method_25_code 23 = .ok (.lconst 1, 1) := by decide +kernel
theorem d_k_setPoint_24 : decode prog_1_method_25_code 24 = .ok (.putfield 38, 3) := by decide +kernel
theorem d_k_setPoint_27 : decode prog_1_method_25_code 27 = .ok (.aload_n 0, 1) := by decide +kernel
theorem d_k_setPoint_28 : decode prog_1_method_25_code 28 = .ok (.lconst 0, 1) := by decide +kernel
theorem d_k_setPoint_29 : decode prog_1_method_25_code 29 = .ok (.putfield 111, 3) := by decide +kernel
theorem d_k_setPoint_32 : decode prog_1_method_25_code 32 = .ok (.return_, 1) := by decide +kernel
def R_k_setPoint : Room := { frames := 0, cells := 0, slots := 0, locals := 0 }
abbrev G_k_setPoint (l : Launch) (Z : State) (n0 : Nat) (P : Heap → Prop) := Go l Z D n0 P (⟨"MinCircle", "setPoint", "(I)V"⟩ : MethodName) prog_1_method_25_code 2 none R_k_setPoint
theorem pd_k_setPoint : parseMethodDescriptor "(I)V" = some ⟨[.int], none⟩ := by decide +kernel
theorem d_k_outside_0 : decode prog_1_method_24_code 0 = .ok (.aload_n 0, 1) := by decide +kernel
theorem d_k_outside_1 : decode prog_1_method_24_code 1 = .ok (.getfield 7, 3) := by decide +kernel
theorem d_k_outside_4 : decode prog_1_method_24_code 4 = .ok (.iload_n 1, 1) := by decide +kernel
theorem d_k_outside_5 : decode prog_1_method_24_code 5 = .ok (.iaload, 1) := by decide +kernel
theorem d_k_outside_6 : decode prog_1_method_24_code 6 = .ok (.i2l, 1) := by decide +kernel
theorem d_k_outside_7 : decode prog_1_method_24_code 7 = .ok (.aload_n 0, 1) := by decide +kernel
theorem d_k_outside_8 : decode prog_1_method_24_code 8 = .ok (.getfield 38, 3) := by decide +kernel
theorem d_k_outside_11 : decode prog_1_method_24_code 11 = .ok (.lmul, 1) := by decide +kernel
theorem d_k_outside_12 : decode prog_1_method_24_code 12 = .ok (.aload_n 0, 1) := by decide +kernel
theorem d_k_outside_13 : decode prog_1_method_24_code 13 = .ok (.getfield 105, 3) := by decide +kernel
theorem d_k_outside_16 : decode prog_1_method_24_code 16 = .ok (.lsub, 1) := by decide +kernel
theorem d_k_outside_17 : decode prog_1_method_24_code 17 = .ok (.lstore_n 2, 1) := by decide +kernel
theorem d_k_outside_18 : decode prog_1_method_24_code 18 = .ok (.aload_n 0, 1) := by decide +kernel
theorem d_k_outside_19 : decode prog_1_method_24_code 19 = .ok (.getfield 13, 3) := by decide +kernel
theorem d_k_outside_22 : decode prog_1_method_24_code 22 = .ok (.iload_n 1, 1) := by decide +kernel
theorem d_k_outside_23 : decode prog_1_method_24_code 23 = .ok (.iaload, 1) := by decide +kernel
theorem d_k_outside_24 : decode prog_1_method_24_code 24 = .ok (.i2l, 1) := by decide +kernel
theorem d_k_outside_25 : decode prog_1_method_24_code 25 = .ok (.aload_n 0, 1) := by decide +kernel
theorem d_k_outside_26 : decode prog_1_method_24_code 26 = .ok (.getfield 38, 3) := by decide +kernel
theorem d_k_outside_29 : decode prog_1_method_24_code 29 = .ok (.lmul, 1) := by decide +kernel
theorem d_k_outside_30 : decode prog_1_method_24_code 30 = .ok (.aload_n 0, 1) := by decide +kernel
theorem d_k_outside_31 : decode prog_1_method_24_code 31 = .ok (.getfield 108, 3) := by decide +kernel
theorem d_k_outside_34 : decode prog_1_method_24_code 34 = .ok (.lsub, 1) := by decide +kernel
theorem d_k_outside_35 : decode prog_1_method_24_code 35 = .ok (.lstore 4, 2) := by decide +kernel
theorem d_k_outside_37 : decode prog_1_method_24_code 37 = .ok (.lload_n 2, 1) := by decide +kernel
theorem d_k_outside_38 : decode prog_1_method_24_code 38 = .ok (.lload_n 2, 1) := by decide +kernel
theorem d_k_outside_39 : decode prog_1_method_24_code 39 = .ok (.lmul, 1) := by decide +kernel
theorem d_k_outside_40 : decode prog_1_method_24_code 40 = .ok (.lload 4, 2) := by decide +kernel
theorem d_k_outside_42 : decode prog_1_method_24_code 42 = .ok (.lload 4, 2) := by decide +kernel
theorem d_k_outside_44 : decode prog_1_method_24_code 44 = .ok (.lmul, 1) := by decide +kernel
theorem d_k_outside_45 : decode prog_1_method_24_code 45 = .ok (.ladd, 1) := by decide +kernel
theorem d_k_outside_46 : decode prog_1_method_24_code 46 = .ok (.aload_n 0, 1) := by decide +kernel
theorem d_k_outside_47 : decode prog_1_method_24_code 47 = .ok (.getfield 111, 3) := by decide +kernel
theorem d_k_outside_51 : decode prog_1_method_24_code 51 = .ok (.ifCond .le 7, 3) := by decide +kernel
theorem d_k_outside_50 : decode prog_1_method_24_code 50 = .ok (.lcmp, 1) := by decide +kernel
theorem d_k_outside_58 : decode prog_1_method_24_code 58 = .ok (.iconst 0, 1) := by decide +kernel
theorem d_k_outside_59 : decode prog_1_method_24_code 59 = .ok (.ireturn, 1) := by decide +kernel
theorem d_k_outside_54 : decode prog_1_method_24_code 54 = .ok (.iconst 1, 1) := by decide +kernel
theorem d_k_outside_55 : decode prog_1_method_24_code 55 = .ok (.goto 4, 3) := by decide +kernel
def R_k_outside : Room := { frames := 0, cells := 0, slots := 0, locals := 0 }
abbrev G_k_outside (l : Launch) (Z : State) (n0 : Nat) (P : Heap → Prop) := Go l Z D n0 P (⟨"MinCircle", "outside", "(I)Z"⟩ : MethodName) prog_1_method_24_code 6 (some .boolean) R_k_outside
theorem pd_k_outside : parseMethodDescriptor "(I)Z" = some ⟨[.int], some .boolean⟩ := by decide +kernel
theorem d_k_setPair_0 : decode prog_1_method_26_code 0 = .ok (.aload_n 0, 1) := by decide +kernel
theorem d_k_setPair_1 : decode prog_1_method_26_code 1 = .ok (.aload_n 0, 1) := by decide +kernel
theorem d_k_setPair_2 : decode prog_1_method_26_code 2 = .ok (.getfield 7, 3) := by decide +kernel
theorem d_k_setPair_5 : decode prog_1_method_26_code 5 = .ok (.iload_n 1, 1) := by decide +kernel
theorem d_k_setPair_6 : decode prog_1_method_26_code 6 = .ok (.iaload, 1) := by decide +kernel
theorem d_k_setPair_7 : decode prog_1_method_26_code 7 = .ok (.i2l, 1) := by decide +kernel
theorem d_k_setPair_8 : decode prog_1_method_26_code 8 = .ok (.aload_n 0, 1) := by decide +kernel
theorem d_k_setPair_9 : decode prog_1_method_26_code 9 = .ok (.getfield 7, 3) := by decide +kernel
theorem d_k_setPair_12 : decode prog_1_method_26_code 12 = .ok (.iload_n 2, 1) := by decide +kernel
theorem d_k_setPair_13 : decode prog_1_method_26_code 13 = .ok (.iaload, 1) := by decide +kernel
theorem d_k_setPair_14 : decode prog_1_method_26_code 14 = .ok (.i2l, 1) := by decide +kernel
theorem d_k_setPair_15 : decode prog_1_method_26_code 15 = .ok (.ladd, 1) := by decide +kernel
theorem d_k_setPair_16 : decode prog_1_method_26_code 16 = .ok (.putfield 105, 3) := by decide +kernel
theorem d_k_setPair_19 : decode prog_1_method_26_code 19 = .ok (.aload_n 0, 1) := by decide +kernel
theorem d_k_setPair_20 : decode prog_1_method_26_code 20 = .ok (.aload_n 0, 1) := by decide +kernel
theorem d_k_setPair_21 : decode prog_1_method_26_code 21 = .ok (.getfield 13, 3) := by decide +kernel
theorem d_k_setPair_24 : decode prog_1_method_26_code 24 = .ok (.iload_n 1, 1) := by decide +kernel
theorem d_k_setPair_25 : decode prog_1_method_26_code 25 = .ok (.iaload, 1) := by decide +kernel
theorem d_k_setPair_26 : decode prog_1_method_26_code 26 = .ok (.i2l, 1) := by decide +kernel
theorem d_k_setPair_27 : decode prog_1_method_26_code 27 = .ok (.aload_n 0, 1) := by decide +kernel
theorem d_k_setPair_28 : decode prog_1_method_26_code 28 = .ok (.getfield 13, 3) := by decide +kernel
theorem d_k_setPair_31 : decode prog_1_method_26_code 31 = .ok (.iload_n 2, 1) := by decide +kernel
theorem d_k_setPair_32 : decode prog_1_method_26_code 32 = .ok (.iaload, 1) := by decide +kernel
theorem d_k_setPair_33 : decode prog_1_method_26_code 33 = .ok (.i2l, 1) := by decide +kernel
theorem d_k_setPair_34 : decode prog_1_method_26_code 34 = .ok (.ladd, 1) := by decide +kernel
theorem d_k_setPair_35 : decode prog_1_method_26_code 35 = .ok (.putfield 108, 3) := by decide +kernel
theorem d_k_setPair_38 : decode prog_1_method_26_code 38 = .ok (.aload_n 0, 1) := by decide +kernel
theorem d_k_setPair_39 : decode prog_1_method_26_code 39 = .ok (.ldc2_w 114, 3) := by decide +kernel
theorem d_k_setPair_42 : decode prog_1_method_26_code 42 = .ok (.putfield 38, 3) := by decide +kernel
theorem d_k_setPair_45 : decode prog_1_method_26_code 45 = .ok (.aload_n 0, 1) := by decide +kernel
theorem d_k_setPair_46 : decode prog_1_method_26_code 46 = .ok (.getfield 7, 3) := by decide +kernel
theorem d_k_setPair_49 : decode prog_1_method_26_code 49 = .ok (.iload_n 1, 1) := by decide +kernel
theorem d_k_setPair_50 : decode prog_1_method_26_code 50 = .ok (.iaload, 1) := by decide +kernel
theorem d_k_setPair_51 : decode prog_1_method_26_code 51 = .ok (.i2l, 1) := by decide +kernel
theorem d_k_setPair_52 : decode prog_1_method_26_code 52 = .ok (.aload_n 0, 1) := by decide +kernel
theorem d_k_setPair_53 : decode prog_1_method_26_code 53 = .ok (.getfield 7, 3) := by decide +kernel
theorem d_k_setPair_56 : decode prog_1_method_26_code 56 = .ok (.iload_n 2, 1) := by decide +kernel
theorem d_k_setPair_57 : decode prog_1_method_26_code 57 = .ok (.iaload, 1) := by decide +kernel
theorem d_k_setPair_58 : decode prog_1_method_26_code 58 = .ok (.i2l, 1) := by decide +kernel
theorem d_k_setPair_59 : decode prog_1_method_26_code 59 = .ok (.lsub, 1) := by decide +kernel
theorem d_k_setPair_60 : decode prog_1_method_26_code 60 = .ok (.lstore_n 3, 1) := by decide +kernel
theorem d_k_setPair_61 : decode prog_1_method_26_code 61 = .ok (.aload_n 0, 1) := by decide +kernel
theorem d_k_setPair_62 : decode prog_1_method_26_code 62 = .ok (.getfield 13, 3) := by decide +kernel
theorem d_k_setPair_65 : decode prog_1_method_26_code 65 = .ok (.iload_n 1, 1) := by decide +kernel
theorem d_k_setPair_66 : decode prog_1_method_26_code 66 = .ok (.iaload, 1) := by decide +kernel
theorem d_k_setPair_67 : decode prog_1_method_26_code 67 = .ok (.i2l, 1) := by decide +kernel
theorem d_k_setPair_68 : decode prog_1_method_26_code 68 = .ok (.aload_n 0, 1) := by decide +kernel
theorem d_k_setPair_69 : decode prog_1_method_26_code 69 = .ok (.getfield 13, 3) := by decide +kernel
theorem d_k_setPair_72 : decode prog_1_method_26_code 72 = .ok (.iload_n 2, 1) := by decide +kernel
theorem d_k_setPair_73 : decode prog_1_method_26_code 73 = .ok (.iaload, 1) := by decide +kernel
theorem d_k_setPair_74 : decode prog_1_method_26_code 74 = .ok (.i2l, 1) := by decide +kernel
theorem d_k_setPair_75 : decode prog_1_method_26_code 75 = .ok (.lsub, 1) := by decide +kernel
theorem d_k_setPair_76 : decode prog_1_method_26_code 76 = .ok (.lstore 5, 2) := by decide +kernel
theorem d_k_setPair_78 : decode prog_1_method_26_code 78 = .ok (.aload_n 0, 1) := by decide +kernel
theorem d_k_setPair_79 : decode prog_1_method_26_code 79 = .ok (.lload_n 3, 1) := by decide +kernel
theorem d_k_setPair_80 : decode prog_1_method_26_code 80 = .ok (.lload_n 3, 1) := by decide +kernel
theorem d_k_setPair_81 : decode prog_1_method_26_code 81 = .ok (.lmul, 1) := by decide +kernel
theorem d_k_setPair_82 : decode prog_1_method_26_code 82 = .ok (.lload 5, 2) := by decide +kernel
theorem d_k_setPair_84 : decode prog_1_method_26_code 84 = .ok (.lload 5, 2) := by decide +kernel
theorem d_k_setPair_86 : decode prog_1_method_26_code 86 = .ok (.lmul, 1) := by decide +kernel
theorem d_k_setPair_87 : decode prog_1_method_26_code 87 = .ok (.ladd, 1) := by decide +kernel
theorem d_k_setPair_88 : decode prog_1_method_26_code 88 = .ok (.putfield 111, 3) := by decide +kernel
theorem d_k_setPair_91 : decode prog_1_method_26_code 91 = .ok (.return_, 1) := by decide +kernel
def R_k_setPair : Room := { frames := 0, cells := 0, slots := 0, locals := 0 }
abbrev G_k_setPair (l : Launch) (Z : State) (n0 : Nat) (P : Heap → Prop) := Go l Z D n0 P (⟨"MinCircle", "setPair", "(II)V"⟩ : MethodName) prog_1_method_26_code 7 none R_k_setPair
theorem pd_k_setPair : parseMethodDescriptor "(II)V" = some ⟨[.int, .int], none⟩ := by decide +kernel
theorem d_k_setTriple_0 : decode prog_1_method_28_code 0 = .ok (.aload_n 0, 1) := by decide +kernel
theorem d_k_setTriple_1 : decode prog_1_method_28_code 1 = .ok (.getfield 7, 3) := by decide +kernel
theorem d_k_setTriple_4 : decode prog_1_method_28_code 4 = .ok (.iload_n 2, 1) := by decide +kernel
theorem d_k_setTriple_5 : decode prog_1_method_28_code 5 = .ok (.iaload, 1) := by decide +kernel
theorem d_k_setTriple_6 : decode prog_1_method_28_code 6 = .ok (.i2l, 1) := by decide +kernel
theorem d_k_setTriple_7 : decode prog_1_method_28_code 7 = .ok (.aload_n 0, 1) := by decide +kernel
theorem d_k_setTriple_8 : decode prog_1_method_28_code 8 = .ok (.getfield 7, 3) := by decide +kernel
theorem d_k_setTriple_11 : decode prog_1_method_28_code 11 = .ok (.iload_n 1, 1) := by decide +kernel
theorem d_k_setTriple_12 : decode prog_1_method_28_code 12 = .ok (.iaload, 1) := by decide +kernel
theorem d_k_setTriple_13 : decode prog_1_method_28_code 13 = .ok (.i2l, 1) := by decide +kernel
theorem d_k_setTriple_14 : decode prog_1_method_28_code 14 = .ok (.lsub, 1) := by decide +kernel
theorem d_k_setTriple_15 : decode prog_1_method_28_code 15 = .ok (.lstore 4, 2) := by decide +kernel
theorem d_k_setTriple_17 : decode prog_1_method_28_code 17 = .ok (.aload_n 0, 1) := by decide +kernel
theorem d_k_setTriple_18 : decode prog_1_method_28_code 18 = .ok (.getfield 13, 3) := by decide +kernel
theorem d_k_setTriple_21 : decode prog_1_method_28_code 21 = .ok (.iload_n 2, 1) := by decide +kernel
theorem d_k_setTriple_22 : decode prog_1_method_28_code 22 = .ok (.iaload, 1) := by decide +kernel
theorem d_k_setTriple_23 : decode prog_1_method_28_code 23 = .ok (.i2l, 1) := by decide +kernel
theorem d_k_setTriple_24 : decode prog_1_method_28_code 24 = .ok (.aload_n 0, 1) := by decide +kernel
theorem d_k_setTriple_25 : decode prog_1_method_28_code 25 = .ok (.getfield 13, 3) := by decide +kernel
theorem d_k_setTriple_28 : decode prog_1_method_28_code 28 = .ok (.iload_n 1, 1) := by decide +kernel
theorem d_k_setTriple_29 : decode prog_1_method_28_code 29 = .ok (.iaload, 1) := by decide +kernel
theorem d_k_setTriple_30 : decode prog_1_method_28_code 30 = .ok (.i2l, 1) := by decide +kernel
theorem d_k_setTriple_31 : decode prog_1_method_28_code 31 = .ok (.lsub, 1) := by decide +kernel
theorem d_k_setTriple_32 : decode prog_1_method_28_code 32 = .ok (.lstore 6, 2) := by decide +kernel
theorem d_k_setTriple_34 : decode prog_1_method_28_code 34 = .ok (.aload_n 0, 1) := by decide +kernel
theorem d_k_setTriple_35 : decode prog_1_method_28_code 35 = .ok (.getfield 7, 3) := by decide +kernel
theorem d_k_setTriple_38 : decode prog_1_method_28_code 38 = .ok (.iload_n 3, 1) := by decide +kernel
theorem d_k_setTriple_39 : decode prog_1_method_28_code 39 = .ok (.iaload, 1) := by decide +kernel
theorem d_k_setTriple_40 : decode prog_1_method_28_code 40 = .ok (.i2l, 1) := by decide +kernel
theorem d_k_setTriple_41 : decode prog_1_method_28_code 41 = .ok (.aload_n 0, 1) := by decide +kernel
theorem d_k_setTriple_42 : decode prog_1_method_28_code 42 = .ok (.getfield 7, 3) := by decide +kernel
theorem d_k_setTriple_45 : decode prog_1_method_28_code 45 = .ok (.iload_n 1, 1) := by decide +kernel
theorem d_k_setTriple_46 : decode prog_1_method_28_code 46 = .ok (.iaload, 1) := by decide +kernel
theorem d_k_setTriple_47 : decode prog_1_method_28_code 47 = .ok (.i2l, 1) := by decide +kernel
theorem d_k_setTriple_48 : decode prog_1_method_28_code 48 = .ok (.lsub, 1) := by decide +kernel
theorem d_k_setTriple_49 : decode prog_1_method_28_code 49 = .ok (.lstore 8, 2) := by decide +kernel
theorem d_k_setTriple_51 : decode prog_1_method_28_code 51 = .ok (.aload_n 0, 1) := by decide +kernel
theorem d_k_setTriple_52 : decode prog_1_method_28_code 52 = .ok (.getfield 13, 3) := by decide +kernel
theorem d_k_setTriple_55 : decode prog_1_method_28_code 55 = .ok (.iload_n 3, 1) := by decide +kernel
theorem d_k_setTriple_56 : decode prog_1_method_28_code 56 = .ok (.iaload, 1) := by decide +kernel
theorem d_k_setTriple_57 : decode prog_1_method_28_code 57 = .ok (.i2l, 1) := by decide +kernel
theorem d_k_setTriple_58 : decode prog_1_method_28_code 58 = .ok (.aload_n 0, 1) := by decide +kernel
theorem d_k_setTriple_59 : decode prog_1_method_28_code 59 = .ok (.getfield 13, 3) := by decide +kernel
theorem d_k_setTriple_62 : decode prog_1_method_28_code 62 = .ok (.iload_n 1, 1) := by decide +kernel
theorem d_k_setTriple_63 : decode prog_1_method_28_code 63 = .ok (.iaload, 1) := by decide +kernel
theorem d_k_setTriple_64 : decode prog_1_method_28_code 64 = .ok (.i2l, 1) := by decide +kernel
theorem d_k_setTriple_65 : decode prog_1_method_28_code 65 = .ok (.lsub, 1) := by decide +kernel
theorem d_k_setTriple_66 : decode prog_1_method_28_code 66 = .ok (.lstore 10, 2) := by decide +kernel
theorem d_k_setTriple_68 : decode prog_1_method_28_code 68 = .ok (.ldc2_w 114, 3) := by decide +kernel
theorem d_k_setTriple_71 : decode prog_1_method_28_code 71 = .ok (.lload 4, 2) := by decide +kernel
theorem d_k_setTriple_73 : decode prog_1_method_28_code 73 = .ok (.lload 10, 2) := by decide +kernel
theorem d_k_setTriple_75 : decode prog_1_method_28_code 75 = .ok (.lmul, 1) := by decide +kernel
theorem d_k_setTriple_76 : decode prog_1_method_28_code 76 = .ok (.lload 6, 2) := by decide +kernel
theorem d_k_setTriple_78 : decode prog_1_method_28_code 78 = .ok (.lload 8, 2) := by decide +kernel
theorem d_k_setTriple_80 : decode prog_1_method_28_code 80 = .ok (.lmul, 1) := by decide +kernel
theorem d_k_setTriple_81 : decode prog_1_method_28_code 81 = .ok (.lsub, 1) := by decide +kernel
theorem d_k_setTriple_82 : decode prog_1_method_28_code 82 = .ok (.lmul, 1) := by decide +kernel
theorem d_k_setTriple_83 : decode prog_1_method_28_code 83 = .ok (.lstore 12, 2) := by decide +kernel
theorem d_k_setTriple_85 : decode prog_1_method_28_code 85 = .ok (.lload 12, 2) := by decide +kernel
theorem d_k_setTriple_87 : decode prog_1_method_28_code 87 = .ok (.lconst 0, 1) := by decide +kernel
theorem d_k_setTriple_89 : decode prog_1_method_28_code 89 = .ok (.ifCond .ne 11, 3) := by decide +kernel
theorem d_k_setTriple_88 : decode prog_1_method_28_code 88 = .ok (.lcmp, 1) := by decide +kernel
theorem d_k_setTriple_92 : decode prog_1_method_28_code 92 = .ok (.aload_n 0, 1) := by decide +kernel
theorem d_k_setTriple_93 : decode prog_1_method_28_code 93 = .ok (.iload_n 1, 1) := by decide +kernel
theorem d_k_setTriple_94 : decode prog_1_method_28_code 94 = .ok (.iload_n 2, 1) := by decide +kernel
theorem d_k_setTriple_95 : decode prog_1_method_28_code 95 = .ok (.iload_n 3, 1) := by decide +kernel
theorem d_k_setTriple_100 : decode prog_1_method_28_code 100 = .ok (.lload 4, 2) := by decide +kernel
theorem d_k_setTriple_102 : decode prog_1_method_28_code 102 = .ok (.lload 4, 2) := by decide +kernel
theorem d_k_setTriple_104 : decode prog_1_method_28_code 104 = .ok (.lmul, 1) := by decide +kernel
theorem d_k_setTriple_105 : decode prog_1_method_28_code 105 = .ok (.lload 6, 2) := by decide +kernel
theorem d_k_setTriple_107 : decode prog_1_method_28_code 107 = .ok (.lload 6, 2) := by decide +kernel
theorem d_k_setTriple_109 : decode prog_1_method_28_code 109 = .ok (.lmul, 1) := by decide +kernel
theorem d_k_setTriple_110 : decode prog_1_method_28_code 110 = .ok (.ladd, 1) := by decide +kernel
theorem d_k_setTriple_111 : decode prog_1_method_28_code 111 = .ok (.lstore 14, 2) := by decide +kernel
theorem d_k_setTriple_113 : decode prog_1_method_28_code 113 = .ok (.lload 8, 2) := by decide +kernel
theorem d_k_setTriple_115 : decode prog_1_method_28_code 115 = .ok (.lload 8, 2) := by decide +kernel
theorem d_k_setTriple_117 : decode prog_1_method_28_code 117 = .ok (.lmul, 1) := by decide +kernel
theorem d_k_setTriple_118 : decode prog_1_method_28_code 118 = .ok (.lload 10, 2) := by decide +kernel
theorem d_k_setTriple_120 : decode prog_1_method_28_code 120 = .ok (.lload 10, 2) := by decide +kernel
theorem d_k_setTriple_122 : decode prog_1_method_28_code 122 = .ok (.lmul, 1) := by decide +kernel
theorem d_k_setTriple_123 : decode prog_1_method_28_code 123 = .ok (.ladd, 1) := by decide +kernel
theorem d_k_setTriple_124 : decode prog_1_method_28_code 124 = .ok (.lstore 16, 2) := by decide +kernel
theorem d_k_setTriple_126 : decode prog_1_method_28_code 126 = .ok (.lload 10, 2) := by decide +kernel
theorem d_k_setTriple_128 : decode prog_1_method_28_code 128 = .ok (.lload 14, 2) := by decide +kernel
theorem d_k_setTriple_130 : decode prog_1_method_28_code 130 = .ok (.lmul, 1) := by decide +kernel
theorem d_k_setTriple_131 : decode prog_1_method_28_code 131 = .ok (.lload 6, 2) := by decide +kernel
theorem d_k_setTriple_133 : decode prog_1_method_28_code 133 = .ok (.lload 16, 2) := by decide +kernel
theorem d_k_setTriple_135 : decode prog_1_method_28_code 135 = .ok (.lmul, 1) := by decide +kernel
theorem d_k_setTriple_136 : decode prog_1_method_28_code 136 = .ok (.lsub, 1) := by decide +kernel
theorem d_k_setTriple_137 : decode prog_1_method_28_code 137 = .ok (.lstore 18, 2) := by decide +kernel
theorem d_k_setTriple_139 : decode prog_1_method_28_code 139 = .ok (.lload 4, 2) := by decide +kernel
theorem d_k_setTriple_141 : decode prog_1_method_28_code 141 = .ok (.lload 16, 2) := by decide +kernel
theorem d_k_setTriple_143 : decode prog_1_method_28_code 143 = .ok (.lmul, 1) := by decide +kernel
theorem d_k_setTriple_144 : decode prog_1_method_28_code 144 = .ok (.lload 8, 2) := by decide +kernel
theorem d_k_setTriple_146 : decode prog_1_method_28_code 146 = .ok (.lload 14, 2) := by decide +kernel
theorem d_k_setTriple_148 : decode prog_1_method_28_code 148 = .ok (.lmul, 1) := by decide +kernel
theorem d_k_setTriple_149 : decode prog_1_method_28_code 149 = .ok (.lsub, 1) := by decide +kernel
theorem d_k_setTriple_150 : decode prog_1_method_28_code 150 = .ok (.lstore 20, 2) := by decide +kernel
theorem d_k_setTriple_152 : decode prog_1_method_28_code 152 = .ok (.lload 12, 2) := by decide +kernel
theorem d_k_setTriple_154 : decode prog_1_method_28_code 154 = .ok (.lconst 0, 1) := by decide +kernel
theorem d_k_setTriple_156 : decode prog_1_method_28_code 156 = .ok (.ifCond .ge 18, 3) := by decide +kernel
theorem d_k_setTriple_155 : decode prog_1_method_28_code 155 = .ok (.lcmp, 1) := by decide +kernel
theorem d_k_setTriple_159 : decode prog_1_method_28_code 159 = .ok (.lload 12, 2) := by decide +kernel
theorem d_k_setTriple_161 : decode prog_1_method_28_code 161 = .ok (.lneg, 1) := by decide +kernel
theorem d_k_setTriple_162 : decode prog_1_method_28_code 162 = .ok (.lstore 12, 2) := by decide +kernel
theorem d_k_setTriple_164 : decode prog_1_method_28_code 164 = .ok (.lload 18, 2) := by decide +kernel
theorem d_k_setTriple_166 : decode prog_1_method_28_code 166 = .ok (.lneg, 1) := by decide +kernel
theorem d_k_setTriple_167 : decode prog_1_method_28_code 167 = .ok (.lstore 18, 2) := by decide +kernel
theorem d_k_setTriple_169 : decode prog_1_method_28_code 169 = .ok (.lload 20, 2) := by decide +kernel
theorem d_k_setTriple_171 : decode prog_1_method_28_code 171 = .ok (.lneg, 1) := by decide +kernel
theorem d_k_setTriple_172 : decode prog_1_method_28_code 172 = .ok (.lstore 20, 2) := by decide +kernel
theorem d_k_setTriple_174 : decode prog_1_method_28_code 174 = .ok (.aload_n 0, 1) := by decide +kernel
theorem d_k_setTriple_175 : decode prog_1_method_28_code 175 = .ok (.aload_n 0, 1) := by decide +kernel
theorem d_k_setTriple_176 : decode prog_1_method_28_code 176 = .ok (.getfield 7, 3) := by decide +kernel
theorem d_k_setTriple_179 : decode prog_1_method_28_code 179 = .ok (.iload_n 1, 1) := by decide +kernel
theorem d_k_setTriple_180 : decode prog_1_method_28_code 180 = .ok (.iaload, 1) := by decide +kernel
theorem d_k_setTriple_181 : decode prog_1_method_28_code 181 = .ok (.i2l, 1) := by decide +kernel
theorem d_k_setTriple_182 : decode prog_1_method_28_code 182 = .ok (.lload 12, 2) := by decide +kernel
theorem d_k_setTriple_184 : decode prog_1_method_28_code 184 = .ok (.lmul, 1) := by decide +kernel
theorem d_k_setTriple_185 : decode prog_1_method_28_code 185 = .ok (.lload 18, 2) := by decide +kernel
theorem d_k_setTriple_187 : decode prog_1_method_28_code 187 = .ok (.ladd, 1) := by decide +kernel
theorem d_k_setTriple_188 : decode prog_1_method_28_code 188 = .ok (.putfield 105, 3) := by decide +kernel
theorem d_k_setTriple_191 : decode prog_1_method_28_code 191 = .ok (.aload_n 0, 1) := by decide +kernel
theorem d_k_setTriple_192 : decode prog_1_method_28_code 192 = .ok (.aload_n 0, 1) := by decide +kernel
theorem d_k_setTriple_193 : decode prog_1_method_28_code 193 = .ok (.getfield 13, 3) := by decide +kernel
theorem d_k_setTriple_196 : decode prog_1_method_28_code 196 = .ok (.iload_n 1, 1) := by decide +kernel
theorem d_k_setTriple_197 : decode prog_1_method_28_code 197 = .ok (.iaload, 1) := by decide +kernel
theorem d_k_setTriple_198 : decode prog_1_method_28_code 198 = .ok (.i2l, 1) := by decide +kernel
theorem d_k_setTriple_199 : decode prog_1_method_28_code 199 = .ok (.lload 12, 2) := by decide +kernel
theorem d_k_setTriple_201 : decode prog_1_method_28_code 201 = .ok (.lmul, 1) := by decide +kernel
theorem d_k_setTriple_202 : decode prog_1_method_28_code 202 = .ok (.lload 20, 2) := by decide +kernel
theorem d_k_setTriple_204 : decode prog_1_method_28_code 204 = .ok (.ladd, 1) := by decide +kernel
theorem d_k_setTriple_205 : decode prog_1_method_28_code 205 = .ok (.putfield 108, 3) := by decide +kernel
theorem d_k_setTriple_208 : decode prog_1_method_28_code 208 = .ok (.aload_n 0, 1) := by decide +kernel
theorem d_k_setTriple_209 : decode prog_1_method_28_code 209 = .ok (.lload 12, 2) := by decide +kernel
theorem d_k_setTriple_211 : decode prog_1_method_28_code 211 = .ok (.putfield 38, 3) := by decide +kernel
theorem d_k_setTriple_214 : decode prog_1_method_28_code 214 = .ok (.aload_n 0, 1) := by decide +kernel
theorem d_k_setTriple_215 : decode prog_1_method_28_code 215 = .ok (.lload 18, 2) := by decide +kernel
theorem d_k_setTriple_217 : decode prog_1_method_28_code 217 = .ok (.lload 18, 2) := by decide +kernel
theorem d_k_setTriple_219 : decode prog_1_method_28_code 219 = .ok (.lmul, 1) := by decide +kernel
theorem d_k_setTriple_220 : decode prog_1_method_28_code 220 = .ok (.lload 20, 2) := by decide +kernel
theorem d_k_setTriple_222 : decode prog_1_method_28_code 222 = .ok (.lload 20, 2) := by decide +kernel
theorem d_k_setTriple_224 : decode prog_1_method_28_code 224 = .ok (.lmul, 1) := by decide +kernel
theorem d_k_setTriple_225 : decode prog_1_method_28_code 225 = .ok (.ladd, 1) := by decide +kernel
theorem d_k_setTriple_226 : decode prog_1_method_28_code 226 = .ok (.putfield 111, 3) := by decide +kernel
theorem d_k_setTriple_229 : decode prog_1_method_28_code 229 = .ok (.return_, 1) := by decide +kernel
def R_k_setTriple : Room := { frames := 0, cells := 0, slots := 0, locals := 0 }
abbrev G_k_setTriple (l : Launch) (Z : State) (n0 : Nat) (P : Heap → Prop) := Go l Z D n0 P (⟨"MinCircle", "setTriple", "(III)V"⟩ : MethodName) prog_1_method_28_code 22 none R_k_setTriple
theorem pd_k_setTriple : parseMethodDescriptor "(III)V" = some ⟨[.int, .int, .int], none⟩ := by decide +kernel
theorem d_k_extendTwo_0 : decode prog_1_method_23_code 0 = .ok (.aload_n 0, 1) := by decide +kernel
theorem d_k_extendTwo_1 : decode prog_1_method_23_code 1 = .ok (.getfield 16, 3) := by decide +kernel
theorem d_k_extendTwo_4 : decode prog_1_method_23_code 4 = .ok (.iload_n 1, 1) := by decide +kernel
theorem d_k_extendTwo_5 : decode prog_1_method_23_code 5 = .ok (.iaload, 1) := by decide +kernel
theorem d_k_extendTwo_6 : decode prog_1_method_23_code 6 = .ok (.istore_n 3, 1) := by decide +kernel
theorem d_k_extendTwo_7 : decode prog_1_method_23_code 7 = .ok (.aload_n 0, 1) := by decide +kernel
theorem d_k_extendTwo_8 : decode prog_1_method_23_code 8 = .ok (.getfield 16, 3) := by decide +kernel
theorem d_k_extendTwo_11 : decode prog_1_method_23_code 11 = .ok (.iload_n 2, 1) := by decide +kernel
theorem d_k_extendTwo_12 : decode prog_1_method_23_code 12 = .ok (.iaload, 1) := by decide +kernel
theorem d_k_extendTwo_13 : decode prog_1_method_23_code 13 = .ok (.istore 4, 2) := by decide +kernel
theorem d_k_extendTwo_15 : decode prog_1_method_23_code 15 = .ok (.aload_n 0, 1) := by decide +kernel
theorem d_k_extendTwo_16 : decode prog_1_method_23_code 16 = .ok (.iload_n 3, 1) := by decide +kernel
theorem d_k_extendTwo_17 : decode prog_1_method_23_code 17 = .ok (.iload 4, 2) := by decide +kernel
theorem d_k_extendTwo_19 : decode prog_1_method_23_code 19 = .ok (.invokevirtual 98, 3) := by decide +kernel
theorem d_k_extendTwo_22 : decode prog_1_method_23_code 22 = .ok (.iconst 0, 1) := by decide +kernel
theorem d_k_extendTwo_23 : decode prog_1_method_23_code 23 = .ok (.istore 5, 2) := by decide +kernel
theorem d_k_extendTwo_25 : decode prog_1_method_23_code 25 = .ok (.iload 5, 2) := by decide +kernel
theorem d_k_extendTwo_27 : decode prog_1_method_23_code 27 = .ok (.iload_n 2, 1) := by decide +kernel
theorem d_k_extendTwo_28 : decode prog_1_method_23_code 28 = .ok (.if_icmp .ge 36, 3) := by decide +kernel
theorem d_k_extendTwo_31 : decode prog_1_method_23_code 31 = .ok (.aload_n 0, 1) := by decide +kernel
theorem d_k_extendTwo_32 : decode prog_1_method_23_code 32 = .ok (.getfield 16, 3) := by decide +kernel
theorem d_k_extendTwo_35 : decode prog_1_method_23_code 35 = .ok (.iload 5, 2) := by decide +kernel
theorem d_k_extendTwo_37 : decode prog_1_method_23_code 37 = .ok (.iaload, 1) := by decide +kernel
theorem d_k_extendTwo_38 : decode prog_1_method_23_code 38 = .ok (.istore 6, 2) := by decide +kernel
theorem d_k_extendTwo_40 : decode prog_1_method_23_code 40 = .ok (.aload_n 0, 1) := by decide +kernel
theorem d_k_extendTwo_41 : decode prog_1_method_23_code 41 = .ok (.iload 6, 2) := by decide +kernel
theorem d_k_extendTwo_43 : decode prog_1_method_23_code 43 = .ok (.invokevirtual 87, 3) := by decide +kernel
theorem d_k_extendTwo_46 : decode prog_1_method_23_code 46 = .ok (.ifCond .eq 12, 3) := by decide +kernel
theorem d_k_extendTwo_58 : decode prog_1_method_23_code 58 = .ok (.iinc 5 1, 3) := by decide +kernel
theorem d_k_extendTwo_61 : decode prog_1_method_23_code 61 = .ok (.goto (-36), 3) := by decide +kernel
theorem d_k_extendTwo_49 : decode prog_1_method_23_code 49 = .ok (.aload_n 0, 1) := by decide +kernel
theorem d_k_extendTwo_50 : decode prog_1_method_23_code 50 = .ok (.iload_n 3, 1) := by decide +kernel
theorem d_k_extendTwo_51 : decode prog_1_method_23_code 51 = .ok (.iload 4, 2) := by decide +kernel
theorem d_k_extendTwo_53 : decode prog_1_method_23_code 53 = .ok (.iload 6, 2) := by decide +kernel
theorem d_k_extendTwo_55 : decode prog_1_method_23_code 55 = .ok (.invokevirtual 101, 3) := by decide +kernel
theorem d_k_extendTwo_64 : decode prog_1_method_23_code 64 = .ok (.return_, 1) := by decide +kernel
def R_k_extendTwo : Room := { frames := 1, cells := 0, slots := 0, locals := 33 }
abbrev G_k_extendTwo (l : Launch) (Z : State) (n0 : Nat) (P : Heap → Prop) := Go l Z D n0 P (⟨"MinCircle", "extendTwo", "(II)V"⟩ : MethodName) prog_1_method_23_code 7 none R_k_extendTwo
theorem pd_k_extendTwo : parseMethodDescriptor "(II)V" = some ⟨[.int, .int], none⟩ := by decide +kernel
theorem d_k_extendOne_0 : decode prog_1_method_22_code 0 = .ok (.aload_n 0, 1) := by decide +kernel
theorem d_k_extendOne_1 : decode prog_1_method_22_code 1 = .ok (.aload_n 0, 1) := by decide +kernel
theorem d_k_extendOne_2 : decode prog_1_method_22_code 2 = .ok (.getfield 16, 3) := by decide +kernel
theorem d_k_extendOne_5 : decode prog_1_method_22_code 5 = .ok (.iload_n 1, 1) := by decide +kernel
theorem d_k_extendOne_6 : decode prog_1_method_22_code 6 = .ok (.iaload, 1) := by decide +kernel
theorem d_k_extendOne_7 : decode prog_1_method_22_code 7 = .ok (.invokevirtual 83, 3) := by decide +kernel
theorem d_k_extendOne_10 : decode prog_1_method_22_code 10 = .ok (.iconst 0, 1) := by decide +kernel
theorem d_k_extendOne_11 : decode prog_1_method_22_code 11 = .ok (.istore_n 2, 1) := by decide +kernel
theorem d_k_extendOne_12 : decode prog_1_method_22_code 12 = .ok (.iload_n 2, 1) := by decide +kernel
theorem d_k_extendOne_13 : decode prog_1_method_22_code 13 = .ok (.iload_n 1, 1) := by decide +kernel
theorem d_k_extendOne_14 : decode prog_1_method_22_code 14 = .ok (.if_icmp .ge 28, 3) := by decide +kernel
theorem d_k_extendOne_17 : decode prog_1_method_22_code 17 = .ok (.aload_n 0, 1) := by decide +kernel
theorem d_k_extendOne_18 : decode prog_1_method_22_code 18 = .ok (.aload_n 0, 1) := by decide +kernel
theorem d_k_extendOne_19 : decode prog_1_method_22_code 19 = .ok (.getfield 16, 3) := by decide +kernel
theorem d_k_extendOne_22 : decode prog_1_method_22_code 22 = .ok (.iload_n 2, 1) := by decide +kernel
theorem d_k_extendOne_23 : decode prog_1_method_22_code 23 = .ok (.iaload, 1) := by decide +kernel
theorem d_k_extendOne_24 : decode prog_1_method_22_code 24 = .ok (.invokevirtual 87, 3) := by decide +kernel
theorem d_k_extendOne_27 : decode prog_1_method_22_code 27 = .ok (.ifCond .eq 9, 3) := by decide +kernel
theorem d_k_extendOne_36 : decode prog_1_method_22_code 36 = .ok (.iinc 2 1, 3) := by decide +kernel
theorem d_k_extendOne_39 : decode prog_1_method_22_code 39 = .ok (.goto (-27), 3) := by decide +kernel
theorem d_k_extendOne_30 : decode prog_1_method_22_code 30 = .ok (.aload_n 0, 1) := by decide +kernel
theorem d_k_extendOne_31 : decode prog_1_method_22_code 31 = .ok (.iload_n 1, 1) := by decide +kernel
theorem d_k_extendOne_32 : decode prog_1_method_22_code 32 = .ok (.iload_n 2, 1) := by decide +kernel
theorem d_k_extendOne_33 : decode prog_1_method_22_code 33 = .ok (.invokevirtual 94, 3) := by decide +kernel
theorem d_k_extendOne_42 : decode prog_1_method_22_code 42 = .ok (.return_, 1) := by decide +kernel
def R_k_extendOne : Room := { frames := 2, cells := 0, slots := 0, locals := 51 }
abbrev G_k_extendOne (l : Launch) (Z : State) (n0 : Nat) (P : Heap → Prop) := Go l Z D n0 P (⟨"MinCircle", "extendOne", "(I)V"⟩ : MethodName) prog_1_method_22_code 3 none R_k_extendOne
theorem pd_k_extendOne : parseMethodDescriptor "(I)V" = some ⟨[.int], none⟩ := by decide +kernel
theorem d_k_runIncremental_0 : decode prog_1_method_21_code 0 = .ok (.aload_n 0, 1) := by decide +kernel
theorem d_k_runIncremental_1 : decode prog_1_method_21_code 1 = .ok (.aload_n 0, 1) := by decide +kernel
theorem d_k_runIncremental_2 : decode prog_1_method_21_code 2 = .ok (.getfield 16, 3) := by decide +kernel
theorem d_k_runIncremental_5 : decode prog_1_method_21_code 5 = .ok (.iconst 0, 1) := by decide +kernel
theorem d_k_runIncremental_6 : decode prog_1_method_21_code 6 = .ok (.iaload, 1) := by decide +kernel
theorem d_k_runIncremental_7 : decode prog_1_method_21_code 7 = .ok (.invokevirtual 83, 3) := by decide +kernel
theorem d_k_runIncremental_10 : decode prog_1_method_21_code 10 = .ok (.iconst 1, 1) := by decide +kernel
theorem d_k_runIncremental_11 : decode prog_1_method_21_code 11 = .ok (.istore_n 1, 1) := by decide +kernel
theorem d_k_runIncremental_12 : decode prog_1_method_21_code 12 = .ok (.iload_n 1, 1) := by decide +kernel
theorem d_k_runIncremental_13 : decode prog_1_method_21_code 13 = .ok (.aload_n 0, 1) := by decide +kernel
theorem d_k_runIncremental_14 : decode prog_1_method_21_code 14 = .ok (.getfield 31, 3) := by decide +kernel
theorem d_k_runIncremental_17 : decode prog_1_method_21_code 17 = .ok (.if_icmp .ge 27, 3) := by decide +kernel
theorem d_k_runIncremental_20 : decode prog_1_method_21_code 20 = .ok (.aload_n 0, 1) := by decide +kernel
theorem d_k_runIncremental_21 : decode prog_1_method_21_code 21 = .ok (.aload_n 0, 1) := by decide +kernel
theorem d_k_runIncremental_22 : decode prog_1_method_21_code 22 = .ok (.getfield 16, 3) := by decide +kernel
theorem d_k_runIncremental_25 : decode prog_1_method_21_code 25 = .ok (.iload_n 1, 1) := by decide +kernel
theorem d_k_runIncremental_26 : decode prog_1_method_21_code 26 = .ok (.iaload, 1) := by decide +kernel
theorem d_k_runIncremental_27 : decode prog_1_method_21_code 27 = .ok (.invokevirtual 87, 3) := by decide +kernel
theorem d_k_runIncremental_30 : decode prog_1_method_21_code 30 = .ok (.ifCond .eq 8, 3) := by decide +kernel
theorem d_k_runIncremental_38 : decode prog_1_method_21_code 38 = .ok (.iinc 1 1, 3) := by decide +kernel
theorem d_k_runIncremental_41 : decode prog_1_method_21_code 41 = .ok (.goto (-29), 3) := by decide +kernel
theorem d_k_runIncremental_33 : decode prog_1_method_21_code 33 = .ok (.aload_n 0, 1) := by decide +kernel
theorem d_k_runIncremental_34 : decode prog_1_method_21_code 34 = .ok (.iload_n 1, 1) := by decide +kernel
theorem d_k_runIncremental_35 : decode prog_1_method_21_code 35 = .ok (.invokevirtual 91, 3) := by decide +kernel
theorem d_k_runIncremental_44 : decode prog_1_method_21_code 44 = .ok (.return_, 1) := by decide +kernel
def R_k_runIncremental : Room := { frames := 3, cells := 0, slots := 0, locals := 65 }
abbrev G_k_runIncremental (l : Launch) (Z : State) (n0 : Nat) (P : Heap → Prop) := Go l Z D n0 P (⟨"MinCircle", "runIncremental", "()V"⟩ : MethodName) prog_1_method_21_code 2 none R_k_runIncremental
theorem pd_k_runIncremental : parseMethodDescriptor "()V" = some ⟨[], none⟩ := by decide +kernel
theorem d_k_absL_0 : decode prog_1_method_30_code 0 = .ok (.lload_n 1, 1) := by decide +kernel
theorem d_k_absL_1 : decode prog_1_method_30_code 1 = .ok (.lconst 0, 1) := by decide +kernel
theorem d_k_absL_3 : decode prog_1_method_30_code 3 = .ok (.ifCond .ge 8, 3) := by decide +kernel
theorem d_k_absL_2 : decode prog_1_method_30_code 2 = .ok (.lcmp, 1) := by decide +kernel
theorem d_k_absL_6 : decode prog_1_method_30_code 6 = .ok (.lload_n 1, 1) := by decide +kernel
theorem d_k_absL_7 : decode prog_1_method_30_code 7 = .ok (.lneg, 1) := by decide +kernel
theorem d_k_absL_8 : decode prog_1_method_30_code 8 = .ok (.goto 4, 3) := by decide +kernel
theorem d_k_absL_12 : decode prog_1_method_30_code 12 = .ok (.lreturn, 1) := by decide +kernel
theorem d_k_absL_11 : decode prog_1_method_30_code 11 = .ok (.lload_n 1, 1) := by decide +kernel
def R_k_absL : Room := { frames := 0, cells := 0, slots := 0, locals := 0 }
abbrev G_k_absL (l : Launch) (Z : State) (n0 : Nat) (P : Heap → Prop) := Go l Z D n0 P (⟨"MinCircle", "absL", "(J)J"⟩ : MethodName) prog_1_method_30_code 3 (some .long) R_k_absL
theorem pd_k_absL : parseMethodDescriptor "(J)J" = some ⟨[.long], some .long⟩ := by decide +kernel
theorem d_k_gcd_0 : decode prog_1_method_31_code 0 = .ok (.aload_n 0, 1) := by decide +kernel
theorem d_k_gcd_1 : decode prog_1_method_31_code 1 = .ok (.lload_n 1, 1) := by decide +kernel
theorem d_k_gcd_2 : decode prog_1_method_31_code 2 = .ok (.invokevirtual 122, 3) := by decide +kernel
theorem d_k_gcd_5 : decode prog_1_method_31_code 5 = .ok (.lstore 5, 2) := by decide +kernel
theorem d_k_gcd_7 : decode prog_1_method_31_code 7 = .ok (.aload_n 0, 1) := by decide +kernel
theorem d_k_gcd_8 : decode prog_1_method_31_code 8 = .ok (.lload_n 3, 1) := by decide +kernel
theorem d_k_gcd_9 : decode prog_1_method_31_code 9 = .ok (.invokevirtual 122, 3) := by decide +kernel
theorem d_k_gcd_12 : decode prog_1_method_31_code 12 = .ok (.lstore 7, 2) := by decide +kernel
theorem d_k_gcd_14 : decode prog_1_method_31_code 14 = .ok (.iconst 0, 1) := by decide +kernel
theorem d_k_gcd_15 : decode prog_1_method_31_code 15 = .ok (.istore 9, 2) := by decide +kernel
theorem d_k_gcd_17 : decode prog_1_method_31_code 17 = .ok (.iload 9, 2) := by decide +kernel
theorem d_k_gcd_19 : decode prog_1_method_31_code 19 = .ok (.sipush 200, 3) := by decide +kernel
theorem d_k_gcd_22 : decode prog_1_method_31_code 22 = .ok (.if_icmp .ge 31, 3) := by decide +kernel
theorem d_k_gcd_25 : decode prog_1_method_31_code 25 = .ok (.lload 7, 2) := by decide +kernel
theorem d_k_gcd_27 : decode prog_1_method_31_code 27 = .ok (.lconst 0, 1) := by decide +kernel
theorem d_k_gcd_29 : decode prog_1_method_31_code 29 = .ok (.ifCond .eq 24, 3) := by decide +kernel
theorem d_k_gcd_28 : decode prog_1_method_31_code 28 = .ok (.lcmp, 1) := by decide +kernel
theorem d_k_gcd_32 : decode prog_1_method_31_code 32 = .ok (.lload 5, 2) := by decide +kernel
theorem d_k_gcd_34 : decode prog_1_method_31_code 34 = .ok (.lload 7, 2) := by decide +kernel
theorem d_k_gcd_36 : decode prog_1_method_31_code 36 = .ok (.lrem, 1) := by decide +kernel
theorem d_k_gcd_37 : decode prog_1_method_31_code 37 = .ok (.lstore 10, 2) := by decide +kernel
theorem d_k_gcd_39 : decode prog_1_method_31_code 39 = .ok (.lload 7, 2) := by decide +kernel
theorem d_k_gcd_41 : decode prog_1_method_31_code 41 = .ok (.lstore 5, 2) := by decide +kernel
theorem d_k_gcd_43 : decode prog_1_method_31_code 43 = .ok (.lload 10, 2) := by decide +kernel
theorem d_k_gcd_45 : decode prog_1_method_31_code 45 = .ok (.lstore 7, 2) := by decide +kernel
theorem d_k_gcd_47 : decode prog_1_method_31_code 47 = .ok (.iinc 9 1, 3) := by decide +kernel
theorem d_k_gcd_50 : decode prog_1_method_31_code 50 = .ok (.goto (-33), 3) := by decide +kernel
theorem d_k_gcd_53 : decode prog_1_method_31_code 53 = .ok (.lload 5, 2) := by decide +kernel
theorem d_k_gcd_55 : decode prog_1_method_31_code 55 = .ok (.lreturn, 1) := by decide +kernel
def R_k_gcd : Room := { frames := 1, cells := 0, slots := 0, locals := 14 }
abbrev G_k_gcd (l : Launch) (Z : State) (n0 : Nat) (P : Heap → Prop) := Go l Z D n0 P (⟨"MinCircle", "gcd", "(JJ)J"⟩ : MethodName) prog_1_method_31_code 12 (some .long) R_k_gcd
theorem pd_k_gcd : parseMethodDescriptor "(JJ)J" = some ⟨[.long, .long], some .long⟩ := by decide +kernel
theorem d_k_pwFinal_0 : decode prog_1_method_34_code 0 = .ok (.iload_n 1, 1) := by decide +kernel
theorem d_k_pwFinal_1 : decode prog_1_method_34_code 1 = .ok (.i2l, 1) := by decide +kernel
theorem d_k_pwFinal_2 : decode prog_1_method_34_code 2 = .ok (.aload_n 0, 1) := by decide +kernel
theorem d_k_pwFinal_3 : decode prog_1_method_34_code 3 = .ok (.getfield 64, 3) := by decide +kernel
theorem d_k_pwFinal_6 : decode prog_1_method_34_code 6 = .ok (.lmul, 1) := by decide +kernel
theorem d_k_pwFinal_7 : decode prog_1_method_34_code 7 = .ok (.aload_n 0, 1) := by decide +kernel
theorem d_k_pwFinal_8 : decode prog_1_method_34_code 8 = .ok (.getfield 58, 3) := by decide +kernel
theorem d_k_pwFinal_11 : decode prog_1_method_34_code 11 = .ok (.lsub, 1) := by decide +kernel
theorem d_k_pwFinal_12 : decode prog_1_method_34_code 12 = .ok (.lstore_n 3, 1) := by decide +kernel
theorem d_k_pwFinal_13 : decode prog_1_method_34_code 13 = .ok (.iload_n 2, 1) := by decide +kernel
theorem d_k_pwFinal_14 : decode prog_1_method_34_code 14 = .ok (.i2l, 1) := by decide +kernel
theorem d_k_pwFinal_15 : decode prog_1_method_34_code 15 = .ok (.aload_n 0, 1) := by decide +kernel
theorem d_k_pwFinal_16 : decode prog_1_method_34_code 16 = .ok (.getfield 64, 3) := by decide +kernel
theorem d_k_pwFinal_19 : decode prog_1_method_34_code 19 = .ok (.lmul, 1) := by decide +kernel
theorem d_k_pwFinal_20 : decode prog_1_method_34_code 20 = .ok (.aload_n 0, 1) := by decide +kernel
theorem d_k_pwFinal_21 : decode prog_1_method_34_code 21 = .ok (.getfield 61, 3) := by decide +kernel
theorem d_k_pwFinal_24 : decode prog_1_method_34_code 24 = .ok (.lsub, 1) := by decide +kernel
theorem d_k_pwFinal_25 : decode prog_1_method_34_code 25 = .ok (.lstore 5, 2) := by decide +kernel
theorem d_k_pwFinal_27 : decode prog_1_method_34_code 27 = .ok (.lload_n 3, 1) := by decide +kernel
theorem d_k_pwFinal_28 : decode prog_1_method_34_code 28 = .ok (.lload_n 3, 1) := by decide +kernel
theorem d_k_pwFinal_29 : decode prog_1_method_34_code 29 = .ok (.lmul, 1) := by decide +kernel
theorem d_k_pwFinal_30 : decode prog_1_method_34_code 30 = .ok (.lload 5, 2) := by decide +kernel
theorem d_k_pwFinal_32 : decode prog_1_method_34_code 32 = .ok (.lload 5, 2) := by decide +kernel
theorem d_k_pwFinal_34 : decode prog_1_method_34_code 34 = .ok (.lmul, 1) := by decide +kernel
theorem d_k_pwFinal_35 : decode prog_1_method_34_code 35 = .ok (.ladd, 1) := by decide +kernel
theorem d_k_pwFinal_36 : decode prog_1_method_34_code 36 = .ok (.lreturn, 1) := by decide +kernel
def R_k_pwFinal : Room := { frames := 0, cells := 0, slots := 0, locals := 0 }
abbrev G_k_pwFinal (l : Launch) (Z : State) (n0 : Nat) (P : Heap → Prop) := Go l Z D n0 P (⟨"MinCircle", "pwFinal", "(II)J"⟩ : MethodName) prog_1_method_34_code 7 (some .long) R_k_pwFinal
theorem pd_k_pwFinal : parseMethodDescriptor "(II)J" = some ⟨[.int, .int], some .long⟩ := by decide +kernel
theorem d_k_recordRadius_0 : decode prog_1_method_33_code 0 = .ok (.lconst 0, 1) := by decide +kernel
theorem d_k_recordRadius_1 : decode prog_1_method_33_code 1 = .ok (.lstore_n 1, 1) := by decide +kernel
theorem d_k_recordRadius_2 : decode prog_1_method_33_code 2 = .ok (.iconst 0, 1) := by decide +kernel
theorem d_k_recordRadius_3 : decode prog_1_method_33_code 3 = .ok (.istore_n 3, 1) := by decide +kernel
theorem d_k_recordRadius_4 : decode prog_1_method_33_code 4 = .ok (.iload_n 3, 1) := by decide +kernel
theorem d_k_recordRadius_5 : decode prog_1_method_33_code 5 = .ok (.aload_n 0, 1) := by decide +kernel
theorem d_k_recordRadius_6 : decode prog_1_method_33_code 6 = .ok (.getfield 31, 3) := by decide +kernel
theorem d_k_recordRadius_9 : decode prog_1_method_33_code 9 = .ok (.if_icmp .ge 37, 3) := by decide +kernel
theorem d_k_recordRadius_12 : decode prog_1_method_33_code 12 = .ok (.aload_n 0, 1) := by decide +kernel
theorem d_k_recordRadius_13 : decode prog_1_method_33_code 13 = .ok (.aload_n 0, 1) := by decide +kernel
theorem d_k_recordRadius_14 : decode prog_1_method_33_code 14 = .ok (.getfield 7, 3) := by decide +kernel
theorem d_k_recordRadius_17 : decode prog_1_method_33_code 17 = .ok (.iload_n 3, 1) := by decide +kernel
theorem d_k_recordRadius_18 : decode prog_1_method_33_code 18 = .ok (.iaload, 1) := by decide +kernel
theorem d_k_recordRadius_19 : decode prog_1_method_33_code 19 = .ok (.aload_n 0, 1) := by decide +kernel
theorem d_k_recordRadius_20 : decode prog_1_method_33_code 20 = .ok (.getfield 13, 3) := by decide +kernel
theorem d_k_recordRadius_23 : decode prog_1_method_33_code 23 = .ok (.iload_n 3, 1) := by decide +kernel
theorem d_k_recordRadius_24 : decode prog_1_method_33_code 24 = .ok (.iaload, 1) := by decide +kernel
theorem d_k_recordRadius_25 : decode prog_1_method_33_code 25 = .ok (.invokevirtual 73, 3) := by decide +kernel
theorem d_k_recordRadius_28 : decode prog_1_method_33_code 28 = .ok (.lstore 4, 2) := by decide +kernel
theorem d_k_recordRadius_30 : decode prog_1_method_33_code 30 = .ok (.lload 4, 2) := by decide +kernel
theorem d_k_recordRadius_32 : decode prog_1_method_33_code 32 = .ok (.lload_n 1, 1) := by decide +kernel
theorem d_k_recordRadius_34 : decode prog_1_method_33_code 34 = .ok (.ifCond .le 6, 3) := by decide +kernel
theorem d_k_recordRadius_33 : decode prog_1_method_33_code 33 = .ok (.lcmp, 1) := by decide +kernel
theorem d_k_recordRadius_40 : decode prog_1_method_33_code 40 = .ok (.iinc 3 1, 3) := by decide +kernel
theorem d_k_recordRadius_43 : decode prog_1_method_33_code 43 = .ok (.goto (-39), 3) := by decide +kernel
theorem d_k_recordRadius_37 : decode prog_1_method_33_code 37 = .ok (.lload 4, 2) := by decide +kernel
theorem d_k_recordRadius_39 : decode prog_1_method_33_code 39 = .ok (.lstore_n 1, 1) := by decide +kernel
theorem d_k_recordRadius_46 : decode prog_1_method_33_code 46 = .ok (.aload_n 0, 1) := by decide +kernel
theorem d_k_recordRadius_47 : decode prog_1_method_33_code 47 = .ok (.lload_n 1, 1) := by decide +kernel
theorem d_k_recordRadius_48 : decode prog_1_method_33_code 48 = .ok (.putfield 67, 3) := by decide +kernel
theorem d_k_recordRadius_51 : decode prog_1_method_33_code 51 = .ok (.iconst 0, 1) := by decide +kernel
theorem d_k_recordRadius_52 : decode prog_1_method_33_code 52 = .ok (.istore_n 3, 1) := by decide +kernel
theorem d_k_recordRadius_53 : decode prog_1_method_33_code 53 = .ok (.iconst 0, 1) := by decide +kernel
theorem d_k_recordRadius_54 : decode prog_1_method_33_code 54 = .ok (.istore 4, 2) := by decide +kernel
theorem d_k_recordRadius_56 : decode prog_1_method_33_code 56 = .ok (.iload 4, 2) := by decide +kernel
theorem d_k_recordRadius_58 : decode prog_1_method_33_code 58 = .ok (.aload_n 0, 1) := by decide +kernel
theorem d_k_recordRadius_59 : decode prog_1_method_33_code 59 = .ok (.getfield 31, 3) := by decide +kernel
theorem d_k_recordRadius_62 : decode prog_1_method_33_code 62 = .ok (.if_icmp .ge 56, 3) := by decide +kernel
theorem d_k_recordRadius_65 : decode prog_1_method_33_code 65 = .ok (.aload_n 0, 1) := by decide +kernel
theorem d_k_recordRadius_66 : decode prog_1_method_33_code 66 = .ok (.aload_n 0, 1) := by decide +kernel
theorem d_k_recordRadius_67 : decode prog_1_method_33_code 67 = .ok (.getfield 7, 3) := by decide +kernel
theorem d_k_recordRadius_70 : decode prog_1_method_33_code 70 = .ok (.iload 4, 2) := by decide +kernel
theorem d_k_recordRadius_72 : decode prog_1_method_33_code 72 = .ok (.iaload, 1) := by decide +kernel
theorem d_k_recordRadius_73 : decode prog_1_method_33_code 73 = .ok (.aload_n 0, 1) := by decide +kernel
theorem d_k_recordRadius_74 : decode prog_1_method_33_code 74 = .ok (.getfield 13, 3) := by decide +kernel
theorem d_k_recordRadius_77 : decode prog_1_method_33_code 77 = .ok (.iload 4, 2) := by decide +kernel
theorem d_k_recordRadius_79 : decode prog_1_method_33_code 79 = .ok (.iaload, 1) := by decide +kernel
theorem d_k_recordRadius_80 : decode prog_1_method_33_code 80 = .ok (.invokevirtual 73, 3) := by decide +kernel
theorem d_k_recordRadius_83 : decode prog_1_method_33_code 83 = .ok (.lload_n 1, 1) := by decide +kernel
theorem d_k_recordRadius_85 : decode prog_1_method_33_code 85 = .ok (.ifCond .ne 7, 3) := by decide +kernel
theorem d_k_recordRadius_84 : decode prog_1_method_33_code 84 = .ok (.lcmp, 1) := by decide +kernel
theorem d_k_recordRadius_88 : decode prog_1_method_33_code 88 = .ok (.iconst 1, 1) := by decide +kernel
theorem d_k_recordRadius_89 : decode prog_1_method_33_code 89 = .ok (.goto 4, 3) := by decide +kernel
theorem d_k_recordRadius_93 : decode prog_1_method_33_code 93 = .ok (.istore 5, 2) := by decide +kernel
theorem d_k_recordRadius_95 : decode prog_1_method_33_code 95 = .ok (.aload_n 0, 1) := by decide +kernel
theorem d_k_recordRadius_96 : decode prog_1_method_33_code 96 = .ok (.getfield 19, 3) := by decide +kernel
theorem d_k_recordRadius_99 : decode prog_1_method_33_code 99 = .ok (.iload 4, 2) := by decide +kernel
theorem d_k_recordRadius_101 : decode prog_1_method_33_code 101 = .ok (.iload 5, 2) := by decide +kernel
theorem d_k_recordRadius_103 : decode prog_1_method_33_code 103 = .ok (.bastore, 1) := by decide +kernel
theorem d_k_recordRadius_104 : decode prog_1_method_33_code 104 = .ok (.iload 5, 2) := by decide +kernel
theorem d_k_recordRadius_106 : decode prog_1_method_33_code 106 = .ok (.ifCond .eq 6, 3) := by decide +kernel
theorem d_k_recordRadius_112 : decode prog_1_method_33_code 112 = .ok (.iinc 4 1, 3) := by decide +kernel
theorem d_k_recordRadius_115 : decode prog_1_method_33_code 115 = .ok (.goto (-59), 3) := by decide +kernel
theorem d_k_recordRadius_109 : decode prog_1_method_33_code 109 = .ok (.iinc 3 1, 3) := by decide +kernel
theorem d_k_recordRadius_92 : decode prog_1_method_33_code 92 = .ok (.iconst 0, 1) := by decide +kernel
theorem d_k_recordRadius_118 : decode prog_1_method_33_code 118 = .ok (.aload_n 0, 1) := by decide +kernel
theorem d_k_recordRadius_119 : decode prog_1_method_33_code 119 = .ok (.iload_n 3, 1) := by decide +kernel
theorem d_k_recordRadius_120 : decode prog_1_method_33_code 120 = .ok (.putfield 46, 3) := by decide +kernel
theorem d_k_recordRadius_123 : decode prog_1_method_33_code 123 = .ok (.return_, 1) := by decide +kernel
def R_k_recordRadius : Room := { frames := 1, cells := 0, slots := 0, locals := 18 }
abbrev G_k_recordRadius (l : Launch) (Z : State) (n0 : Nat) (P : Heap → Prop) := Go l Z D n0 P (⟨"MinCircle", "recordRadius", "()V"⟩ : MethodName) prog_1_method_33_code 6 none R_k_recordRadius
theorem pd_k_recordRadius : parseMethodDescriptor "()V" = some ⟨[], none⟩ := by decide +kernel
theorem d_k_computeKind_0 : decode prog_1_method_35_code 0 = .ok (.aload_n 0, 1) := by decide +kernel
theorem d_k_computeKind_1 : decode prog_1_method_35_code 1 = .ok (.getfield 67, 3) := by decide +kernel
theorem d_k_computeKind_4 : decode prog_1_method_35_code 4 = .ok (.lconst 0, 1) := by decide +kernel
theorem d_k_computeKind_6 : decode prog_1_method_35_code 6 = .ok (.ifCond .ne 5, 3) := by decide +kernel
theorem d_k_computeKind_5 : decode prog_1_method_35_code 5 = .ok (.lcmp, 1) := by decide +kernel
theorem d_k_computeKind_9 : decode prog_1_method_35_code 9 = .ok (.iconst 1, 1) := by decide +kernel
theorem d_k_computeKind_10 : decode prog_1_method_35_code 10 = .ok (.ireturn, 1) := by decide +kernel
theorem d_k_computeKind_11 : decode prog_1_method_35_code 11 = .ok (.ldc2_w 114, 3) := by decide +kernel
theorem d_k_computeKind_14 : decode prog_1_method_35_code 14 = .ok (.aload_n 0, 1) := by decide +kernel
theorem d_k_computeKind_15 : decode prog_1_method_35_code 15 = .ok (.getfield 58, 3) := by decide +kernel
theorem d_k_computeKind_18 : decode prog_1_method_35_code 18 = .ok (.lmul, 1) := by decide +kernel
theorem d_k_computeKind_19 : decode prog_1_method_35_code 19 = .ok (.lstore_n 1, 1) := by decide +kernel
theorem d_k_computeKind_20 : decode prog_1_method_35_code 20 = .ok (.ldc2_w 114, 3) := by decide +kernel
theorem d_k_computeKind_23 : decode prog_1_method_35_code 23 = .ok (.aload_n 0, 1) := by decide +kernel
theorem d_k_computeKind_24 : decode prog_1_method_35_code 24 = .ok (.getfield 61, 3) := by decide +kernel
theorem d_k_computeKind_27 : decode prog_1_method_35_code 27 = .ok (.lmul, 1) := by decide +kernel
theorem d_k_computeKind_28 : decode prog_1_method_35_code 28 = .ok (.lstore_n 3, 1) := by decide +kernel
theorem d_k_computeKind_29 : decode prog_1_method_35_code 29 = .ok (.iconst 0, 1) := by decide +kernel
theorem d_k_computeKind_30 : decode prog_1_method_35_code 30 = .ok (.istore 5, 2) := by decide +kernel
theorem d_k_computeKind_32 : decode prog_1_method_35_code 32 = .ok (.iload 5, 2) := by decide +kernel
theorem d_k_computeKind_34 : decode prog_1_method_35_code 34 = .ok (.aload_n 0, 1) := by decide +kernel
theorem d_k_computeKind_35 : decode prog_1_method_35_code 35 = .ok (.getfield 31, 3) := by decide +kernel
theorem d_k_computeKind_38 : decode prog_1_method_35_code 38 = .ok (.if_icmp .ge 94, 3) := by decide +kernel
theorem d_k_computeKind_41 : decode prog_1_method_35_code 41 = .ok (.iload 5, 2) := by decide +kernel
theorem d_k_computeKind_43 : decode prog_1_method_35_code 43 = .ok (.iconst 1, 1) := by decide +kernel
theorem d_k_computeKind_44 : decode prog_1_method_35_code 44 = .ok (.iadd, 1) := by decide +kernel
theorem d_k_computeKind_45 : decode prog_1_method_35_code 45 = .ok (.istore 6, 2) := by decide +kernel
theorem d_k_computeKind_47 : decode prog_1_method_35_code 47 = .ok (.iload 6, 2) := by decide +kernel
theorem d_k_computeKind_49 : decode prog_1_method_35_code 49 = .ok (.aload_n 0, 1) := by decide +kernel
theorem d_k_computeKind_50 : decode prog_1_method_35_code 50 = .ok (.getfield 31, 3) := by decide +kernel
theorem d_k_computeKind_53 : decode prog_1_method_35_code 53 = .ok (.if_icmp .ge 73, 3) := by decide +kernel
theorem d_k_computeKind_56 : decode prog_1_method_35_code 56 = .ok (.aload_n 0, 1) := by decide +kernel
theorem d_k_computeKind_57 : decode prog_1_method_35_code 57 = .ok (.getfield 7, 3) := by decide +kernel
theorem d_k_computeKind_60 : decode prog_1_method_35_code 60 = .ok (.iload 5, 2) := by decide +kernel
theorem d_k_computeKind_62 : decode prog_1_method_35_code 62 = .ok (.iaload, 1) := by decide +kernel
theorem d_k_computeKind_63 : decode prog_1_method_35_code 63 = .ok (.i2l, 1) := by decide +kernel
theorem d_k_computeKind_64 : decode prog_1_method_35_code 64 = .ok (.aload_n 0, 1) := by decide +kernel
theorem d_k_computeKind_65 : decode prog_1_method_35_code 65 = .ok (.getfield 7, 3) := by decide +kernel
theorem d_k_computeKind_68 : decode prog_1_method_35_code 68 = .ok (.iload 6, 2) := by decide +kernel
theorem d_k_computeKind_70 : decode prog_1_method_35_code 70 = .ok (.iaload, 1) := by decide +kernel
theorem d_k_computeKind_71 : decode prog_1_method_35_code 71 = .ok (.i2l, 1) := by decide +kernel
theorem d_k_computeKind_72 : decode prog_1_method_35_code 72 = .ok (.ladd, 1) := by decide +kernel
theorem d_k_computeKind_73 : decode prog_1_method_35_code 73 = .ok (.aload_n 0, 1) := by decide +kernel
theorem d_k_computeKind_74 : decode prog_1_method_35_code 74 = .ok (.getfield 64, 3) := by decide +kernel
theorem d_k_computeKind_77 : decode prog_1_method_35_code 77 = .ok (.lmul, 1) := by decide +kernel
theorem d_k_computeKind_78 : decode prog_1_method_35_code 78 = .ok (.lstore 7, 2) := by decide +kernel
theorem d_k_computeKind_80 : decode prog_1_method_35_code 80 = .ok (.aload_n 0, 1) := by decide +kernel
theorem d_k_computeKind_81 : decode prog_1_method_35_code 81 = .ok (.getfield 13, 3) := by decide +kernel
theorem d_k_computeKind_84 : decode prog_1_method_35_code 84 = .ok (.iload 5, 2) := by decide +kernel
theorem d_k_computeKind_86 : decode prog_1_method_35_code 86 = .ok (.iaload, 1) := by decide +kernel
theorem d_k_computeKind_87 : decode prog_1_method_35_code 87 = .ok (.i2l, 1) := by decide +kernel
theorem d_k_computeKind_88 : decode prog_1_method_35_code 88 = .ok (.aload_n 0, 1) := by decide +kernel
theorem d_k_computeKind_89 : decode prog_1_method_35_code 89 = .ok (.getfield 13, 3) := by decide +kernel
theorem d_k_computeKind_92 : decode prog_1_method_35_code 92 = .ok (.iload 6, 2) := by decide +kernel
theorem d_k_computeKind_94 : decode prog_1_method_35_code 94 = .ok (.iaload, 1) := by decide +kernel
theorem d_k_computeKind_95 : decode prog_1_method_35_code 95 = .ok (.i2l, 1) := by decide +kernel
theorem d_k_computeKind_96 : decode prog_1_method_35_code 96 = .ok (.ladd, 1) := by decide +kernel
theorem d_k_computeKind_97 : decode prog_1_method_35_code 97 = .ok (.aload_n 0, 1) := by decide +kernel
theorem d_k_computeKind_98 : decode prog_1_method_35_code 98 = .ok (.getfield 64, 3) := by decide +kernel
theorem d_k_computeKind_101 : decode prog_1_method_35_code 101 = .ok (.lmul, 1) := by decide +kernel
theorem d_k_computeKind_102 : decode prog_1_method_35_code 102 = .ok (.lstore 9, 2) := by decide +kernel
theorem d_k_computeKind_104 : decode prog_1_method_35_code 104 = .ok (.lload 7, 2) := by decide +kernel
theorem d_k_computeKind_106 : decode prog_1_method_35_code 106 = .ok (.lload_n 1, 1) := by decide +kernel
theorem d_k_computeKind_108 : decode prog_1_method_35_code 108 = .ok (.ifCond .ne 12, 3) := by decide +kernel
theorem d_k_computeKind_107 : decode prog_1_method_35_code 107 = .ok (.lcmp, 1) := by decide +kernel
theorem d_k_computeKind_111 : decode prog_1_method_35_code 111 = .ok (.lload 9, 2) := by decide +kernel
theorem d_k_computeKind_113 : decode prog_1_method_35_code 113 = .ok (.lload_n 3, 1) := by decide +kernel
theorem d_k_computeKind_115 : decode prog_1_method_35_code 115 = .ok (.ifCond .ne 5, 3) := by decide +kernel
theorem d_k_computeKind_114 : decode prog_1_method_35_code 114 = .ok (.lcmp, 1) := by decide +kernel
theorem d_k_computeKind_118 : decode prog_1_method_35_code 118 = .ok (.iconst 2, 1) := by decide +kernel
theorem d_k_computeKind_119 : decode prog_1_method_35_code 119 = .ok (.ireturn, 1) := by decide +kernel
theorem d_k_computeKind_120 : decode prog_1_method_35_code 120 = .ok (.iinc 6 1, 3) := by decide +kernel
theorem d_k_computeKind_123 : decode prog_1_method_35_code 123 = .ok (.goto (-76), 3) := by decide +kernel
theorem d_k_computeKind_126 : decode prog_1_method_35_code 126 = .ok (.iinc 5 1, 3) := by decide +kernel
theorem d_k_computeKind_129 : decode prog_1_method_35_code 129 = .ok (.goto (-97), 3) := by decide +kernel
theorem d_k_computeKind_132 : decode prog_1_method_35_code 132 = .ok (.iconst 3, 1) := by decide +kernel
theorem d_k_computeKind_133 : decode prog_1_method_35_code 133 = .ok (.ireturn, 1) := by decide +kernel
def R_k_computeKind : Room := { frames := 0, cells := 0, slots := 0, locals := 0 }
abbrev G_k_computeKind (l : Launch) (Z : State) (n0 : Nat) (P : Heap → Prop) := Go l Z D n0 P (⟨"MinCircle", "computeKind", "()I"⟩ : MethodName) prog_1_method_35_code 11 (some .int) R_k_computeKind
theorem pd_k_computeKind : parseMethodDescriptor "()I" = some ⟨[], some .int⟩ := by decide +kernel
theorem d_k_finishDisk_0 : decode prog_1_method_32_code 0 = .ok (.aload_n 0, 1) := by decide +kernel
theorem d_k_finishDisk_1 : decode prog_1_method_32_code 1 = .ok (.aload_n 0, 1) := by decide +kernel
theorem d_k_finishDisk_2 : decode prog_1_method_32_code 2 = .ok (.getfield 105, 3) := by decide +kernel
theorem d_k_finishDisk_5 : decode prog_1_method_32_code 5 = .ok (.aload_n 0, 1) := by decide +kernel
theorem d_k_finishDisk_6 : decode prog_1_method_32_code 6 = .ok (.getfield 108, 3) := by decide +kernel
theorem d_k_finishDisk_9 : decode prog_1_method_32_code 9 = .ok (.invokevirtual 126, 3) := by decide +kernel
theorem d_k_finishDisk_12 : decode prog_1_method_32_code 12 = .ok (.lstore_n 1, 1) := by decide +kernel
theorem d_k_finishDisk_13 : decode prog_1_method_32_code 13 = .ok (.aload_n 0, 1) := by decide +kernel
theorem d_k_finishDisk_14 : decode prog_1_method_32_code 14 = .ok (.lload_n 1, 1) := by decide +kernel
theorem d_k_finishDisk_15 : decode prog_1_method_32_code 15 = .ok (.aload_n 0, 1) := by decide +kernel
theorem d_k_finishDisk_16 : decode prog_1_method_32_code 16 = .ok (.getfield 38, 3) := by decide +kernel
theorem d_k_finishDisk_19 : decode prog_1_method_32_code 19 = .ok (.invokevirtual 126, 3) := by decide +kernel
theorem d_k_finishDisk_22 : decode prog_1_method_32_code 22 = .ok (.lstore_n 3, 1) := by decide +kernel
theorem d_k_finishDisk_23 : decode prog_1_method_32_code 23 = .ok (.lload_n 3, 1) := by decide +kernel
theorem d_k_finishDisk_24 : decode prog_1_method_32_code 24 = .ok (.lconst 0, 1) := by decide +kernel
theorem d_k_finishDisk_26 : decode prog_1_method_32_code 26 = .ok (.ifCond .gt 5, 3) := by decide +kernel
theorem d_k_finishDisk_25 : decode prog_1_method_32_code 25 = .ok (.lcmp, 1) := by decide +kernel
theorem d_k_finishDisk_31 : decode prog_1_method_32_code 31 = .ok (.aload_n 0, 1) := by decide +kernel
theorem d_k_finishDisk_32 : decode prog_1_method_32_code 32 = .ok (.aload_n 0, 1) := by decide +kernel
theorem d_k_finishDisk_33 : decode prog_1_method_32_code 33 = .ok (.getfield 38, 3) := by decide +kernel
theorem d_k_finishDisk_36 : decode prog_1_method_32_code 36 = .ok (.lload_n 3, 1) := by decide +kernel
theorem d_k_finishDisk_37 : decode prog_1_method_32_code 37 = .ok (.ldiv, 1) := by decide +kernel
theorem d_k_finishDisk_38 : decode prog_1_method_32_code 38 = .ok (.putfield 64, 3) := by decide +kernel
theorem d_k_finishDisk_41 : decode prog_1_method_32_code 41 = .ok (.aload_n 0, 1) := by decide +kernel
theorem d_k_finishDisk_42 : decode prog_1_method_32_code 42 = .ok (.getfield 64, 3) := by decide +kernel
theorem d_k_finishDisk_45 : decode prog_1_method_32_code 45 = .ok (.lconst 0, 1) := by decide +kernel
theorem d_k_finishDisk_47 : decode prog_1_method_32_code 47 = .ok (.ifCond .gt 8, 3) := by decide +kernel
theorem d_k_finishDisk_46 : decode prog_1_method_32_code 46 = .ok (.lcmp, 1) := by decide +kernel
theorem d_k_finishDisk_55 : decode prog_1_method_32_code 55 = .ok (.aload_n 0, 1) := by decide +kernel
theorem d_k_finishDisk_56 : decode prog_1_method_32_code 56 = .ok (.aload_n 0, 1) := by decide +kernel
theorem d_k_finishDisk_57 : decode prog_1_method_32_code 57 = .ok (.getfield 105, 3) := by decide +kernel
theorem d_k_finishDisk_60 : decode prog_1_method_32_code 60 = .ok (.lload_n 3, 1) := by decide +kernel
theorem d_k_finishDisk_61 : decode prog_1_method_32_code 61 = .ok (.ldiv, 1) := by decide +kernel
theorem d_k_finishDisk_62 : decode prog_1_method_32_code 62 = .ok (.putfield 58, 3) := by decide +kernel
theorem d_k_finishDisk_65 : decode prog_1_method_32_code 65 = .ok (.aload_n 0, 1) := by decide +kernel
theorem d_k_finishDisk_66 : decode prog_1_method_32_code 66 = .ok (.aload_n 0, 1) := by decide +kernel
theorem d_k_finishDisk_67 : decode prog_1_method_32_code 67 = .ok (.getfield 108, 3) := by decide +kernel
theorem d_k_finishDisk_70 : decode prog_1_method_32_code 70 = .ok (.lload_n 3, 1) := by decide +kernel
theorem d_k_finishDisk_71 : decode prog_1_method_32_code 71 = .ok (.ldiv, 1) := by decide +kernel
theorem d_k_finishDisk_72 : decode prog_1_method_32_code 72 = .ok (.putfield 61, 3) := by decide +kernel
theorem d_k_finishDisk_75 : decode prog_1_method_32_code 75 = .ok (.aload_n 0, 1) := by decide +kernel
theorem d_k_finishDisk_76 : decode prog_1_method_32_code 76 = .ok (.invokevirtual 130, 3) := by decide +kernel
theorem d_k_finishDisk_79 : decode prog_1_method_32_code 79 = .ok (.aload_n 0, 1) := by decide +kernel
theorem d_k_finishDisk_80 : decode prog_1_method_32_code 80 = .ok (.aload_n 0, 1) := by decide +kernel
theorem d_k_finishDisk_81 : decode prog_1_method_32_code 81 = .ok (.invokevirtual 133, 3) := by decide +kernel
theorem d_k_finishDisk_84 : decode prog_1_method_32_code 84 = .ok (.putfield 70, 3) := by decide +kernel
theorem d_k_finishDisk_87 : decode prog_1_method_32_code 87 = .ok (.return_, 1) := by decide +kernel
theorem d_k_finishDisk_50 : decode prog_1_method_32_code 50 = .ok (.aload_n 0, 1) := by decide +kernel
theorem d_k_finishDisk_51 : decode prog_1_method_32_code 51 = .ok (.lconst 1, 1) := by decide +kernel
theorem d_k_finishDisk_52 : decode prog_1_method_32_code 52 = .ok (.putfield 64, 3) := by decide +kernel
theorem d_k_finishDisk_29 : decode prog_1_method_32_code 29 = .ok (.lconst 1, 1) := by decide +kernel
theorem d_k_finishDisk_30 : decode prog_1_method_32_code 30 = .ok (.lstore_n 3, 1) := by decide +kernel
def R_k_finishDisk : Room := { frames := 2, cells := 0, slots := 0, locals := 37 }
abbrev G_k_finishDisk (l : Launch) (Z : State) (n0 : Nat) (P : Heap → Prop) := Go l Z D n0 P (⟨"MinCircle", "finishDisk", "()V"⟩ : MethodName) prog_1_method_32_code 5 none R_k_finishDisk
theorem pd_k_finishDisk : parseMethodDescriptor "()V" = some ⟨[], none⟩ := by decide +kernel
theorem d_k_solve_0 : decode prog_1_method_5_code 0 = .ok (.aload_n 0, 1) := by decide +kernel
theorem d_k_solve_1 : decode prog_1_method_5_code 1 = .ok (.getfield 31, 3) := by decide +kernel
theorem d_k_solve_4 : decode prog_1_method_5_code 4 = .ok (.ifCond .gt 5, 3) := by decide +kernel
theorem d_k_solve_9 : decode prog_1_method_5_code 9 = .ok (.aload_n 0, 1) := by decide +kernel
theorem d_k_solve_10 : decode prog_1_method_5_code 10 = .ok (.getfield 34, 3) := by decide +kernel
theorem d_k_solve_13 : decode prog_1_method_5_code 13 = .ok (.ifCond .eq 8, 3) := by decide +kernel
theorem d_k_solve_21 : decode prog_1_method_5_code 21 = .ok (.aload_n 0, 1) := by decide +kernel
theorem d_k_solve_22 : decode prog_1_method_5_code 22 = .ok (.invokevirtual 49, 3) := by decide +kernel
theorem d_k_solve_25 : decode prog_1_method_5_code 25 = .ok (.aload_n 0, 1) := by decide +kernel
theorem d_k_solve_26 : decode prog_1_method_5_code 26 = .ok (.invokevirtual 52, 3) := by decide +kernel
theorem d_k_solve_29 : decode prog_1_method_5_code 29 = .ok (.aload_n 0, 1) := by decide +kernel
theorem d_k_solve_30 : decode prog_1_method_5_code 30 = .ok (.invokevirtual 55, 3) := by decide +kernel
theorem d_k_solve_33 : decode prog_1_method_5_code 33 = .ok (.aload_n 0, 1) := by decide +kernel
theorem d_k_solve_34 : decode prog_1_method_5_code 34 = .ok (.iconst 1, 1) := by decide +kernel
theorem d_k_solve_35 : decode prog_1_method_5_code 35 = .ok (.putfield 34, 3) := by decide +kernel
theorem d_k_solve_38 : decode prog_1_method_5_code 38 = .ok (.aload_n 0, 1) := by decide +kernel
theorem d_k_solve_39 : decode prog_1_method_5_code 39 = .ok (.getfield 46, 3) := by decide +kernel
theorem d_k_solve_42 : decode prog_1_method_5_code 42 = .ok (.ireturn, 1) := by decide +kernel
theorem d_k_solve_16 : decode prog_1_method_5_code 16 = .ok (.aload_n 0, 1) := by decide +kernel
theorem d_k_solve_17 : decode prog_1_method_5_code 17 = .ok (.getfield 46, 3) := by decide +kernel
theorem d_k_solve_20 : decode prog_1_method_5_code 20 = .ok (.ireturn, 1) := by decide +kernel
theorem d_k_solve_7 : decode prog_1_method_5_code 7 = .ok (.iconst (-1), 1) := by decide +kernel
theorem d_k_solve_8 : decode prog_1_method_5_code 8 = .ok (.ireturn, 1) := by decide +kernel
def R_k_solve : Room := { frames := 4, cells := 0, slots := 0, locals := 78 }
abbrev G_k_solve (l : Launch) (Z : State) (n0 : Nat) (P : Heap → Prop) := Go l Z D n0 P (⟨"MinCircle", "solve", "()I"⟩ : MethodName) prog_1_method_5_code 1 (some .int) R_k_solve
theorem pd_k_solve : parseMethodDescriptor "()I" = some ⟨[], some .int⟩ := by decide +kernel
theorem d_k_removeLast_0 : decode prog_1_method_3_code 0 = .ok (.aload_n 0, 1) := by decide +kernel
theorem d_k_removeLast_1 : decode prog_1_method_3_code 1 = .ok (.getfield 31, 3) := by decide +kernel
theorem d_k_removeLast_4 : decode prog_1_method_3_code 4 = .ok (.ifCond .gt 5, 3) := by decide +kernel
theorem d_k_removeLast_9 : decode prog_1_method_3_code 9 = .ok (.aload_n 0, 1) := by decide +kernel
theorem d_k_removeLast_10 : decode prog_1_method_3_code 10 = .ok (.aload_n 0, 1) := by decide +kernel
theorem d_k_removeLast_11 : decode prog_1_method_3_code 11 = .ok (.getfield 31, 3) := by decide +kernel
theorem d_k_removeLast_14 : decode prog_1_method_3_code 14 = .ok (.iconst 1, 1) := by decide +kernel
theorem d_k_removeLast_15 : decode prog_1_method_3_code 15 = .ok (.isub, 1) := by decide +kernel
theorem d_k_removeLast_16 : decode prog_1_method_3_code 16 = .ok (.putfield 31, 3) := by decide +kernel
theorem d_k_removeLast_19 : decode prog_1_method_3_code 19 = .ok (.aload_n 0, 1) := by decide +kernel
theorem d_k_removeLast_20 : decode prog_1_method_3_code 20 = .ok (.iconst 0, 1) := by decide +kernel
theorem d_k_removeLast_21 : decode prog_1_method_3_code 21 = .ok (.putfield 34, 3) := by decide +kernel
theorem d_k_removeLast_24 : decode prog_1_method_3_code 24 = .ok (.iconst 1, 1) := by decide +kernel
theorem d_k_removeLast_25 : decode prog_1_method_3_code 25 = .ok (.ireturn, 1) := by decide +kernel
theorem d_k_removeLast_7 : decode prog_1_method_3_code 7 = .ok (.iconst 0, 1) := by decide +kernel
theorem d_k_removeLast_8 : decode prog_1_method_3_code 8 = .ok (.ireturn, 1) := by decide +kernel
def R_k_removeLast : Room := { frames := 0, cells := 0, slots := 0, locals := 0 }
abbrev G_k_removeLast (l : Launch) (Z : State) (n0 : Nat) (P : Heap → Prop) := Go l Z D n0 P (⟨"MinCircle", "removeLast", "()Z"⟩ : MethodName) prog_1_method_3_code 1 (some .boolean) R_k_removeLast
theorem pd_k_removeLast : parseMethodDescriptor "()Z" = some ⟨[], some .boolean⟩ := by decide +kernel
theorem d_k_clear_0 : decode prog_1_method_4_code 0 = .ok (.aload_n 0, 1) := by decide +kernel
theorem d_k_clear_1 : decode prog_1_method_4_code 1 = .ok (.iconst 0, 1) := by decide +kernel
theorem d_k_clear_2 : decode prog_1_method_4_code 2 = .ok (.putfield 31, 3) := by decide +kernel
theorem d_k_clear_5 : decode prog_1_method_4_code 5 = .ok (.aload_n 0, 1) := by decide +kernel
theorem d_k_clear_6 : decode prog_1_method_4_code 6 = .ok (.iconst 0, 1) := by decide +kernel
theorem d_k_clear_7 : decode prog_1_method_4_code 7 = .ok (.putfield 34, 3) := by decide +kernel
theorem d_k_clear_10 : decode prog_1_method_4_code 10 = .ok (.return_, 1) := by decide +kernel
def R_k_clear : Room := { frames := 0, cells := 0, slots := 0, locals := 0 }
abbrev G_k_clear (l : Launch) (Z : State) (n0 : Nat) (P : Heap → Prop) := Go l Z D n0 P (⟨"MinCircle", "clear", "()V"⟩ : MethodName) prog_1_method_4_code 1 none R_k_clear
theorem pd_k_clear : parseMethodDescriptor "()V" = some ⟨[], none⟩ := by decide +kernel
theorem d_k_isSolved_0 : decode prog_1_method_9_code 0 = .ok (.aload_n 0, 1) := by decide +kernel
theorem d_k_isSolved_1 : decode prog_1_method_9_code 1 = .ok (.getfield 34, 3) := by decide +kernel
theorem d_k_isSolved_4 : decode prog_1_method_9_code 4 = .ok (.ireturn, 1) := by decide +kernel
def R_k_isSolved : Room := { frames := 0, cells := 0, slots := 0, locals := 0 }
abbrev G_k_isSolved (l : Launch) (Z : State) (n0 : Nat) (P : Heap → Prop) := Go l Z D n0 P (⟨"MinCircle", "isSolved", "()Z"⟩ : MethodName) prog_1_method_9_code 1 (some .boolean) R_k_isSolved
theorem pd_k_isSolved : parseMethodDescriptor "()Z" = some ⟨[], some .boolean⟩ := by decide +kernel
theorem d_k_centreDen_0 : decode prog_1_method_12_code 0 = .ok (.aload_n 0, 1) := by decide +kernel
theorem d_k_centreDen_1 : decode prog_1_method_12_code 1 = .ok (.getfield 34, 3) := by decide +kernel
theorem d_k_centreDen_4 : decode prog_1_method_12_code 4 = .ok (.ifCond .eq 10, 3) := by decide +kernel
theorem d_k_centreDen_14 : decode prog_1_method_12_code 14 = .ok (.lconst 0, 1) := by decide +kernel
theorem d_k_centreDen_15 : decode prog_1_method_12_code 15 = .ok (.lreturn, 1) := by decide +kernel
theorem d_k_centreDen_7 : decode prog_1_method_12_code 7 = .ok (.aload_n 0, 1) := by decide +kernel
theorem d_k_centreDen_8 : decode prog_1_method_12_code 8 = .ok (.getfield 64, 3) := by decide +kernel
theorem d_k_centreDen_11 : decode prog_1_method_12_code 11 = .ok (.goto 4, 3) := by decide +kernel
def R_k_centreDen : Room := { frames := 0, cells := 0, slots := 0, locals := 0 }
abbrev G_k_centreDen (l : Launch) (Z : State) (n0 : Nat) (P : Heap → Prop) := Go l Z D n0 P (⟨"MinCircle", "centreDen", "()J"⟩ : MethodName) prog_1_method_12_code 1 (some .long) R_k_centreDen
theorem pd_k_centreDen : parseMethodDescriptor "()J" = some ⟨[], some .long⟩ := by decide +kernel
theorem d_k_centreXNum_0 : decode prog_1_method_10_code 0 = .ok (.aload_n 0, 1) := by decide +kernel
theorem d_k_centreXNum_1 : decode prog_1_method_10_code 1 = .ok (.getfield 34, 3) := by decide +kernel
theorem d_k_centreXNum_4 : decode prog_1_method_10_code 4 = .ok (.ifCond .eq 10, 3) := by decide +kernel
theorem d_k_centreXNum_14 : decode prog_1_method_10_code 14 = .ok (.lconst 0, 1) := by decide +kernel
theorem d_k_centreXNum_15 : decode prog_1_method_10_code 15 = .ok (.lreturn, 1) := by decide +kernel
theorem d_k_centreXNum_7 : decode prog_1_method_10_code 7 = .ok (.aload_n 0, 1) := by decide +kernel
theorem d_k_centreXNum_8 : decode prog_1_method_10_code 8 = .ok (.getfield 58, 3) := by decide +kernel
theorem d_k_centreXNum_11 : decode prog_1_method_10_code 11 = .ok (.goto 4, 3) := by decide +kernel
def R_k_centreXNum : Room := { frames := 0, cells := 0, slots := 0, locals := 0 }
abbrev G_k_centreXNum (l : Launch) (Z : State) (n0 : Nat) (P : Heap → Prop) := Go l Z D n0 P (⟨"MinCircle", "centreXNum", "()J"⟩ : MethodName) prog_1_method_10_code 1 (some .long) R_k_centreXNum
theorem pd_k_centreXNum : parseMethodDescriptor "()J" = some ⟨[], some .long⟩ := by decide +kernel
theorem d_k_centreYNum_0 : decode prog_1_method_11_code 0 = .ok (.aload_n 0, 1) := by decide +kernel
theorem d_k_centreYNum_1 : decode prog_1_method_11_code 1 = .ok (.getfield 34, 3) := by decide +kernel
theorem d_k_centreYNum_4 : decode prog_1_method_11_code 4 = .ok (.ifCond .eq 10, 3) := by decide +kernel
theorem d_k_centreYNum_14 : decode prog_1_method_11_code 14 = .ok (.lconst 0, 1) := by decide +kernel
theorem d_k_centreYNum_15 : decode prog_1_method_11_code 15 = .ok (.lreturn, 1) := by decide +kernel
theorem d_k_centreYNum_7 : decode prog_1_method_11_code 7 = .ok (.aload_n 0, 1) := by decide +kernel
theorem d_k_centreYNum_8 : decode prog_1_method_11_code 8 = .ok (.getfield 61, 3) := by decide +kernel
theorem d_k_centreYNum_11 : decode prog_1_method_11_code 11 = .ok (.goto 4, 3) := by decide +kernel
def R_k_centreYNum : Room := { frames := 0, cells := 0, slots := 0, locals := 0 }
abbrev G_k_centreYNum (l : Launch) (Z : State) (n0 : Nat) (P : Heap → Prop) := Go l Z D n0 P (⟨"MinCircle", "centreYNum", "()J"⟩ : MethodName) prog_1_method_11_code 1 (some .long) R_k_centreYNum
theorem pd_k_centreYNum : parseMethodDescriptor "()J" = some ⟨[], some .long⟩ := by decide +kernel
theorem d_k_radiusSqNum_0 : decode prog_1_method_13_code 0 = .ok (.aload_n 0, 1) := by decide +kernel
theorem d_k_radiusSqNum_1 : decode prog_1_method_13_code 1 = .ok (.getfield 34, 3) := by decide +kernel
theorem d_k_radiusSqNum_4 : decode prog_1_method_13_code 4 = .ok (.ifCond .eq 10, 3) := by decide +kernel
theorem d_k_radiusSqNum_14 : decode prog_1_method_13_code 14 = .ok (.lconst 0, 1) := by decide +kernel
theorem d_k_radiusSqNum_15 : decode prog_1_method_13_code 15 = .ok (.lreturn, 1) := by decide +kernel
theorem d_k_radiusSqNum_7 : decode prog_1_method_13_code 7 = .ok (.aload_n 0, 1) := by decide +kernel
theorem d_k_radiusSqNum_8 : decode prog_1_method_13_code 8 = .ok (.getfield 67, 3) := by decide +kernel
theorem d_k_radiusSqNum_11 : decode prog_1_method_13_code 11 = .ok (.goto 4, 3) := by decide +kernel
def R_k_radiusSqNum : Room := { frames := 0, cells := 0, slots := 0, locals := 0 }
abbrev G_k_radiusSqNum (l : Launch) (Z : State) (n0 : Nat) (P : Heap → Prop) := Go l Z D n0 P (⟨"MinCircle", "radiusSqNum", "()J"⟩ : MethodName) prog_1_method_13_code 1 (some .long) R_k_radiusSqNum
theorem pd_k_radiusSqNum : parseMethodDescriptor "()J" = some ⟨[], some .long⟩ := by decide +kernel
theorem d_k_count_0 : decode prog_1_method_6_code 0 = .ok (.aload_n 0, 1) := by decide +kernel
theorem d_k_count_1 : decode prog_1_method_6_code 1 = .ok (.getfield 31, 3) := by decide +kernel
theorem d_k_count_4 : decode prog_1_method_6_code 4 = .ok (.ireturn, 1) := by decide +kernel
def R_k_count : Room := { frames := 0, cells := 0, slots := 0, locals := 0 }
abbrev G_k_count (l : Launch) (Z : State) (n0 : Nat) (P : Heap → Prop) := Go l Z D n0 P (⟨"MinCircle", "count", "()I"⟩ : MethodName) prog_1_method_6_code 1 (some .int) R_k_count
theorem pd_k_count : parseMethodDescriptor "()I" = some ⟨[], some .int⟩ := by decide +kernel
theorem d_k_pointX_0 : decode prog_1_method_7_code 0 = .ok (.iload_n 1, 1) := by decide +kernel
theorem d_k_pointX_1 : decode prog_1_method_7_code 1 = .ok (.ifCond .lt 11, 3) := by decide +kernel
theorem d_k_pointX_12 : decode prog_1_method_7_code 12 = .ok (.iconst 0, 1) := by decide +kernel
theorem d_k_pointX_13 : decode prog_1_method_7_code 13 = .ok (.ireturn, 1) := by decide +kernel
theorem d_k_pointX_4 : decode prog_1_method_7_code 4 = .ok (.iload_n 1, 1) := by decide +kernel
theorem d_k_pointX_5 : decode prog_1_method_7_code 5 = .ok (.aload_n 0, 1) := by decide +kernel
theorem d_k_pointX_6 : decode prog_1_method_7_code 6 = .ok (.getfield 31, 3) := by decide +kernel
theorem d_k_pointX_9 : decode prog_1_method_7_code 9 = .ok (.if_icmp .lt 5, 3) := by decide +kernel
theorem d_k_pointX_14 : decode prog_1_method_7_code 14 = .ok (.aload_n 0, 1) := by decide +kernel
theorem d_k_pointX_15 : decode prog_1_method_7_code 15 = .ok (.getfield 7, 3) := by decide +kernel
theorem d_k_pointX_18 : decode prog_1_method_7_code 18 = .ok (.iload_n 1, 1) := by decide +kernel
theorem d_k_pointX_19 : decode prog_1_method_7_code 19 = .ok (.iaload, 1) := by decide +kernel
theorem d_k_pointX_20 : decode prog_1_method_7_code 20 = .ok (.ireturn, 1) := by decide +kernel
def R_k_pointX : Room := { frames := 0, cells := 0, slots := 0, locals := 0 }
abbrev G_k_pointX (l : Launch) (Z : State) (n0 : Nat) (P : Heap → Prop) := Go l Z D n0 P (⟨"MinCircle", "pointX", "(I)I"⟩ : MethodName) prog_1_method_7_code 2 (some .int) R_k_pointX
theorem pd_k_pointX : parseMethodDescriptor "(I)I" = some ⟨[.int], some .int⟩ := by decide +kernel
theorem d_k_pointY_0 : decode prog_1_method_8_code 0 = .ok (.iload_n 1, 1) := by decide +kernel
theorem d_k_pointY_1 : decode prog_1_method_8_code 1 = .ok (.ifCond .lt 11, 3) := by decide +kernel
theorem d_k_pointY_12 : decode prog_1_method_8_code 12 = .ok (.iconst 0, 1) := by decide +kernel
theorem d_k_pointY_13 : decode prog_1_method_8_code 13 = .ok (.ireturn, 1) := by decide +kernel
theorem d_k_pointY_4 : decode prog_1_method_8_code 4 = .ok (.iload_n 1, 1) := by decide +kernel
theorem d_k_pointY_5 : decode prog_1_method_8_code 5 = .ok (.aload_n 0, 1) := by decide +kernel
theorem d_k_pointY_6 : decode prog_1_method_8_code 6 = .ok (.getfield 31, 3) := by decide +kernel
theorem d_k_pointY_9 : decode prog_1_method_8_code 9 = .ok (.if_icmp .lt 5, 3) := by decide +kernel
theorem d_k_pointY_14 : decode prog_1_method_8_code 14 = .ok (.aload_n 0, 1) := by decide +kernel
theorem d_k_pointY_15 : decode prog_1_method_8_code 15 = .ok (.getfield 13, 3) := by decide +kernel
theorem d_k_pointY_18 : decode prog_1_method_8_code 18 = .ok (.iload_n 1, 1) := by decide +kernel
theorem d_k_pointY_19 : decode prog_1_method_8_code 19 = .ok (.iaload, 1) := by decide +kernel
theorem d_k_pointY_20 : decode prog_1_method_8_code 20 = .ok (.ireturn, 1) := by decide +kernel
def R_k_pointY : Room := { frames := 0, cells := 0, slots := 0, locals := 0 }
abbrev G_k_pointY (l : Launch) (Z : State) (n0 : Nat) (P : Heap → Prop) := Go l Z D n0 P (⟨"MinCircle", "pointY", "(I)I"⟩ : MethodName) prog_1_method_8_code 2 (some .int) R_k_pointY
theorem pd_k_pointY : parseMethodDescriptor "(I)I" = some ⟨[.int], some .int⟩ := by decide +kernel
theorem d_k_locate_0 : decode prog_1_method_17_code 0 = .ok (.aload_n 0, 1) := by decide +kernel
theorem d_k_locate_1 : decode prog_1_method_17_code 1 = .ok (.getfield 34, 3) := by decide +kernel
theorem d_k_locate_4 : decode prog_1_method_17_code 4 = .ok (.ifCond .ne 5, 3) := by decide +kernel
theorem d_k_locate_7 : decode prog_1_method_17_code 7 = .ok (.iconst 0, 1) := by decide +kernel
theorem d_k_locate_8 : decode prog_1_method_17_code 8 = .ok (.ireturn, 1) := by decide +kernel
theorem d_k_locate_9 : decode prog_1_method_17_code 9 = .ok (.aload_n 0, 1) := by decide +kernel
theorem d_k_locate_10 : decode prog_1_method_17_code 10 = .ok (.iload_n 1, 1) := by decide +kernel
theorem d_k_locate_11 : decode prog_1_method_17_code 11 = .ok (.iload_n 2, 1) := by decide +kernel
theorem d_k_locate_12 : decode prog_1_method_17_code 12 = .ok (.invokevirtual 42, 3) := by decide +kernel
theorem d_k_locate_15 : decode prog_1_method_17_code 15 = .ok (.ifCond .ne 5, 3) := by decide +kernel
theorem d_k_locate_18 : decode prog_1_method_17_code 18 = .ok (.iconst 0, 1) := by decide +kernel
theorem d_k_locate_19 : decode prog_1_method_17_code 19 = .ok (.ireturn, 1) := by decide +kernel
theorem d_k_locate_20 : decode prog_1_method_17_code 20 = .ok (.aload_n 0, 1) := by decide +kernel
theorem d_k_locate_21 : decode prog_1_method_17_code 21 = .ok (.iload_n 1, 1) := by decide +kernel
theorem d_k_locate_22 : decode prog_1_method_17_code 22 = .ok (.iload_n 2, 1) := by decide +kernel
theorem d_k_locate_23 : decode prog_1_method_17_code 23 = .ok (.invokevirtual 73, 3) := by decide +kernel
theorem d_k_locate_26 : decode prog_1_method_17_code 26 = .ok (.lstore_n 3, 1) := by decide +kernel
theorem d_k_locate_27 : decode prog_1_method_17_code 27 = .ok (.lload_n 3, 1) := by decide +kernel
theorem d_k_locate_28 : decode prog_1_method_17_code 28 = .ok (.aload_n 0, 1) := by decide +kernel
theorem d_k_locate_29 : decode prog_1_method_17_code 29 = .ok (.getfield 67, 3) := by decide +kernel
theorem d_k_locate_33 : decode prog_1_method_17_code 33 = .ok (.ifCond .ge 5, 3) := by decide +kernel
theorem d_k_locate_32 : decode prog_1_method_17_code 32 = .ok (.lcmp, 1) := by decide +kernel
theorem d_k_locate_36 : decode prog_1_method_17_code 36 = .ok (.iconst 1, 1) := by decide +kernel
theorem d_k_locate_37 : decode prog_1_method_17_code 37 = .ok (.ireturn, 1) := by decide +kernel
theorem d_k_locate_38 : decode prog_1_method_17_code 38 = .ok (.lload_n 3, 1) := by decide +kernel
theorem d_k_locate_39 : decode prog_1_method_17_code 39 = .ok (.aload_n 0, 1) := by decide +kernel
theorem d_k_locate_40 : decode prog_1_method_17_code 40 = .ok (.getfield 67, 3) := by decide +kernel
theorem d_k_locate_44 : decode prog_1_method_17_code 44 = .ok (.ifCond .ne 5, 3) := by decide +kernel
theorem d_k_locate_43 : decode prog_1_method_17_code 43 = .ok (.lcmp, 1) := by decide +kernel
theorem d_k_locate_47 : decode prog_1_method_17_code 47 = .ok (.iconst 2, 1) := by decide +kernel
theorem d_k_locate_48 : decode prog_1_method_17_code 48 = .ok (.ireturn, 1) := by decide +kernel
theorem d_k_locate_49 : decode prog_1_method_17_code 49 = .ok (.iconst 3, 1) := by decide +kernel
theorem d_k_locate_50 : decode prog_1_method_17_code 50 = .ok (.ireturn, 1) := by decide +kernel
def R_k_locate : Room := { frames := 1, cells := 0, slots := 0, locals := 18 }
abbrev G_k_locate (l : Launch) (Z : State) (n0 : Nat) (P : Heap → Prop) := Go l Z D n0 P (⟨"MinCircle", "locate", "(II)I"⟩ : MethodName) prog_1_method_17_code 5 (some .int) R_k_locate
theorem pd_k_locate : parseMethodDescriptor "(II)I" = some ⟨[.int, .int], some .int⟩ := by decide +kernel
theorem d_k_onBoundary_0 : decode prog_1_method_16_code 0 = .ok (.aload_n 0, 1) := by decide +kernel
theorem d_k_onBoundary_1 : decode prog_1_method_16_code 1 = .ok (.getfield 34, 3) := by decide +kernel
theorem d_k_onBoundary_4 : decode prog_1_method_16_code 4 = .ok (.ifCond .eq 15, 3) := by decide +kernel
theorem d_k_onBoundary_19 : decode prog_1_method_16_code 19 = .ok (.iconst 0, 1) := by decide +kernel
theorem d_k_onBoundary_20 : decode prog_1_method_16_code 20 = .ok (.ireturn, 1) := by decide +kernel
theorem d_k_onBoundary_7 : decode prog_1_method_16_code 7 = .ok (.iload_n 1, 1) := by decide +kernel
theorem d_k_onBoundary_8 : decode prog_1_method_16_code 8 = .ok (.ifCond .lt 11, 3) := by decide +kernel
theorem d_k_onBoundary_11 : decode prog_1_method_16_code 11 = .ok (.iload_n 1, 1) := by decide +kernel
theorem d_k_onBoundary_12 : decode prog_1_method_16_code 12 = .ok (.aload_n 0, 1) := by decide +kernel
theorem d_k_onBoundary_13 : decode prog_1_method_16_code 13 = .ok (.getfield 31, 3) := by decide +kernel
theorem d_k_onBoundary_16 : decode prog_1_method_16_code 16 = .ok (.if_icmp .lt 5, 3) := by decide +kernel
theorem d_k_onBoundary_21 : decode prog_1_method_16_code 21 = .ok (.aload_n 0, 1) := by decide +kernel
theorem d_k_onBoundary_22 : decode prog_1_method_16_code 22 = .ok (.getfield 19, 3) := by decide +kernel
theorem d_k_onBoundary_25 : decode prog_1_method_16_code 25 = .ok (.iload_n 1, 1) := by decide +kernel
theorem d_k_onBoundary_26 : decode prog_1_method_16_code 26 = .ok (.baload, 1) := by decide +kernel
theorem d_k_onBoundary_27 : decode prog_1_method_16_code 27 = .ok (.ireturn, 1) := by decide +kernel
def R_k_onBoundary : Room := { frames := 0, cells := 0, slots := 0, locals := 0 }
abbrev G_k_onBoundary (l : Launch) (Z : State) (n0 : Nat) (P : Heap → Prop) := Go l Z D n0 P (⟨"MinCircle", "onBoundary", "(I)Z"⟩ : MethodName) prog_1_method_16_code 2 (some .boolean) R_k_onBoundary
theorem pd_k_onBoundary : parseMethodDescriptor "(I)Z" = some ⟨[.int], some .boolean⟩ := by decide +kernel
theorem d_k_boundaryCount_0 : decode prog_1_method_15_code 0 = .ok (.aload_n 0, 1) := by decide +kernel
theorem d_k_boundaryCount_1 : decode prog_1_method_15_code 1 = .ok (.getfield 34, 3) := by decide +kernel
theorem d_k_boundaryCount_4 : decode prog_1_method_15_code 4 = .ok (.ifCond .eq 10, 3) := by decide +kernel
theorem d_k_boundaryCount_14 : decode prog_1_method_15_code 14 = .ok (.iconst 0, 1) := by decide +kernel
theorem d_k_boundaryCount_15 : decode prog_1_method_15_code 15 = .ok (.ireturn, 1) := by decide +kernel
theorem d_k_boundaryCount_7 : decode prog_1_method_15_code 7 = .ok (.aload_n 0, 1) := by decide +kernel
theorem d_k_boundaryCount_8 : decode prog_1_method_15_code 8 = .ok (.getfield 46, 3) := by decide +kernel
theorem d_k_boundaryCount_11 : decode prog_1_method_15_code 11 = .ok (.goto 4, 3) := by decide +kernel
def R_k_boundaryCount : Room := { frames := 0, cells := 0, slots := 0, locals := 0 }
abbrev G_k_boundaryCount (l : Launch) (Z : State) (n0 : Nat) (P : Heap → Prop) := Go l Z D n0 P (⟨"MinCircle", "boundaryCount", "()I"⟩ : MethodName) prog_1_method_15_code 1 (some .int) R_k_boundaryCount
theorem pd_k_boundaryCount : parseMethodDescriptor "()I" = some ⟨[], some .int⟩ := by decide +kernel
theorem d_u_check_0 : decode method_4_code 0 = .ok (.aload_n 0, 1) := by decide +kernel
theorem d_u_check_1 : decode method_4_code 1 = .ok (.invokevirtual 7, 3) := by decide +kernel
theorem d_u_check_4 : decode method_4_code 4 = .ok (.ifCond .ne 5, 3) := by decide +kernel
theorem d_u_check_7 : decode method_4_code 7 = .ok (.iconst 1, 1) := by decide +kernel
theorem d_u_check_8 : decode method_4_code 8 = .ok (.ireturn, 1) := by decide +kernel
theorem d_u_check_9 : decode method_4_code 9 = .ok (.aload_n 0, 1) := by decide +kernel
theorem d_u_check_10 : decode method_4_code 10 = .ok (.invokevirtual 13, 3) := by decide +kernel
theorem d_u_check_13 : decode method_4_code 13 = .ok (.lstore_n 1, 1) := by decide +kernel
theorem d_u_check_14 : decode method_4_code 14 = .ok (.aload_n 0, 1) := by decide +kernel
theorem d_u_check_15 : decode method_4_code 15 = .ok (.invokevirtual 17, 3) := by decide +kernel
theorem d_u_check_18 : decode method_4_code 18 = .ok (.lstore_n 3, 1) := by decide +kernel
theorem d_u_check_19 : decode method_4_code 19 = .ok (.aload_n 0, 1) := by decide +kernel
theorem d_u_check_20 : decode method_4_code 20 = .ok (.invokevirtual 20, 3) := by decide +kernel
theorem d_u_check_23 : decode method_4_code 23 = .ok (.lstore 5, 2) := by decide +kernel
theorem d_u_check_25 : decode method_4_code 25 = .ok (.aload_n 0, 1) := by decide +kernel
theorem d_u_check_26 : decode method_4_code 26 = .ok (.invokevirtual 23, 3) := by decide +kernel
theorem d_u_check_29 : decode method_4_code 29 = .ok (.lstore 7, 2) := by decide +kernel
theorem d_u_check_31 : decode method_4_code 31 = .ok (.lload_n 1, 1) := by decide +kernel
theorem d_u_check_32 : decode method_4_code 32 = .ok (.lconst 1, 1) := by decide +kernel
theorem d_u_check_34 : decode method_4_code 34 = .ok (.ifCond .lt 10, 3) := by decide +kernel
theorem d_u_check_33 : decode method_4_code 33 = .ok (.lcmp, 1) := by decide +kernel
theorem d_u_check_44 : decode method_4_code 44 = .ok (.iconst 0, 1) := by decide +kernel
theorem d_u_check_45 : decode method_4_code 45 = .ok (.ireturn, 1) := by decide +kernel
theorem d_u_check_37 : decode method_4_code 37 = .ok (.lload 7, 2) := by decide +kernel
theorem d_u_check_39 : decode method_4_code 39 = .ok (.lconst 0, 1) := by decide +kernel
theorem d_u_check_41 : decode method_4_code 41 = .ok (.ifCond .ge 5, 3) := by decide +kernel
theorem d_u_check_40 : decode method_4_code 40 = .ok (.lcmp, 1) := by decide +kernel
theorem d_u_check_46 : decode method_4_code 46 = .ok (.aload_n 0, 1) := by decide +kernel
theorem d_u_check_47 : decode method_4_code 47 = .ok (.invokevirtual 26, 3) := by decide +kernel
theorem d_u_check_50 : decode method_4_code 50 = .ok (.istore 9, 2) := by decide +kernel
theorem d_u_check_52 : decode method_4_code 52 = .ok (.iconst 0, 1) := by decide +kernel
theorem d_u_check_53 : decode method_4_code 53 = .ok (.istore 10, 2) := by decide +kernel
theorem d_u_check_55 : decode method_4_code 55 = .ok (.iconst 0, 1) := by decide +kernel
theorem d_u_check_56 : decode method_4_code 56 = .ok (.istore 11, 2) := by decide +kernel
theorem d_u_check_58 : decode method_4_code 58 = .ok (.iload 11, 2) := by decide +kernel
theorem d_u_check_60 : decode method_4_code 60 = .ok (.iload 9, 2) := by decide +kernel
theorem d_u_check_62 : decode method_4_code 62 = .ok (.if_icmp .ge 75, 3) := by decide +kernel
theorem d_u_check_65 : decode method_4_code 65 = .ok (.aload_n 0, 1) := by decide +kernel
theorem d_u_check_66 : decode method_4_code 66 = .ok (.aload_n 0, 1) := by decide +kernel
theorem d_u_check_67 : decode method_4_code 67 = .ok (.iload 11, 2) := by decide +kernel
theorem d_u_check_69 : decode method_4_code 69 = .ok (.invokevirtual 30, 3) := by decide +kernel
theorem d_u_check_72 : decode method_4_code 72 = .ok (.aload_n 0, 1) := by decide +kernel
theorem d_u_check_73 : decode method_4_code 73 = .ok (.iload 11, 2) := by decide +kernel
theorem d_u_check_75 : decode method_4_code 75 = .ok (.invokevirtual 34, 3) := by decide +kernel
theorem d_u_check_78 : decode method_4_code 78 = .ok (.invokevirtual 37, 3) := by decide +kernel
theorem d_u_check_81 : decode method_4_code 81 = .ok (.istore 12, 2) := by decide +kernel
theorem d_u_check_83 : decode method_4_code 83 = .ok (.iload 12, 2) := by decide +kernel
theorem d_u_check_85 : decode method_4_code 85 = .ok (.iconst 1, 1) := by decide +kernel
theorem d_u_check_86 : decode method_4_code 86 = .ok (.if_icmp .eq 11, 3) := by decide +kernel
theorem d_u_check_97 : decode method_4_code 97 = .ok (.iload 12, 2) := by decide +kernel
theorem d_u_check_99 : decode method_4_code 99 = .ok (.iconst 2, 1) := by decide +kernel
theorem d_u_check_100 : decode method_4_code 100 = .ok (.if_icmp .ne 7, 3) := by decide +kernel
theorem d_u_check_103 : decode method_4_code 103 = .ok (.iconst 1, 1) := by decide +kernel
theorem d_u_check_104 : decode method_4_code 104 = .ok (.goto 4, 3) := by decide +kernel
theorem d_u_check_108 : decode method_4_code 108 = .ok (.istore 13, 2) := by decide +kernel
theorem d_u_check_110 : decode method_4_code 110 = .ok (.aload_n 0, 1) := by decide +kernel
theorem d_u_check_111 : decode method_4_code 111 = .ok (.iload 11, 2) := by decide +kernel
theorem d_u_check_113 : decode method_4_code 113 = .ok (.invokevirtual 41, 3) := by decide +kernel
theorem d_u_check_116 : decode method_4_code 116 = .ok (.iload 13, 2) := by decide +kernel
theorem d_u_check_118 : decode method_4_code 118 = .ok (.if_icmp .eq 5, 3) := by decide +kernel
theorem d_u_check_123 : decode method_4_code 123 = .ok (.iload 13, 2) := by decide +kernel
theorem d_u_check_125 : decode method_4_code 125 = .ok (.ifCond .eq 6, 3) := by decide +kernel
theorem d_u_check_131 : decode method_4_code 131 = .ok (.iinc 11 1, 3) := by decide +kernel
theorem d_u_check_134 : decode method_4_code 134 = .ok (.goto (-76), 3) := by decide +kernel
theorem d_u_check_128 : decode method_4_code 128 = .ok (.iinc 10 1, 3) := by decide +kernel
theorem d_u_check_121 : decode method_4_code 121 = .ok (.iconst 0, 1) := by decide +kernel
theorem d_u_check_122 : decode method_4_code 122 = .ok (.ireturn, 1) := by decide +kernel
theorem d_u_check_107 : decode method_4_code 107 = .ok (.iconst 0, 1) := by decide +kernel
theorem d_u_check_89 : decode method_4_code 89 = .ok (.iload 12, 2) := by decide +kernel
theorem d_u_check_91 : decode method_4_code 91 = .ok (.iconst 2, 1) := by decide +kernel
theorem d_u_check_92 : decode method_4_code 92 = .ok (.if_icmp .eq 5, 3) := by decide +kernel
theorem d_u_check_95 : decode method_4_code 95 = .ok (.iconst 0, 1) := by decide +kernel
theorem d_u_check_96 : decode method_4_code 96 = .ok (.ireturn, 1) := by decide +kernel
theorem d_u_check_137 : decode method_4_code 137 = .ok (.iload 10, 2) := by decide +kernel
theorem d_u_check_139 : decode method_4_code 139 = .ok (.iconst 1, 1) := by decide +kernel
theorem d_u_check_140 : decode method_4_code 140 = .ok (.if_icmp .lt 12, 3) := by decide +kernel
theorem d_u_check_152 : decode method_4_code 152 = .ok (.iconst 0, 1) := by decide +kernel
theorem d_u_check_153 : decode method_4_code 153 = .ok (.ireturn, 1) := by decide +kernel
theorem d_u_check_143 : decode method_4_code 143 = .ok (.aload_n 0, 1) := by decide +kernel
theorem d_u_check_144 : decode method_4_code 144 = .ok (.invokevirtual 45, 3) := by decide +kernel
theorem d_u_check_147 : decode method_4_code 147 = .ok (.iload 10, 2) := by decide +kernel
theorem d_u_check_149 : decode method_4_code 149 = .ok (.if_icmp .eq 5, 3) := by decide +kernel
theorem d_u_check_154 : decode method_4_code 154 = .ok (.iconst 0, 1) := by decide +kernel
theorem d_u_check_155 : decode method_4_code 155 = .ok (.istore 11, 2) := by decide +kernel
theorem d_u_check_157 : decode method_4_code 157 = .ok (.iload 11, 2) := by decide +kernel
theorem d_u_check_159 : decode method_4_code 159 = .ok (.iload 9, 2) := by decide +kernel
theorem d_u_check_161 : decode method_4_code 161 = .ok (.if_icmp .ge 187, 3) := by decide +kernel
theorem d_u_check_164 : decode method_4_code 164 = .ok (.aload_n 0, 1) := by decide +kernel
theorem d_u_check_165 : decode method_4_code 165 = .ok (.iload 11, 2) := by decide +kernel
theorem d_u_check_167 : decode method_4_code 167 = .ok (.invokevirtual 41, 3) := by decide +kernel
theorem d_u_check_170 : decode method_4_code 170 = .ok (.ifCond .ne 6, 3) := by decide +kernel
theorem d_u_check_173 : decode method_4_code 173 = .ok (.goto 169, 3) := by decide +kernel
theorem d_u_check_342 : decode method_4_code 342 = .ok (.iinc 11 1, 3) := by decide +kernel
theorem d_u_check_345 : decode method_4_code 345 = .ok (.goto (-188), 3) := by decide +kernel
theorem d_u_check_176 : decode method_4_code 176 = .ok (.aload_n 0, 1) := by decide +kernel
theorem d_u_check_177 : decode method_4_code 177 = .ok (.iload 11, 2) := by decide +kernel
theorem d_u_check_179 : decode method_4_code 179 = .ok (.invokevirtual 30, 3) := by decide +kernel
theorem d_u_check_182 : decode method_4_code 182 = .ok (.i2l, 1) := by decide +kernel
theorem d_u_check_183 : decode method_4_code 183 = .ok (.lload_n 1, 1) := by decide +kernel
theorem d_u_check_184 : decode method_4_code 184 = .ok (.lmul, 1) := by decide +kernel
theorem d_u_check_185 : decode method_4_code 185 = .ok (.lload_n 3, 1) := by decide +kernel
theorem d_u_check_186 : decode method_4_code 186 = .ok (.lsub, 1) := by decide +kernel
theorem d_u_check_187 : decode method_4_code 187 = .ok (.lstore 12, 2) := by decide +kernel
theorem d_u_check_189 : decode method_4_code 189 = .ok (.aload_n 0, 1) := by decide +kernel
theorem d_u_check_190 : decode method_4_code 190 = .ok (.iload 11, 2) := by decide +kernel
theorem d_u_check_192 : decode method_4_code 192 = .ok (.invokevirtual 34, 3) := by decide +kernel
theorem d_u_check_195 : decode method_4_code 195 = .ok (.i2l, 1) := by decide +kernel
theorem d_u_check_196 : decode method_4_code 196 = .ok (.lload_n 1, 1) := by decide +kernel
theorem d_u_check_197 : decode method_4_code 197 = .ok (.lmul, 1) := by decide +kernel
theorem d_u_check_198 : decode method_4_code 198 = .ok (.lload 5, 2) := by decide +kernel
theorem d_u_check_200 : decode method_4_code 200 = .ok (.lsub, 1) := by decide +kernel
theorem d_u_check_201 : decode method_4_code 201 = .ok (.lstore 14, 2) := by decide +kernel
theorem d_u_check_203 : decode method_4_code 203 = .ok (.lload 12, 2) := by decide +kernel
theorem d_u_check_205 : decode method_4_code 205 = .ok (.lconst 0, 1) := by decide +kernel
theorem d_u_check_207 : decode method_4_code 207 = .ok (.ifCond .ne 13, 3) := by decide +kernel
theorem d_u_check_206 : decode method_4_code 206 = .ok (.lcmp, 1) := by decide +kernel
theorem d_u_check_210 : decode method_4_code 210 = .ok (.lload 14, 2) := by decide +kernel
theorem d_u_check_212 : decode method_4_code 212 = .ok (.lconst 0, 1) := by decide +kernel
theorem d_u_check_214 : decode method_4_code 214 = .ok (.ifCond .ne 6, 3) := by decide +kernel
theorem d_u_check_213 : decode method_4_code 213 = .ok (.lcmp, 1) := by decide +kernel
theorem d_u_check_217 : decode method_4_code 217 = .ok (.goto 125, 3) := by decide +kernel
theorem d_u_check_220 : decode method_4_code 220 = .ok (.iconst 1, 1) := by decide +kernel
theorem d_u_check_221 : decode method_4_code 221 = .ok (.istore 16, 2) := by decide +kernel
theorem d_u_check_223 : decode method_4_code 223 = .ok (.iconst 0, 1) := by decide +kernel
theorem d_u_check_224 : decode method_4_code 224 = .ok (.istore 17, 2) := by decide +kernel
theorem d_u_check_226 : decode method_4_code 226 = .ok (.iload 17, 2) := by decide +kernel
theorem d_u_check_228 : decode method_4_code 228 = .ok (.iload 9, 2) := by decide +kernel
theorem d_u_check_230 : decode method_4_code 230 = .ok (.if_icmp .ge 105, 3) := by decide +kernel
theorem d_u_check_233 : decode method_4_code 233 = .ok (.aload_n 0, 1) := by decide +kernel
theorem d_u_check_234 : decode method_4_code 234 = .ok (.iload 17, 2) := by decide +kernel
theorem d_u_check_236 : decode method_4_code 236 = .ok (.invokevirtual 41, 3) := by decide +kernel
theorem d_u_check_239 : decode method_4_code 239 = .ok (.ifCond .ne 6, 3) := by decide +kernel
theorem d_u_check_242 : decode method_4_code 242 = .ok (.goto 87, 3) := by decide +kernel
theorem d_u_check_329 : decode method_4_code 329 = .ok (.iinc 17 1, 3) := by decide +kernel
theorem d_u_check_332 : decode method_4_code 332 = .ok (.goto (-106), 3) := by decide +kernel
theorem d_u_check_245 : decode method_4_code 245 = .ok (.aload_n 0, 1) := by decide +kernel
theorem d_u_check_246 : decode method_4_code 246 = .ok (.iload 17, 2) := by decide +kernel
theorem d_u_check_248 : decode method_4_code 248 = .ok (.invokevirtual 30, 3) := by decide +kernel
theorem d_u_check_251 : decode method_4_code 251 = .ok (.i2l, 1) := by decide +kernel
theorem d_u_check_252 : decode method_4_code 252 = .ok (.lload_n 1, 1) := by decide +kernel
theorem d_u_check_253 : decode method_4_code 253 = .ok (.lmul, 1) := by decide +kernel
theorem d_u_check_254 : decode method_4_code 254 = .ok (.lload_n 3, 1) := by decide +kernel
theorem d_u_check_255 : decode method_4_code 255 = .ok (.lsub, 1) := by decide +kernel
theorem d_u_check_256 : decode method_4_code 256 = .ok (.lstore 18, 2) := by decide +kernel
theorem d_u_check_258 : decode method_4_code 258 = .ok (.aload_n 0, 1) := by decide +kernel
theorem d_u_check_259 : decode method_4_code 259 = .ok (.iload 17, 2) := by decide +kernel
theorem d_u_check_261 : decode method_4_code 261 = .ok (.invokevirtual 34, 3) := by decide +kernel
theorem d_u_check_264 : decode method_4_code 264 = .ok (.i2l, 1) := by decide +kernel
theorem d_u_check_265 : decode method_4_code 265 = .ok (.lload_n 1, 1) := by decide +kernel
theorem d_u_check_266 : decode method_4_code 266 = .ok (.lmul, 1) := by decide +kernel
theorem d_u_check_267 : decode method_4_code 267 = .ok (.lload 5, 2) := by decide +kernel
theorem d_u_check_269 : decode method_4_code 269 = .ok (.lsub, 1) := by decide +kernel
theorem d_u_check_270 : decode method_4_code 270 = .ok (.lstore 20, 2) := by decide +kernel
theorem d_u_check_272 : decode method_4_code 272 = .ok (.lload 12, 2) := by decide +kernel
theorem d_u_check_274 : decode method_4_code 274 = .ok (.lload 20, 2) := by decide +kernel
theorem d_u_check_276 : decode method_4_code 276 = .ok (.lmul, 1) := by decide +kernel
theorem d_u_check_277 : decode method_4_code 277 = .ok (.lstore 22, 2) := by decide +kernel
theorem d_u_check_279 : decode method_4_code 279 = .ok (.lload 14, 2) := by decide +kernel
theorem d_u_check_281 : decode method_4_code 281 = .ok (.lload 18, 2) := by decide +kernel
theorem d_u_check_283 : decode method_4_code 283 = .ok (.lmul, 1) := by decide +kernel
theorem d_u_check_284 : decode method_4_code 284 = .ok (.lstore 24, 2) := by decide +kernel
theorem d_u_check_286 : decode method_4_code 286 = .ok (.lload 22, 2) := by decide +kernel
theorem d_u_check_288 : decode method_4_code 288 = .ok (.lload 24, 2) := by decide +kernel
theorem d_u_check_291 : decode method_4_code 291 = .ok (.ifCond .ge 9, 3) := by decide +kernel
theorem d_u_check_290 : decode method_4_code 290 = .ok (.lcmp, 1) := by decide +kernel
theorem d_u_check_300 : decode method_4_code 300 = .ok (.lload 22, 2) := by decide +kernel
theorem d_u_check_302 : decode method_4_code 302 = .ok (.lload 24, 2) := by decide +kernel
theorem d_u_check_305 : decode method_4_code 305 = .ok (.ifCond .ne 24, 3) := by decide +kernel
theorem d_u_check_304 : decode method_4_code 304 = .ok (.lcmp, 1) := by decide +kernel
theorem d_u_check_308 : decode method_4_code 308 = .ok (.lload 12, 2) := by decide +kernel
theorem d_u_check_310 : decode method_4_code 310 = .ok (.lload 18, 2) := by decide +kernel
theorem d_u_check_312 : decode method_4_code 312 = .ok (.lmul, 1) := by decide +kernel
theorem d_u_check_313 : decode method_4_code 313 = .ok (.lload 14, 2) := by decide +kernel
theorem d_u_check_315 : decode method_4_code 315 = .ok (.lload 20, 2) := by decide +kernel
theorem d_u_check_317 : decode method_4_code 317 = .ok (.lmul, 1) := by decide +kernel
theorem d_u_check_318 : decode method_4_code 318 = .ok (.lneg, 1) := by decide +kernel
theorem d_u_check_320 : decode method_4_code 320 = .ok (.ifCond .gt 9, 3) := by decide +kernel
theorem d_u_check_319 : decode method_4_code 319 = .ok (.lcmp, 1) := by decide +kernel
theorem d_u_check_335 : decode method_4_code 335 = .ok (.iload 16, 2) := by decide +kernel
theorem d_u_check_337 : decode method_4_code 337 = .ok (.ifCond .eq 5, 3) := by decide +kernel
theorem d_u_check_294 : decode method_4_code 294 = .ok (.iconst 0, 1) := by decide +kernel
theorem d_u_check_295 : decode method_4_code 295 = .ok (.istore 16, 2) := by decide +kernel
theorem d_u_check_297 : decode method_4_code 297 = .ok (.goto 38, 3) := by decide +kernel
theorem d_u_check_323 : decode method_4_code 323 = .ok (.iconst 0, 1) := by decide +kernel
theorem d_u_check_324 : decode method_4_code 324 = .ok (.istore 16, 2) := by decide +kernel
theorem d_u_check_326 : decode method_4_code 326 = .ok (.goto 9, 3) := by decide +kernel
theorem d_u_check_348 : decode method_4_code 348 = .ok (.iconst 1, 1) := by decide +kernel
theorem d_u_check_349 : decode method_4_code 349 = .ok (.ireturn, 1) := by decide +kernel
theorem d_u_check_340 : decode method_4_code 340 = .ok (.iconst 0, 1) := by decide +kernel
theorem d_u_check_341 : decode method_4_code 341 = .ok (.ireturn, 1) := by decide +kernel
def R_u_check : Room := { frames := 2, cells := 0, slots := 0, locals := 34 }
abbrev G_u_check (l : Launch) (Z : State) (n0 : Nat) (P : Heap → Prop) := Go l Z D n0 P (⟨"MinCircleOwnLaw", "check", "(LMinCircle;)Z"⟩ : MethodName) method_4_code 26 (some .boolean) R_u_check
theorem pd_u_check : parseMethodDescriptor "(LMinCircle;)Z" = some ⟨[.object "MinCircle"], some .boolean⟩ := by decide +kernel
def R_u_law : Room := room_1
abbrev G_u_law (l : Launch) (Z : State) (n0 : Nat) (P : Heap → Prop) := Go l Z D n0 P x code maxLocals ret room_1
theorem pd_u_law : parseMethodDescriptor "([I)Z" = some ⟨[.array .int], some .boolean⟩ := by decide +kernel
set_option maxRecDepth 65536 in
set_option maxHeartbeats 4000000 in
theorem th_u_cell {l : Launch} {Z : State} {a0 : Array Value} (hw : ∀ d ∈ tables_1, d.before a0 Z = true) {n0 : Nat} {P : Heap → Prop} {sa : Nat} {xs : List Int} (hP : ∀ h, P h → Scr Z sa xs h) (hxl : xs.length < 2147483648) {F : Nat} {sz : Nat} {rr : Int} {v1 : Int} (hf : u_cell F xs v1 = some rr) :
    Meth l Z D n0 P (⟨"MinCircleOwnLaw", "cell", "([II)I"⟩ : MethodName) method_2_code 2 (some .int) R_u_cell [vR sa, vI v1] [] sz (QM Z D n0 P (some (vI rr)) [] sz) := by
  refine Meth.of (plainFor_of_name pn_law) (Nat.le_of_ble_eq_true rfl) ?_
  show G_u_cell l Z n0 P 0 [some (vR sa), some (vI v1)] [] [] sz 0 0 (QM Z D n0 P (some (vI rr)) [] sz)
  unfold u_cell at hf
  refine Go.iloadN (pc2 := 1) d_u_cell_0 rfl rfl ?_
  refine Go.aloadN (pc2 := 2) d_u_cell_1 rfl rfl ?_
  refine Go.alen (pc2 := 3) d_u_cell_2 rfl hP hxl ?_
  by_cases hc : v1 < (xs.length : Int)
  · replace hf := ifp hc hf
    refine Go.icmpF (pc2 := 6) d_u_cell_3 (Int.not_le.mpr hc) rfl ?_
    refine Go.aloadN (pc2 := 7) d_u_cell_6 rfl rfl ?_
    refine Go.iloadN (pc2 := 8) d_u_cell_7 rfl rfl ?_
    have hb := okb hf
    replace hf := ifp hb hf
    refine Go.sald (pc2 := 9) d_u_cell_8 rfl hP hb rfl ?_
    refine Go.goto (pc2 := 13) d_u_cell_9 (by decide) (by decide) ?_
    cases hf
    exact Go.reti d_u_cell_13 rfl (Nat.le_of_ble_eq_true rfl) (Nat.le_of_ble_eq_true rfl) (fun _ H => ⟨rfl, H⟩)
  · replace hf := ifn hc hf
    refine Go.icmpT (pc2 := 12) d_u_cell_3 (Int.not_lt.mp hc) (by decide) (by decide) ?_
    refine Go.iconst (pc2 := 13) d_u_cell_12 rfl (by decide) ?_
    cases hf
    exact Go.reti d_u_cell_13 rfl (Nat.le_of_ble_eq_true rfl) (Nat.le_of_ble_eq_true rfl) (fun _ H => ⟨rfl, H⟩)
set_option maxRecDepth 65536 in
set_option maxHeartbeats 4000000 in
theorem th_u_pos {l : Launch} {Z : State} {a0 : Array Value} (hw : ∀ d ∈ tables_1, d.before a0 Z = true) {n0 : Nat} {P : Heap → Prop} {F : Nat} {sz : Nat} {rr : Int} {v0 v1 : Int} (hf : u_pos F v0 v1 = some rr) :
    Meth l Z D n0 P (⟨"MinCircleOwnLaw", "pos", "(II)I"⟩ : MethodName) method_3_code 3 (some .int) R_u_pos [vI v0, vI v1] [] sz (QM Z D n0 P (some (vI rr)) [] sz) := by
  refine Meth.of (plainFor_of_name pn_law) (Nat.le_of_ble_eq_true rfl) ?_
  show G_u_pos l Z n0 P 0 [some (vI v0), some (vI v1), none] [] [] sz 0 0 (QM Z D n0 P (some (vI rr)) [] sz)
  unfold u_pos at hf
  refine Go.iloadN (pc2 := 1) d_u_pos_0 rfl rfl ?_
  refine Go.iloadN (pc2 := 2) d_u_pos_1 rfl rfl ?_
  have hb := okn hf
  replace hf := ifn hb hf
  refine Go.irem (pc2 := 3) d_u_pos_2 rfl hb ?_
  refine Go.istoreN (pc2 := 4) (L2 := [some (vI v0), some (vI v1), some (vI (w32 (Int.tmod v0 v1)))]) d_u_pos_3 rfl (Nat.le_of_ble_eq_true rfl) rfl ?_
  refine Go.iloadN (pc2 := 5) d_u_pos_4 rfl rfl ?_
  by_cases hc : w32 (Int.tmod v0 v1) < 0
  · replace hf := ifp hc hf
    refine Go.ifF (pc2 := 8) d_u_pos_5 (Int.not_le.mpr hc) rfl ?_
    refine Go.iloadN (pc2 := 9) d_u_pos_8 rfl rfl ?_
    refine Go.iloadN (pc2 := 10) d_u_pos_9 rfl rfl ?_
    refine Go.iadd (pc2 := 11) d_u_pos_10 rfl ?_
    refine Go.goto (pc2 := 15) d_u_pos_11 (by decide) (by decide) ?_
    cases hf
    exact Go.reti d_u_pos_15 rfl (Nat.le_of_ble_eq_true rfl) (Nat.le_of_ble_eq_true rfl) (fun _ H => ⟨rfl, H⟩)
  · replace hf := ifn hc hf
    refine Go.ifT (pc2 := 14) d_u_pos_5 (Int.not_lt.mp hc) (by decide) (by decide) ?_
    refine Go.iloadN (pc2 := 15) d_u_pos_14 rfl rfl ?_
    cases hf
    exact Go.reti d_u_pos_15 rfl (Nat.le_of_ble_eq_true rfl) (Nat.le_of_ble_eq_true rfl) (fun _ H => ⟨rfl, H⟩)
set_option maxRecDepth 65536 in
set_option maxHeartbeats 4000000 in
theorem tj_k_ctor_79 {l : Launch} {Z : State} {a0 : Array Value} (hw : ∀ d ∈ tables_1, d.before a0 Z = true) {n0 : Nat} {P : Heap → Prop} {F : Nat} {b0 : Nat} {Oz0 : Mo} {O0 : Mo} {v3 v4 : Int} (hf : j_k_ctor_79 F O0 v3 v4 = some Oz0) :
    G_k_ctor l Z n0 P 79 [some (vR b0), none, none, some (vI v3), some (vI v4)] [] [(b0, 4, O0)] ((b0 + 5)) 4 128 (QM Z D n0 P none [(b0, 4, Oz0)] (b0 + 5)) := by
  unfold j_k_ctor_79 at hf
  refine Go.aloadN (pc2 := 80) d_k_ctor_79 rfl rfl ?_
  refine Go.iloadN (pc2 := 81) d_k_ctor_80 rfl rfl ?_
  refine Go.putf (pc2 := 84) (cw_ok hw) d_k_ctor_81 rfl rfl D_C (by exact w_27 hw) (by exact Or.inl (w_28 hw)) (by exact w_1 hw) (q := 0) rfl (x := v3) (x' := v3) (fs_cap) rfl rfl (os2 := [(b0, 4, (upd O0 0 0 v3))]) rfl ?_
  refine Go.aloadN (pc2 := 85) d_k_ctor_84 rfl rfl ?_
  refine Go.iload (pc2 := 87) d_k_ctor_85 rfl rfl ?_
  refine Go.putf (pc2 := 90) (cw_ok hw) d_k_ctor_87 rfl rfl D_C (by exact w_29 hw) (by exact Or.inl (w_30 hw)) (by exact w_1 hw) (q := 0) rfl (x := v4) (x' := v4) (fs_rng) rfl rfl (os2 := [(b0, 4, (upd (upd O0 0 0 v3) 0 1 v4))]) rfl ?_
  refine Go.aloadN (pc2 := 91) d_k_ctor_90 rfl rfl ?_
  refine Go.iconst (pc2 := 92) d_k_ctor_91 rfl (by decide) ?_
  refine Go.putf (pc2 := 95) (cw_ok hw) d_k_ctor_92 rfl rfl D_C (by exact w_31 hw) (by exact Or.inl (w_32 hw)) (by exact w_1 hw) (q := 0) rfl (x := 0) (x' := 0) (fs_n) rfl rfl (os2 := [(b0, 4, (upd (upd (upd O0 0 0 v3) 0 1 v4) 0 2 0))]) rfl ?_
  refine Go.aloadN (pc2 := 96) d_k_ctor_95 rfl rfl ?_
  refine Go.iconst (pc2 := 97) d_k_ctor_96 rfl (by decide) ?_
  refine Go.putf (pc2 := 100) (cw_ok hw) d_k_ctor_97 rfl rfl D_C (by exact w_33 hw) (by exact Or.inl (w_34 hw)) (by exact w_1 hw) (q := 0) rfl (x := 0) (x' := 0) (fs_solved) rfl rfl (os2 := [(b0, 4, (upd (upd (upd (upd O0 0 0 v3) 0 1 v4) 0 2 0) 0 3 0))]) rfl ?_
  refine Go.aloadN (pc2 := 101) d_k_ctor_100 rfl rfl ?_
  refine Go.lconst (pc2 := 102) (i := 1) d_k_ctor_101 rfl (by decide) ?_
  refine Go.putf (pc2 := 105) (cw_ok hw) d_k_ctor_102 rfl rfl D_C (by exact w_35 hw) (by exact Or.inl (w_36 hw)) (by exact w_1 hw) (q := 0) rfl (x := 1) (x' := 1) (fs_td) rfl rfl (os2 := [(b0, 4, (upd (upd (upd (upd (upd O0 0 0 v3) 0 1 v4) 0 2 0) 0 3 0) 0 12 1))]) rfl ?_
  cases hf
  exact Go.retv d_k_ctor_105 rfl (Nat.le_of_ble_eq_true rfl) (Nat.le_of_ble_eq_true rfl) (fun _ H => ⟨rfl, H⟩)
set_option maxRecDepth 65536 in
set_option maxHeartbeats 4000000 in
theorem tj_k_ctor_68 {l : Launch} {Z : State} {a0 : Array Value} (hw : ∀ d ∈ tables_1, d.before a0 Z = true) {n0 : Nat} {P : Heap → Prop} {F : Nat} {b0 : Nat} {Oz0 : Mo} {O0 : Mo} {v3 v4 : Int} (hf : j_k_ctor_68 F O0 v3 v4 = some Oz0) :
    G_k_ctor l Z n0 P 68 [some (vR b0), none, none, some (vI v3), some (vI v4)] [] [(b0, 4, O0)] ((b0 + 5)) 4 128 (QM Z D n0 P none [(b0, 4, Oz0)] (b0 + 5)) := by
  unfold j_k_ctor_68 at hf
  refine Go.iload (pc2 := 70) d_k_ctor_68 rfl rfl ?_
  refine Go.ldc (pc2 := 72) (i := 65535) d_k_ctor_70 rfl rfl (by exact w_26 hw) (by decide) ?_
  by_cases hc : v4 ≤ 65535
  · replace hf := ifp hc hf
    refine Go.icmpT (pc2 := 79) d_k_ctor_72 hc (by decide) (by decide) ?_
    exact tj_k_ctor_79 hw hf
  · replace hf := ifn hc hf
    refine Go.icmpF (pc2 := 75) d_k_ctor_72 hc rfl ?_
    refine Go.ldc (pc2 := 77) (i := 65535) d_k_ctor_75 rfl rfl (by exact w_26 hw) (by decide) ?_
    refine Go.istore (pc2 := 79) (L2 := [some (vR b0), none, none, some (vI v3), some (vI 65535)]) d_k_ctor_77 rfl (Nat.le_of_ble_eq_true rfl) rfl ?_
    exact tj_k_ctor_79 hw hf
set_option maxRecDepth 65536 in
set_option maxHeartbeats 4000000 in
theorem tj_k_ctor_56 {l : Launch} {Z : State} {a0 : Array Value} (hw : ∀ d ∈ tables_1, d.before a0 Z = true) {n0 : Nat} {P : Heap → Prop} {F : Nat} {b0 : Nat} {Oz0 : Mo} {O0 : Mo} {v2 v3 : Int} (hf : j_k_ctor_56 F O0 v2 v3 = some Oz0) :
    G_k_ctor l Z n0 P 56 [some (vR b0), none, some (vI v2), some (vI v3), none] [] [(b0, 4, O0)] ((b0 + 5)) 4 128 (QM Z D n0 P none [(b0, 4, Oz0)] (b0 + 5)) := by
  unfold j_k_ctor_56 at hf
  refine Go.iloadN (pc2 := 57) d_k_ctor_56 rfl rfl ?_
  refine Go.istore (pc2 := 59) (L2 := [some (vR b0), none, some (vI v2), some (vI v3), some (vI v2)]) d_k_ctor_57 rfl (Nat.le_of_ble_eq_true rfl) rfl ?_
  refine Go.iload (pc2 := 61) d_k_ctor_59 rfl rfl ?_
  refine Go.iconst (pc2 := 62) d_k_ctor_61 rfl (by decide) ?_
  by_cases hc : v2 < 1
  · replace hf := ifp hc hf
    refine Go.icmpF (pc2 := 65) d_k_ctor_62 (Int.not_le.mpr hc) rfl ?_
    refine Go.iconst (pc2 := 66) d_k_ctor_65 rfl (by decide) ?_
    refine Go.istore (pc2 := 68) (L2 := [some (vR b0), none, some (vI v2), some (vI v3), some (vI 1)]) d_k_ctor_66 rfl (Nat.le_of_ble_eq_true rfl) rfl ?_
    exact Go.mask [true, true, false, true, true] (tj_k_ctor_68 hw hf)
  · replace hf := ifn hc hf
    refine Go.icmpT (pc2 := 68) d_k_ctor_62 (Int.not_lt.mp hc) (by decide) (by decide) ?_
    exact Go.mask [true, true, false, true, true] (tj_k_ctor_68 hw hf)
set_option maxRecDepth 65536 in
set_option maxHeartbeats 4000000 in
theorem tj_k_ctor_47 {l : Launch} {Z : State} {a0 : Array Value} (hw : ∀ d ∈ tables_1, d.before a0 Z = true) {n0 : Nat} {P : Heap → Prop} {F : Nat} {b0 : Nat} {Oz0 : Mo} {O0 : Mo} {v2 v3 : Int} (hf : j_k_ctor_47 F O0 v2 v3 = some Oz0) :
    G_k_ctor l Z n0 P 47 [some (vR b0), none, some (vI v2), some (vI v3), none] [] [(b0, 4, O0)] ((b0 + 5)) 4 128 (QM Z D n0 P none [(b0, 4, Oz0)] (b0 + 5)) := by
  unfold j_k_ctor_47 at hf
  refine Go.iloadN (pc2 := 48) d_k_ctor_47 rfl rfl ?_
  refine Go.bipush (pc2 := 50) d_k_ctor_48 rfl (by decide) ?_
  by_cases hc : v3 ≤ 32
  · replace hf := ifp hc hf
    refine Go.icmpT (pc2 := 56) d_k_ctor_50 hc (by decide) (by decide) ?_
    exact tj_k_ctor_56 hw hf
  · replace hf := ifn hc hf
    refine Go.icmpF (pc2 := 53) d_k_ctor_50 hc rfl ?_
    refine Go.bipush (pc2 := 55) d_k_ctor_53 rfl (by decide) ?_
    refine Go.istoreN (pc2 := 56) (L2 := [some (vR b0), none, some (vI v2), some (vI 32), none]) d_k_ctor_55 rfl (Nat.le_of_ble_eq_true rfl) rfl ?_
    exact tj_k_ctor_56 hw hf
set_option maxRecDepth 65536 in
set_option maxHeartbeats 4000000 in
theorem th_k_ctor {l : Launch} {Z : State} {a0 : Array Value} (hw : ∀ d ∈ tables_1, d.before a0 Z = true) {n0 : Nat} {P : Heap → Prop} {F : Nat} {b0 : Nat} {Oz0 : Mo} {v1 v2 : Int} (hf : k_ctor F v1 v2 = some Oz0) :
    Meth l Z D n0 P (⟨"MinCircle", "<init>", "(II)V"⟩ : MethodName) prog_1_method_1_code 5 none R_k_ctor [vR b0, vI v1, vI v2] [(b0, 0, zM)] (b0 + 1) (QM Z D n0 P none [(b0, 4, Oz0)] (b0 + 5)) := by
  refine Meth.of (plainFor_of_name pn_cls) (Nat.le_of_ble_eq_true rfl) ?_
  show G_k_ctor l Z n0 P 0 [some (vR b0), some (vI v1), some (vI v2), none, none] [] [(b0, 0, zM)] ((b0 + 1)) 0 0 (QM Z D n0 P none [(b0, 4, Oz0)] (b0 + 5))
  unfold k_ctor at hf
  refine Go.aloadN (pc2 := 1) d_k_ctor_0 rfl rfl ?_
  refine Go.inito (pc2 := 4) d_k_ctor_1 rfl rfl (by exact w_13 hw) (by exact w_14 hw) (by exact w_15 hw) (by decide) (Nat.le_of_ble_eq_true rfl) ?_
  refine Go.aloadN (pc2 := 5) d_k_ctor_4 rfl rfl ?_
  refine Go.bipush (pc2 := 7) d_k_ctor_5 rfl (by decide) ?_
  refine Go.mkarr (pc3 := 9) (pc2 := 12) (cw_ok hw) d_k_ctor_7 d_k_ctor_9 rfl rfl (by exact w_16 hw) rfl D_C (by exact w_17 hw) (by exact Or.inl (w_18 hw)) (by exact w_1 hw) (q := 0) rfl (len := 32) rfl rfl (fun _ => rfl) rfl (by decide) (by decide) (os2 := [(b0, 1, zM)]) rfl (sz2 := (b0 + 2)) rfl (cu2 := 1) rfl (su2 := 32) rfl ?_
  refine Go.aloadN (pc2 := 13) d_k_ctor_12 rfl rfl ?_
  refine Go.bipush (pc2 := 15) d_k_ctor_13 rfl (by decide) ?_
  refine Go.mkarr (pc3 := 17) (pc2 := 20) (cw_ok hw) d_k_ctor_15 d_k_ctor_17 rfl rfl (by exact w_16 hw) rfl D_C (by exact w_19 hw) (by exact Or.inl (w_20 hw)) (by exact w_1 hw) (q := 0) rfl (len := 32) rfl rfl (fun _ => rfl) rfl (by decide) (by decide) (os2 := [(b0, 2, zM)]) rfl (sz2 := (b0 + 3)) rfl (cu2 := 2) rfl (su2 := 64) rfl ?_
  refine Go.aloadN (pc2 := 21) d_k_ctor_20 rfl rfl ?_
  refine Go.bipush (pc2 := 23) d_k_ctor_21 rfl (by decide) ?_
  refine Go.mkarr (pc3 := 25) (pc2 := 28) (cw_ok hw) d_k_ctor_23 d_k_ctor_25 rfl rfl (by exact w_16 hw) rfl D_C (by exact w_21 hw) (by exact Or.inl (w_22 hw)) (by exact w_1 hw) (q := 0) rfl (len := 32) rfl rfl (fun _ => rfl) rfl (by decide) (by decide) (os2 := [(b0, 3, zM)]) rfl (sz2 := (b0 + 4)) rfl (cu2 := 3) rfl (su2 := 96) rfl ?_
  refine Go.aloadN (pc2 := 29) d_k_ctor_28 rfl rfl ?_
  refine Go.bipush (pc2 := 31) d_k_ctor_29 rfl (by decide) ?_
  refine Go.mkarr (pc3 := 33) (pc2 := 36) (cw_ok hw) d_k_ctor_31 d_k_ctor_33 rfl rfl (by exact w_23 hw) rfl D_C (by exact w_24 hw) (by exact Or.inl (w_25 hw)) (by exact w_1 hw) (q := 0) rfl (len := 32) rfl rfl (fun _ => rfl) rfl (by decide) (by decide) (os2 := [(b0, 4, zM)]) rfl (sz2 := (b0 + 5)) rfl (cu2 := 4) rfl (su2 := 128) rfl ?_
  refine Go.iloadN (pc2 := 37) d_k_ctor_36 rfl rfl ?_
  refine Go.istoreN (pc2 := 38) (L2 := [some (vR b0), some (vI v1), some (vI v2), some (vI v1), none]) d_k_ctor_37 rfl (Nat.le_of_ble_eq_true rfl) rfl ?_
  refine Go.iloadN (pc2 := 39) d_k_ctor_38 rfl rfl ?_
  refine Go.bipush (pc2 := 41) d_k_ctor_39 rfl (by decide) ?_
  by_cases hc : v1 < 8
  · replace hf := ifp hc hf
    refine Go.icmpF (pc2 := 44) d_k_ctor_41 (Int.not_le.mpr hc) rfl ?_
    refine Go.bipush (pc2 := 46) d_k_ctor_44 rfl (by decide) ?_
    refine Go.istoreN (pc2 := 47) (L2 := [some (vR b0), some (vI v1), some (vI v2), some (vI 8), none]) d_k_ctor_46 rfl (Nat.le_of_ble_eq_true rfl) rfl ?_
    exact Go.mask [true, false, true, true, true] (tj_k_ctor_47 hw hf)
  · replace hf := ifn hc hf
    refine Go.icmpT (pc2 := 47) d_k_ctor_41 (Int.not_lt.mp hc) (by decide) (by decide) ?_
    exact Go.mask [true, false, true, true, true] (tj_k_ctor_47 hw hf)
set_option maxRecDepth 65536 in
set_option maxHeartbeats 4000000 in
theorem th_k_inRange {l : Launch} {Z : State} {a0 : Array Value} (hw : ∀ d ∈ tables_1, d.before a0 Z = true) {n0 : Nat} {P : Heap → Prop} {b0 sz : Nat} {rr : Int} {O0 : Mo} {v1 v2 : Int} (hf : k_inRange v1 v2 = rr) :
    Meth l Z D n0 P (⟨"MinCircle", "inRange", "(II)Z"⟩ : MethodName) prog_1_method_18_code 3 (some .boolean) R_k_inRange [vR b0, vI v1, vI v2] [(b0, 4, O0)] sz (QM Z D n0 P (some (vI rr)) [(b0, 4, O0)] sz) := by
  refine Meth.of (plainFor_of_name pn_cls) (Nat.le_of_ble_eq_true rfl) ?_
  show G_k_inRange l Z n0 P 0 [some (vR b0), some (vI v1), some (vI v2)] [] [(b0, 4, O0)] sz 0 0 (QM Z D n0 P (some (vI rr)) [(b0, 4, O0)] sz)
  unfold k_inRange at hf
  refine Go.iloadN (pc2 := 1) d_k_inRange_0 rfl rfl ?_
  refine Go.sipush (pc2 := 4) d_k_inRange_1 rfl (by decide) ?_
  by_cases hc : v1 < (-255)
  · replace hf := ifp hc hf
    refine Go.icmpT (pc2 := 32) d_k_inRange_4 hc (by decide) (by decide) ?_
    refine Go.iconst (pc2 := 33) d_k_inRange_32 rfl (by decide) ?_
    cases hf
    exact Go.retz d_k_inRange_33 rfl rfl (Nat.le_of_ble_eq_true rfl) (Nat.le_of_ble_eq_true rfl) (fun _ H => ⟨rfl, H⟩)
  · replace hf := ifn hc hf
    refine Go.icmpF (pc2 := 7) d_k_inRange_4 hc rfl ?_
    refine Go.iloadN (pc2 := 8) d_k_inRange_7 rfl rfl ?_
    refine Go.sipush (pc2 := 11) d_k_inRange_8 rfl (by decide) ?_
    by_cases hc : 255 < v1
    · replace hf := ifp hc hf
      refine Go.icmpT (pc2 := 32) d_k_inRange_11 hc (by decide) (by decide) ?_
      refine Go.iconst (pc2 := 33) d_k_inRange_32 rfl (by decide) ?_
      cases hf
      exact Go.retz d_k_inRange_33 rfl rfl (Nat.le_of_ble_eq_true rfl) (Nat.le_of_ble_eq_true rfl) (fun _ H => ⟨rfl, H⟩)
    · replace hf := ifn hc hf
      refine Go.icmpF (pc2 := 14) d_k_inRange_11 hc rfl ?_
      refine Go.iloadN (pc2 := 15) d_k_inRange_14 rfl rfl ?_
      refine Go.sipush (pc2 := 18) d_k_inRange_15 rfl (by decide) ?_
      by_cases hc : v2 < (-255)
      · replace hf := ifp hc hf
        refine Go.icmpT (pc2 := 32) d_k_inRange_18 hc (by decide) (by decide) ?_
        refine Go.iconst (pc2 := 33) d_k_inRange_32 rfl (by decide) ?_
        cases hf
        exact Go.retz d_k_inRange_33 rfl rfl (Nat.le_of_ble_eq_true rfl) (Nat.le_of_ble_eq_true rfl) (fun _ H => ⟨rfl, H⟩)
      · replace hf := ifn hc hf
        refine Go.icmpF (pc2 := 21) d_k_inRange_18 hc rfl ?_
        refine Go.iloadN (pc2 := 22) d_k_inRange_21 rfl rfl ?_
        refine Go.sipush (pc2 := 25) d_k_inRange_22 rfl (by decide) ?_
        by_cases hc : 255 < v2
        · replace hf := ifp hc hf
          refine Go.icmpT (pc2 := 32) d_k_inRange_25 hc (by decide) (by decide) ?_
          refine Go.iconst (pc2 := 33) d_k_inRange_32 rfl (by decide) ?_
          cases hf
          exact Go.retz d_k_inRange_33 rfl rfl (Nat.le_of_ble_eq_true rfl) (Nat.le_of_ble_eq_true rfl) (fun _ H => ⟨rfl, H⟩)
        · replace hf := ifn hc hf
          refine Go.icmpF (pc2 := 28) d_k_inRange_25 hc rfl ?_
          refine Go.iconst (pc2 := 29) d_k_inRange_28 rfl (by decide) ?_
          refine Go.goto (pc2 := 33) d_k_inRange_29 (by decide) (by decide) ?_
          cases hf
          exact Go.retz d_k_inRange_33 rfl rfl (Nat.le_of_ble_eq_true rfl) (Nat.le_of_ble_eq_true rfl) (fun _ H => ⟨rfl, H⟩)
set_option maxRecDepth 65536 in
set_option maxHeartbeats 4000000 in
theorem tb_k_addPoint_26 {l : Launch} {Z : State} {a0 : Array Value} (hw : ∀ d ∈ tables_1, d.before a0 Z = true) {n0 : Nat} {P : Heap → Prop} {F : Nat} {b0 sz : Nat} {rr : Int} {Oz0 : Mo} {c26_1 c26_2 : Int} {C26_0 : Mo} {v3 : Int} {x : Int ⊕ (Unit ⊕ ((Int × Mo)))} (hf : b_k_addPoint_26 F C26_0 c26_1 c26_2 v3 = some x) (K : Sum.elim (fun s => G_k_addPoint l Z n0 P 26 [some (vR b0), some (vI c26_1), some (vI c26_2), some (vI s)] [] [(b0, 4, C26_0)] sz 0 0 (QM Z D n0 P (some (vI rr)) [(b0, 4, Oz0)] sz)) (Sum.elim (fun rz => G_k_addPoint l Z n0 P 62 [some (vR b0), some (vI c26_1), some (vI c26_2), none] [] [(b0, 4, C26_0)] sz 0 0 (QM Z D n0 P (some (vI rr)) [(b0, 4, Oz0)] sz)) (fun rz => rz = (rr, Oz0))) x) :
    G_k_addPoint l Z n0 P 26 [some (vR b0), some (vI c26_1), some (vI c26_2), some (vI v3)] [] [(b0, 4, C26_0)] sz 0 0 (QM Z D n0 P (some (vI rr)) [(b0, 4, Oz0)] sz) := by
  unfold b_k_addPoint_26 at hf
  refine Go.iloadN (pc2 := 27) d_k_addPoint_26 rfl rfl ?_
  refine Go.aloadN (pc2 := 28) d_k_addPoint_27 rfl rfl ?_
  refine Go.getf (pc2 := 31) d_k_addPoint_28 rfl rfl D_C (by exact w_31 hw) (q := 0) rfl (x := C26_0 0 2) (u := vI (C26_0 0 2)) (fs_n) rfl rfl ?_
  by_cases hc : v3 < C26_0 0 2
  · replace hf := ifp hc hf
    refine Go.icmpF (pc2 := 34) d_k_addPoint_31 (Int.not_le.mpr hc) rfl ?_
    refine Go.aloadN (pc2 := 35) d_k_addPoint_34 rfl rfl ?_
    refine Go.geta (pc2 := 38) d_k_addPoint_35 rfl rfl D_C (by exact w_17 hw) (q := 0) rfl (j := 0) rfl (Nat.le_of_ble_eq_true rfl) rfl ?_
    refine Go.iloadN (pc2 := 39) d_k_addPoint_38 rfl rfl ?_
    have hb := okb hf
    replace hf := ifp hb hf
    refine Go.iald (pc2 := 40) d_k_addPoint_39 rfl (q := 0) rfl (j := 0) rfl (Nat.le_of_ble_eq_true rfl) rfl hb (z := C26_0 1 v3.toNat) rfl ?_
    refine Go.iloadN (pc2 := 41) d_k_addPoint_40 rfl rfl ?_
    by_cases hc : C26_0 1 v3.toNat = c26_1
    · replace hf := ifp hc hf
      refine Go.icmpF (pc2 := 44) d_k_addPoint_41 (fun q => q hc) rfl ?_
      refine Go.aloadN (pc2 := 45) d_k_addPoint_44 rfl rfl ?_
      refine Go.geta (pc2 := 48) d_k_addPoint_45 rfl rfl D_C (by exact w_19 hw) (q := 0) rfl (j := 1) rfl (Nat.le_of_ble_eq_true rfl) rfl ?_
      refine Go.iloadN (pc2 := 49) d_k_addPoint_48 rfl rfl ?_
      have hb := okb hf
      replace hf := ifp hb hf
      refine Go.iald (pc2 := 50) d_k_addPoint_49 rfl (q := 0) rfl (j := 1) rfl (Nat.le_of_ble_eq_true rfl) rfl hb (z := C26_0 2 v3.toNat) rfl ?_
      refine Go.iloadN (pc2 := 51) d_k_addPoint_50 rfl rfl ?_
      by_cases hc : C26_0 2 v3.toNat = c26_2
      · replace hf := ifp hc hf
        refine Go.icmpF (pc2 := 54) d_k_addPoint_51 (fun q => q hc) rfl ?_
        refine Go.iconst (pc2 := 55) d_k_addPoint_54 rfl (by decide) ?_
        cases hf
        replace K : ((-1), C26_0) = (rr, Oz0) := K
        cases K
        exact Go.reti d_k_addPoint_55 rfl (Nat.le_of_ble_eq_true rfl) (Nat.le_of_ble_eq_true rfl) (fun _ H => ⟨rfl, H⟩)
      · replace hf := ifn hc hf
        refine Go.icmpT (pc2 := 56) d_k_addPoint_51 hc (by decide) (by decide) ?_
        refine Go.iinc (pc2 := 59) (L2 := [some (vR b0), some (vI c26_1), some (vI c26_2), some (vI (w32 (v3 + 1)))]) d_k_addPoint_56 rfl rfl rfl ?_
        refine Go.goto (pc2 := 26) d_k_addPoint_59 (by decide) (by decide) ?_
        cases hf
        exact K
    · replace hf := ifn hc hf
      refine Go.icmpT (pc2 := 56) d_k_addPoint_41 hc (by decide) (by decide) ?_
      refine Go.iinc (pc2 := 59) (L2 := [some (vR b0), some (vI c26_1), some (vI c26_2), some (vI (w32 (v3 + 1)))]) d_k_addPoint_56 rfl rfl rfl ?_
      refine Go.goto (pc2 := 26) d_k_addPoint_59 (by decide) (by decide) ?_
      cases hf
      exact K
  · replace hf := ifn hc hf
    refine Go.icmpT (pc2 := 62) d_k_addPoint_31 (Int.not_lt.mp hc) (by decide) (by decide) ?_
    cases hf
    exact Go.mask [true, true, true, false] K
set_option maxRecDepth 65536 in
set_option maxHeartbeats 4000000 in
theorem th_k_addPoint {l : Launch} {Z : State} {a0 : Array Value} (hw : ∀ d ∈ tables_1, d.before a0 Z = true) {n0 : Nat} {P : Heap → Prop} {F : Nat} {b0 sz : Nat} {rr : Int} {Oz0 : Mo} {O0 : Mo} {v1 v2 : Int} (hf : k_addPoint F O0 v1 v2 = some ((rr, Oz0))) :
    Meth l Z D n0 P (⟨"MinCircle", "addPoint", "(II)I"⟩ : MethodName) prog_1_method_2_code 4 (some .int) R_k_addPoint [vR b0, vI v1, vI v2] [(b0, 4, O0)] sz (QM Z D n0 P (some (vI rr)) [(b0, 4, Oz0)] sz) := by
  refine Meth.of (plainFor_of_name pn_cls) (Nat.le_of_ble_eq_true rfl) ?_
  show G_k_addPoint l Z n0 P 0 [some (vR b0), some (vI v1), some (vI v2), none] [] [(b0, 4, O0)] sz 0 0 (QM Z D n0 P (some (vI rr)) [(b0, 4, Oz0)] sz)
  unfold k_addPoint at hf
  refine Go.aloadN (pc2 := 1) d_k_addPoint_0 rfl rfl ?_
  refine Go.iloadN (pc2 := 2) d_k_addPoint_1 rfl rfl ?_
  refine Go.iloadN (pc2 := 3) d_k_addPoint_2 rfl rfl ?_
  refine Go.callp (pc2 := 6) (as := [vI v1, vI v2]) (S := []) (w := (some (vI (k_inRange v1 v2)))) (os2 := [(b0, 4, O0)]) (sz2 := sz) (S2 := [vI (k_inRange v1 v2)]) (rm := R_k_inRange) d_k_addPoint_3 rfl rfl (by exact w_42 hw) (by exact w_44 hw) (by exact w_43 hw) (by exact w_45 hw) rfl (by exact w_2 hw) (by exact w_1 hw) (q := 0) rfl (by decide) pd_k_inRange (by decide) (Nat.le_of_ble_eq_true rfl) (by decide) (by decide) (nc := 0) (ns := 0) rfl rfl rfl (cu2 := 0) rfl (su2 := 0) rfl rfl (Pays.one (q := 0) rfl rfl (fun P2 hP2 => th_k_inRange hw rfl)) rfl ?_
  by_cases hc : k_inRange v1 v2 = 0
  · replace hf := ifp hc hf
    refine Go.ifF (pc2 := 9) d_k_addPoint_6 (fun q => q hc) rfl ?_
    refine Go.iconst (pc2 := 10) d_k_addPoint_9 rfl (by decide) ?_
    cases hf
    exact Go.reti d_k_addPoint_10 rfl (Nat.le_of_ble_eq_true rfl) (Nat.le_of_ble_eq_true rfl) (fun _ H => ⟨rfl, H⟩)
  · replace hf := ifn hc hf
    refine Go.ifT (pc2 := 11) d_k_addPoint_6 hc (by decide) (by decide) ?_
    refine Go.aloadN (pc2 := 12) d_k_addPoint_11 rfl rfl ?_
    refine Go.getf (pc2 := 15) d_k_addPoint_12 rfl rfl D_C (by exact w_31 hw) (q := 0) rfl (x := O0 0 2) (u := vI (O0 0 2)) (fs_n) rfl rfl ?_
    refine Go.aloadN (pc2 := 16) d_k_addPoint_15 rfl rfl ?_
    refine Go.getf (pc2 := 19) d_k_addPoint_16 rfl rfl D_C (by exact w_27 hw) (q := 0) rfl (x := O0 0 0) (u := vI (O0 0 0)) (fs_cap) rfl rfl ?_
    by_cases hc : O0 0 2 < O0 0 0
    · replace hf := ifp hc hf
      refine Go.icmpT (pc2 := 24) d_k_addPoint_19 hc (by decide) (by decide) ?_
      refine Go.iconst (pc2 := 25) d_k_addPoint_24 rfl (by decide) ?_
      refine Go.istoreN (pc2 := 26) (L2 := [some (vR b0), some (vI v1), some (vI v2), some (vI 0)]) d_k_addPoint_25 rfl (Nat.le_of_ble_eq_true rfl) rfl ?_
      refine loop_go hf (Gs := fun s => G_k_addPoint l Z n0 P 26 [some (vR b0), some (vI v1), some (vI v2), some (vI s)] [] [(b0, 4, O0)] sz 0 0 (QM Z D n0 P (some (vI rr)) [(b0, 4, Oz0)] sz)) (Gr := (Sum.elim (fun rz => G_k_addPoint l Z n0 P 62 [some (vR b0), some (vI v1), some (vI v2), none] [] [(b0, 4, O0)] sz 0 0 (QM Z D n0 P (some (vI rr)) [(b0, 4, Oz0)] sz)) (fun rz => rz = (rr, Oz0)))) (fun s x hx K => tb_k_addPoint_26 (F := F) (C26_0 := O0) (c26_1 := v1) (c26_2 := v2) (v3 := s) (x := x) hw hx K) ?_
      clear hf
      intro r hf
      rcases r with r_1 | r_2
      · dsimp only [Sum.elim_inl] at hf ⊢
        refine Go.aloadN (pc2 := 63) d_k_addPoint_62 rfl rfl ?_
        refine Go.getf (pc2 := 66) d_k_addPoint_63 rfl rfl D_C (by exact w_31 hw) (q := 0) rfl (x := O0 0 2) (u := vI (O0 0 2)) (fs_n) rfl rfl ?_
        refine Go.istoreN (pc2 := 67) (L2 := [some (vR b0), some (vI v1), some (vI v2), some (vI (O0 0 2))]) d_k_addPoint_66 rfl (Nat.le_of_ble_eq_true rfl) rfl ?_
        refine Go.aloadN (pc2 := 68) d_k_addPoint_67 rfl rfl ?_
        refine Go.geta (pc2 := 71) d_k_addPoint_68 rfl rfl D_C (by exact w_17 hw) (q := 0) rfl (j := 0) rfl (Nat.le_of_ble_eq_true rfl) rfl ?_
        refine Go.iloadN (pc2 := 72) d_k_addPoint_71 rfl rfl ?_
        refine Go.iloadN (pc2 := 73) d_k_addPoint_72 rfl rfl ?_
        have hb := okb hf
        replace hf := ifp hb hf
        refine Go.iast (pc2 := 74) d_k_addPoint_73 rfl (q := 0) rfl (j := 0) rfl (Nat.le_of_ble_eq_true rfl) rfl hb (z := v1) (z' := v1) rfl (os2 := [(b0, 4, (upd O0 1 ((O0 0 2).toNat) v1))]) rfl ?_
        refine Go.aloadN (pc2 := 75) d_k_addPoint_74 rfl rfl ?_
        refine Go.geta (pc2 := 78) d_k_addPoint_75 rfl rfl D_C (by exact w_19 hw) (q := 0) rfl (j := 1) rfl (Nat.le_of_ble_eq_true rfl) rfl ?_
        refine Go.iloadN (pc2 := 79) d_k_addPoint_78 rfl rfl ?_
        refine Go.iloadN (pc2 := 80) d_k_addPoint_79 rfl rfl ?_
        have hb := okb hf
        replace hf := ifp hb hf
        refine Go.iast (pc2 := 81) d_k_addPoint_80 rfl (q := 0) rfl (j := 1) rfl (Nat.le_of_ble_eq_true rfl) rfl hb (z := v2) (z' := v2) rfl (os2 := [(b0, 4, (upd (upd O0 1 ((O0 0 2).toNat) v1) 2 ((O0 0 2).toNat) v2))]) rfl ?_
        refine Go.aloadN (pc2 := 82) d_k_addPoint_81 rfl rfl ?_
        refine Go.iloadN (pc2 := 83) d_k_addPoint_82 rfl rfl ?_
        refine Go.iconst (pc2 := 84) d_k_addPoint_83 rfl (by decide) ?_
        refine Go.iadd (pc2 := 85) d_k_addPoint_84 rfl ?_
        refine Go.putf (pc2 := 88) (cw_ok hw) d_k_addPoint_85 rfl rfl D_C (by exact w_31 hw) (by exact Or.inl (w_32 hw)) (by exact w_1 hw) (q := 0) rfl (x := w32 ((O0 0 2) + 1)) (x' := w32 ((O0 0 2) + 1)) (fs_n) rfl rfl (os2 := [(b0, 4, (upd (upd (upd O0 1 ((O0 0 2).toNat) v1) 2 ((O0 0 2).toNat) v2) 0 2 (w32 ((O0 0 2) + 1))))]) rfl ?_
        refine Go.aloadN (pc2 := 89) d_k_addPoint_88 rfl rfl ?_
        refine Go.iconst (pc2 := 90) d_k_addPoint_89 rfl (by decide) ?_
        refine Go.putf (pc2 := 93) (cw_ok hw) d_k_addPoint_90 rfl rfl D_C (by exact w_33 hw) (by exact Or.inl (w_34 hw)) (by exact w_1 hw) (q := 0) rfl (x := 0) (x' := 0) (fs_solved) rfl rfl (os2 := [(b0, 4, (upd (upd (upd (upd O0 1 ((O0 0 2).toNat) v1) 2 ((O0 0 2).toNat) v2) 0 2 (w32 ((O0 0 2) + 1))) 0 3 0))]) rfl ?_
        refine Go.iloadN (pc2 := 94) d_k_addPoint_93 rfl rfl ?_
        cases hf
        exact Go.reti d_k_addPoint_94 rfl (Nat.le_of_ble_eq_true rfl) (Nat.le_of_ble_eq_true rfl) (fun _ H => ⟨rfl, H⟩)
      · dsimp only [Sum.elim_inr] at hf ⊢
        cases hf
        rfl
    · replace hf := ifn hc hf
      refine Go.icmpF (pc2 := 22) d_k_addPoint_19 hc rfl ?_
      refine Go.iconst (pc2 := 23) d_k_addPoint_22 rfl (by decide) ?_
      cases hf
      exact Go.reti d_k_addPoint_23 rfl (Nat.le_of_ble_eq_true rfl) (Nat.le_of_ble_eq_true rfl) (fun _ H => ⟨rfl, H⟩)
set_option maxRecDepth 65536 in
set_option maxHeartbeats 4000000 in
theorem th_k_nextRand {l : Launch} {Z : State} {a0 : Array Value} (hw : ∀ d ∈ tables_1, d.before a0 Z = true) {n0 : Nat} {P : Heap → Prop} {F : Nat} {b0 sz : Nat} {rr : Int} {Oz0 : Mo} {O0 : Mo} {v1 : Int} (hf : k_nextRand F O0 v1 = some ((rr, Oz0))) :
    Meth l Z D n0 P (⟨"MinCircle", "nextRand", "(I)I"⟩ : MethodName) prog_1_method_19_code 3 (some .int) R_k_nextRand [vR b0, vI v1] [(b0, 4, O0)] sz (QM Z D n0 P (some (vI rr)) [(b0, 4, Oz0)] sz) := by
  refine Meth.of (plainFor_of_name pn_cls) (Nat.le_of_ble_eq_true rfl) ?_
  show G_k_nextRand l Z n0 P 0 [some (vR b0), some (vI v1), none] [] [(b0, 4, O0)] sz 0 0 (QM Z D n0 P (some (vI rr)) [(b0, 4, Oz0)] sz)
  unfold k_nextRand at hf
  refine Go.aloadN (pc2 := 1) d_k_nextRand_0 rfl rfl ?_
  refine Go.aloadN (pc2 := 2) d_k_nextRand_1 rfl rfl ?_
  refine Go.getf (pc2 := 5) d_k_nextRand_2 rfl rfl D_C (by exact w_29 hw) (q := 0) rfl (x := O0 0 1) (u := vI (O0 0 1)) (fs_rng) rfl rfl ?_
  refine Go.ldc (pc2 := 7) (i := 1103515245) d_k_nextRand_5 rfl rfl (by exact w_67 hw) (by decide) ?_
  refine Go.imul (pc2 := 8) d_k_nextRand_7 rfl ?_
  refine Go.sipush (pc2 := 11) d_k_nextRand_8 rfl (by decide) ?_
  refine Go.iadd (pc2 := 12) d_k_nextRand_11 rfl ?_
  refine Go.putf (pc2 := 15) (cw_ok hw) d_k_nextRand_12 rfl rfl D_C (by exact w_29 hw) (by exact Or.inl (w_30 hw)) (by exact w_1 hw) (q := 0) rfl (x := w32 ((w32 ((O0 0 1) * 1103515245)) + 12345)) (x' := w32 ((w32 ((O0 0 1) * 1103515245)) + 12345)) (fs_rng) rfl rfl (os2 := [(b0, 4, (upd O0 0 1 (w32 ((w32 ((O0 0 1) * 1103515245)) + 12345))))]) rfl ?_
  refine Go.aloadN (pc2 := 16) d_k_nextRand_15 rfl rfl ?_
  refine Go.getf (pc2 := 19) d_k_nextRand_16 rfl rfl D_C (by exact w_29 hw) (q := 0) rfl (x := w32 ((w32 ((O0 0 1) * 1103515245)) + 12345)) (u := vI (w32 ((w32 ((O0 0 1) * 1103515245)) + 12345))) (fs_rng) rfl rfl ?_
  refine Go.bipush (pc2 := 21) d_k_nextRand_19 rfl (by decide) ?_
  refine Go.iushr (pc2 := 22) d_k_nextRand_21 rfl ?_
  refine Go.ldc (pc2 := 24) (i := 8388607) d_k_nextRand_22 rfl rfl (by exact w_68 hw) (by decide) ?_
  refine Go.iand (pc2 := 25) d_k_nextRand_24 rfl ?_
  refine Go.istoreN (pc2 := 26) (L2 := [some (vR b0), some (vI v1), some (vI (and32 (ushr32 (w32 ((w32 ((O0 0 1) * 1103515245)) + 12345)) 8) 8388607))]) d_k_nextRand_25 rfl (Nat.le_of_ble_eq_true rfl) rfl ?_
  refine lt_in hf (G := fun v2 => G_k_nextRand l Z n0 P 26 [some (vR b0), some (vI v1), some (vI v2)] [] [(b0, 4, (upd O0 0 1 (w32 ((w32 ((O0 0 1) * 1103515245)) + 12345))))] sz 0 0 (QM Z D n0 P (some (vI rr)) [(b0, 4, Oz0)] sz)) ?_
  clear hf
  intro v2 hf
  refine Go.iloadN (pc2 := 27) d_k_nextRand_26 rfl rfl ?_
  by_cases hc : 0 < v1
  · replace hf := ifp hc hf
    refine Go.ifT (pc2 := 32) d_k_nextRand_27 hc (by decide) (by decide) ?_
    refine Go.iloadN (pc2 := 33) d_k_nextRand_32 rfl rfl ?_
    refine Go.iloadN (pc2 := 34) d_k_nextRand_33 rfl rfl ?_
    have hb := okn hf
    replace hf := ifn hb hf
    refine Go.irem (pc2 := 35) d_k_nextRand_34 rfl hb ?_
    cases hf
    exact Go.reti d_k_nextRand_35 rfl (Nat.le_of_ble_eq_true rfl) (Nat.le_of_ble_eq_true rfl) (fun _ H => ⟨rfl, H⟩)
  · replace hf := ifn hc hf
    refine Go.ifF (pc2 := 30) d_k_nextRand_27 hc rfl ?_
    refine Go.iconst (pc2 := 31) d_k_nextRand_30 rfl (by decide) ?_
    cases hf
    exact Go.reti d_k_nextRand_31 rfl (Nat.le_of_ble_eq_true rfl) (Nat.le_of_ble_eq_true rfl) (fun _ H => ⟨rfl, H⟩)
set_option maxRecDepth 65536 in
set_option maxHeartbeats 4000000 in
theorem tb_k_shuffle_2 {l : Launch} {Z : State} {a0 : Array Value} (hw : ∀ d ∈ tables_1, d.before a0 Z = true) {n0 : Nat} {P : Heap → Prop} {F : Nat} {b0 sz : Nat} {Oz0 : Mo} {v1 : Int} {O0 : Mo} {x : (Int × Mo) ⊕ (Mo)} (hf : b_k_shuffle_2 F v1 O0 = some x) (K : Sum.elim (fun s => G_k_shuffle l Z n0 P 2 [some (vR b0), some (vI s.1), none, none] [] [(b0, 4, s.2)] sz 0 0 (QM Z D n0 P none [(b0, 4, Oz0)] sz)) (fun rz => G_k_shuffle l Z n0 P 23 [some (vR b0), none, none, none] [] [(b0, 4, rz)] sz 0 0 (QM Z D n0 P none [(b0, 4, Oz0)] sz)) x) :
    G_k_shuffle l Z n0 P 2 [some (vR b0), some (vI v1), none, none] [] [(b0, 4, O0)] sz 0 0 (QM Z D n0 P none [(b0, 4, Oz0)] sz) := by
  unfold b_k_shuffle_2 at hf
  refine Go.iloadN (pc2 := 3) d_k_shuffle_2 rfl rfl ?_
  refine Go.aloadN (pc2 := 4) d_k_shuffle_3 rfl rfl ?_
  refine Go.getf (pc2 := 7) d_k_shuffle_4 rfl rfl D_C (by exact w_31 hw) (q := 0) rfl (x := O0 0 2) (u := vI (O0 0 2)) (fs_n) rfl rfl ?_
  by_cases hc : v1 < O0 0 2
  · replace hf := ifp hc hf
    refine Go.icmpF (pc2 := 10) d_k_shuffle_7 (Int.not_le.mpr hc) rfl ?_
    refine Go.aloadN (pc2 := 11) d_k_shuffle_10 rfl rfl ?_
    refine Go.geta (pc2 := 14) d_k_shuffle_11 rfl rfl D_C (by exact w_21 hw) (q := 0) rfl (j := 2) rfl (Nat.le_of_ble_eq_true rfl) rfl ?_
    refine Go.iloadN (pc2 := 15) d_k_shuffle_14 rfl rfl ?_
    refine Go.iloadN (pc2 := 16) d_k_shuffle_15 rfl rfl ?_
    have hb := okb hf
    replace hf := ifp hb hf
    refine Go.iast (pc2 := 17) d_k_shuffle_16 rfl (q := 0) rfl (j := 2) rfl (Nat.le_of_ble_eq_true rfl) rfl hb (z := v1) (z' := v1) rfl (os2 := [(b0, 4, (upd O0 3 (v1.toNat) v1))]) rfl ?_
    refine Go.iinc (pc2 := 20) (L2 := [some (vR b0), some (vI (w32 (v1 + 1))), none, none]) d_k_shuffle_17 rfl rfl rfl ?_
    refine Go.goto (pc2 := 2) d_k_shuffle_20 (by decide) (by decide) ?_
    cases hf
    exact K
  · replace hf := ifn hc hf
    refine Go.icmpT (pc2 := 23) d_k_shuffle_7 (Int.not_lt.mp hc) (by decide) (by decide) ?_
    cases hf
    exact Go.mask [true, false, true, true] K
set_option maxRecDepth 65536 in
set_option maxHeartbeats 4000000 in
theorem ti_k_shuffle_53 {l : Launch} {Z : State} {a0 : Array Value} (hw : ∀ d ∈ tables_1, d.before a0 Z = true) {n0 : Nat} {P : Heap → Prop} {F : Nat} {b0 sz : Nat} {Oz0 : Mo} {O0 : Mo} {v1 v2 : Int} {x : (Int × Mo) ⊕ (Mo)} (hf : i_k_shuffle_53 F O0 v1 v2 = some x) (K : Sum.elim (fun s => G_k_shuffle l Z n0 P 30 [some (vR b0), some (vI s.1), none, none] [] [(b0, 4, s.2)] sz 0 0 (QM Z D n0 P none [(b0, 4, Oz0)] sz)) (fun rz => G_k_shuffle l Z n0 P 85 [none, none, none, none] [] [(b0, 4, rz)] sz 0 0 (QM Z D n0 P none [(b0, 4, Oz0)] sz)) x) :
    G_k_shuffle l Z n0 P 53 [some (vR b0), some (vI v1), some (vI v2), none] [] [(b0, 4, O0)] sz 0 0 (QM Z D n0 P none [(b0, 4, Oz0)] sz) := by
  unfold i_k_shuffle_53 at hf
  refine Go.aloadN (pc2 := 54) d_k_shuffle_53 rfl rfl ?_
  refine Go.geta (pc2 := 57) d_k_shuffle_54 rfl rfl D_C (by exact w_21 hw) (q := 0) rfl (j := 2) rfl (Nat.le_of_ble_eq_true rfl) rfl ?_
  refine Go.iloadN (pc2 := 58) d_k_shuffle_57 rfl rfl ?_
  have hb := okb hf
  replace hf := ifp hb hf
  refine Go.iald (pc2 := 59) d_k_shuffle_58 rfl (q := 0) rfl (j := 2) rfl (Nat.le_of_ble_eq_true rfl) rfl hb (z := O0 3 v1.toNat) rfl ?_
  refine Go.istoreN (pc2 := 60) (L2 := [some (vR b0), some (vI v1), some (vI v2), some (vI (O0 3 v1.toNat))]) d_k_shuffle_59 rfl (Nat.le_of_ble_eq_true rfl) rfl ?_
  refine Go.aloadN (pc2 := 61) d_k_shuffle_60 rfl rfl ?_
  refine Go.geta (pc2 := 64) d_k_shuffle_61 rfl rfl D_C (by exact w_21 hw) (q := 0) rfl (j := 2) rfl (Nat.le_of_ble_eq_true rfl) rfl ?_
  refine Go.iloadN (pc2 := 65) d_k_shuffle_64 rfl rfl ?_
  refine Go.aloadN (pc2 := 66) d_k_shuffle_65 rfl rfl ?_
  refine Go.geta (pc2 := 69) d_k_shuffle_66 rfl rfl D_C (by exact w_21 hw) (q := 0) rfl (j := 2) rfl (Nat.le_of_ble_eq_true rfl) rfl ?_
  refine Go.iloadN (pc2 := 70) d_k_shuffle_69 rfl rfl ?_
  have hb := okb hf
  replace hf := ifp hb hf
  refine Go.iald (pc2 := 71) d_k_shuffle_70 rfl (q := 0) rfl (j := 2) rfl (Nat.le_of_ble_eq_true rfl) rfl hb (z := O0 3 v2.toNat) rfl ?_
  have hb := okb hf
  replace hf := ifp hb hf
  refine Go.iast (pc2 := 72) d_k_shuffle_71 rfl (q := 0) rfl (j := 2) rfl (Nat.le_of_ble_eq_true rfl) rfl hb (z := O0 3 v2.toNat) (z' := O0 3 v2.toNat) rfl (os2 := [(b0, 4, (upd O0 3 (v1.toNat) (O0 3 v2.toNat)))]) rfl ?_
  refine Go.aloadN (pc2 := 73) d_k_shuffle_72 rfl rfl ?_
  refine Go.geta (pc2 := 76) d_k_shuffle_73 rfl rfl D_C (by exact w_21 hw) (q := 0) rfl (j := 2) rfl (Nat.le_of_ble_eq_true rfl) rfl ?_
  refine Go.iloadN (pc2 := 77) d_k_shuffle_76 rfl rfl ?_
  refine Go.iloadN (pc2 := 78) d_k_shuffle_77 rfl rfl ?_
  have hb := okb hf
  replace hf := ifp hb hf
  refine Go.iast (pc2 := 79) d_k_shuffle_78 rfl (q := 0) rfl (j := 2) rfl (Nat.le_of_ble_eq_true rfl) rfl hb (z := O0 3 v1.toNat) (z' := O0 3 v1.toNat) rfl (os2 := [(b0, 4, (upd (upd O0 3 (v1.toNat) (O0 3 v2.toNat)) 3 (v2.toNat) (O0 3 v1.toNat)))]) rfl ?_
  refine Go.iinc (pc2 := 82) (L2 := [some (vR b0), some (vI (w32 (v1 + (-1)))), some (vI v2), some (vI (O0 3 v1.toNat))]) d_k_shuffle_79 rfl rfl rfl ?_
  refine Go.goto (pc2 := 30) d_k_shuffle_82 (by decide) (by decide) ?_
  cases hf
  exact Go.mask [true, true, false, false] K
set_option maxRecDepth 65536 in
set_option maxHeartbeats 4000000 in
theorem ti_k_shuffle_51 {l : Launch} {Z : State} {a0 : Array Value} (hw : ∀ d ∈ tables_1, d.before a0 Z = true) {n0 : Nat} {P : Heap → Prop} {F : Nat} {b0 sz : Nat} {Oz0 : Mo} {O0 : Mo} {v1 : Int} {x : (Int × Mo) ⊕ (Mo)} (hf : i_k_shuffle_51 F O0 v1 = some x) (K : Sum.elim (fun s => G_k_shuffle l Z n0 P 30 [some (vR b0), some (vI s.1), none, none] [] [(b0, 4, s.2)] sz 0 0 (QM Z D n0 P none [(b0, 4, Oz0)] sz)) (fun rz => G_k_shuffle l Z n0 P 85 [none, none, none, none] [] [(b0, 4, rz)] sz 0 0 (QM Z D n0 P none [(b0, 4, Oz0)] sz)) x) :
    G_k_shuffle l Z n0 P 51 [some (vR b0), some (vI v1), none, none] [] [(b0, 4, O0)] sz 0 0 (QM Z D n0 P none [(b0, 4, Oz0)] sz) := by
  unfold i_k_shuffle_51 at hf
  refine Go.iloadN (pc2 := 52) d_k_shuffle_51 rfl rfl ?_
  refine Go.istoreN (pc2 := 53) (L2 := [some (vR b0), some (vI v1), some (vI v1), none]) d_k_shuffle_52 rfl (Nat.le_of_ble_eq_true rfl) rfl ?_
  exact ti_k_shuffle_53 hw hf K
set_option maxRecDepth 65536 in
set_option maxHeartbeats 4000000 in
theorem tb_k_shuffle_30 {l : Launch} {Z : State} {a0 : Array Value} (hw : ∀ d ∈ tables_1, d.before a0 Z = true) {n0 : Nat} {P : Heap → Prop} {F : Nat} {b0 sz : Nat} {Oz0 : Mo} {v1 : Int} {O0 : Mo} {x : (Int × Mo) ⊕ (Mo)} (hf : b_k_shuffle_30 F v1 O0 = some x) (K : Sum.elim (fun s => G_k_shuffle l Z n0 P 30 [some (vR b0), some (vI s.1), none, none] [] [(b0, 4, s.2)] sz 0 0 (QM Z D n0 P none [(b0, 4, Oz0)] sz)) (fun rz => G_k_shuffle l Z n0 P 85 [none, none, none, none] [] [(b0, 4, rz)] sz 0 0 (QM Z D n0 P none [(b0, 4, Oz0)] sz)) x) :
    G_k_shuffle l Z n0 P 30 [some (vR b0), some (vI v1), none, none] [] [(b0, 4, O0)] sz 0 0 (QM Z D n0 P none [(b0, 4, Oz0)] sz) := by
  unfold b_k_shuffle_30 at hf
  refine Go.iloadN (pc2 := 31) d_k_shuffle_30 rfl rfl ?_
  by_cases hc : v1 ≤ 0
  · replace hf := ifp hc hf
    refine Go.ifT (pc2 := 85) d_k_shuffle_31 hc (by decide) (by decide) ?_
    cases hf
    exact Go.mask [false, false, true, true] K
  · replace hf := ifn hc hf
    refine Go.ifF (pc2 := 34) d_k_shuffle_31 hc rfl ?_
    refine Go.aloadN (pc2 := 35) d_k_shuffle_34 rfl rfl ?_
    refine Go.iloadN (pc2 := 36) d_k_shuffle_35 rfl rfl ?_
    refine Go.iconst (pc2 := 37) d_k_shuffle_36 rfl (by decide) ?_
    refine Go.iadd (pc2 := 38) d_k_shuffle_37 rfl ?_
    refine bind_in hf ?_
    clear hf
    intro r_1 h_r_1 hf
    refine Go.callp (pc2 := 41) (as := [vI (w32 (v1 + 1))]) (S := []) (w := (some (vI r_1.1))) (os2 := [(b0, 4, r_1.2)]) (sz2 := sz) (S2 := [vI r_1.1]) (rm := R_k_nextRand) d_k_shuffle_38 rfl rfl (by exact w_63 hw) (by exact w_65 hw) (by exact w_64 hw) (by exact w_66 hw) rfl (by exact w_2 hw) (by exact w_1 hw) (q := 0) rfl (by decide) pd_k_nextRand (by decide) (Nat.le_of_ble_eq_true rfl) (by decide) (by decide) (nc := 0) (ns := 0) rfl rfl rfl (cu2 := 0) rfl (su2 := 0) rfl rfl (Pays.one (q := 0) rfl rfl (fun P2 hP2 => th_k_nextRand hw h_r_1)) rfl ?_
    refine Go.istoreN (pc2 := 42) (L2 := [some (vR b0), some (vI v1), some (vI r_1.1), none]) d_k_shuffle_41 rfl (Nat.le_of_ble_eq_true rfl) rfl ?_
    refine Go.iloadN (pc2 := 43) d_k_shuffle_42 rfl rfl ?_
    by_cases hc : r_1.1 < 0
    · replace hf := ifp hc hf
      refine Go.ifT (pc2 := 51) d_k_shuffle_43 hc (by decide) (by decide) ?_
      exact Go.mask [true, true, false, true] (ti_k_shuffle_51 hw hf K)
    · replace hf := ifn hc hf
      refine Go.ifF (pc2 := 46) d_k_shuffle_43 hc rfl ?_
      refine Go.iloadN (pc2 := 47) d_k_shuffle_46 rfl rfl ?_
      refine Go.iloadN (pc2 := 48) d_k_shuffle_47 rfl rfl ?_
      by_cases hc : r_1.1 ≤ v1
      · replace hf := ifp hc hf
        refine Go.icmpT (pc2 := 53) d_k_shuffle_48 hc (by decide) (by decide) ?_
        exact ti_k_shuffle_53 hw hf K
      · replace hf := ifn hc hf
        refine Go.icmpF (pc2 := 51) d_k_shuffle_48 hc rfl ?_
        exact Go.mask [true, true, false, true] (ti_k_shuffle_51 hw hf K)
set_option maxRecDepth 65536 in
set_option maxHeartbeats 4000000 in
theorem th_k_shuffle {l : Launch} {Z : State} {a0 : Array Value} (hw : ∀ d ∈ tables_1, d.before a0 Z = true) {n0 : Nat} {P : Heap → Prop} {F : Nat} {b0 sz : Nat} {Oz0 : Mo} {O0 : Mo} (hf : k_shuffle F O0 = some Oz0) :
    Meth l Z D n0 P (⟨"MinCircle", "shuffle", "()V"⟩ : MethodName) prog_1_method_20_code 4 none R_k_shuffle [vR b0] [(b0, 4, O0)] sz (QM Z D n0 P none [(b0, 4, Oz0)] sz) := by
  refine Meth.of (plainFor_of_name pn_cls) (Nat.le_of_ble_eq_true rfl) ?_
  show G_k_shuffle l Z n0 P 0 [some (vR b0), none, none, none] [] [(b0, 4, O0)] sz 0 0 (QM Z D n0 P none [(b0, 4, Oz0)] sz)
  unfold k_shuffle at hf
  refine Go.iconst (pc2 := 1) d_k_shuffle_0 rfl (by decide) ?_
  refine Go.istoreN (pc2 := 2) (L2 := [some (vR b0), some (vI 0), none, none]) d_k_shuffle_1 rfl (Nat.le_of_ble_eq_true rfl) rfl ?_
  refine loop_go hf (Gs := fun s => G_k_shuffle l Z n0 P 2 [some (vR b0), some (vI s.1), none, none] [] [(b0, 4, s.2)] sz 0 0 (QM Z D n0 P none [(b0, 4, Oz0)] sz)) (Gr := (fun rz => G_k_shuffle l Z n0 P 23 [some (vR b0), none, none, none] [] [(b0, 4, rz)] sz 0 0 (QM Z D n0 P none [(b0, 4, Oz0)] sz))) (fun s x hx K => tb_k_shuffle_2 (F := F) (v1 := s.1) (O0 := s.2) (x := x) hw hx K) ?_
  clear hf
  intro r hf
  refine Go.aloadN (pc2 := 24) d_k_shuffle_23 rfl rfl ?_
  refine Go.getf (pc2 := 27) d_k_shuffle_24 rfl rfl D_C (by exact w_31 hw) (q := 0) rfl (x := r 0 2) (u := vI (r 0 2)) (fs_n) rfl rfl ?_
  refine Go.iconst (pc2 := 28) d_k_shuffle_27 rfl (by decide) ?_
  refine Go.isub (pc2 := 29) d_k_shuffle_28 rfl ?_
  refine Go.istoreN (pc2 := 30) (L2 := [some (vR b0), some (vI (w32 ((r 0 2) - 1))), none, none]) d_k_shuffle_29 rfl (Nat.le_of_ble_eq_true rfl) rfl ?_
  refine loop_go hf (Gs := fun s => G_k_shuffle l Z n0 P 30 [some (vR b0), some (vI s.1), none, none] [] [(b0, 4, s.2)] sz 0 0 (QM Z D n0 P none [(b0, 4, Oz0)] sz)) (Gr := (fun rz => G_k_shuffle l Z n0 P 85 [none, none, none, none] [] [(b0, 4, rz)] sz 0 0 (QM Z D n0 P none [(b0, 4, Oz0)] sz))) (fun s x hx K => tb_k_shuffle_30 (F := F) (v1 := s.1) (O0 := s.2) (x := x) hw hx K) ?_
  clear hf
  intro r_1 hf
  cases hf
  exact Go.retv d_k_shuffle_85 rfl (Nat.le_of_ble_eq_true rfl) (Nat.le_of_ble_eq_true rfl) (fun _ H => ⟨rfl, H⟩)
set_option maxRecDepth 65536 in
set_option maxHeartbeats 4000000 in
theorem th_k_setPoint {l : Launch} {Z : State} {a0 : Array Value} (hw : ∀ d ∈ tables_1, d.before a0 Z = true) {n0 : Nat} {P : Heap → Prop} {F : Nat} {b0 sz : Nat} {Oz0 : Mo} {O0 : Mo} {v1 : Int} (hf : k_setPoint F O0 v1 = some Oz0) :
    Meth l Z D n0 P (⟨"MinCircle", "setPoint", "(I)V"⟩ : MethodName) prog_1_method_25_code 2 none R_k_setPoint [vR b0, vI v1] [(b0, 4, O0)] sz (QM Z D n0 P none [(b0, 4, Oz0)] sz) := by
  refine Meth.of (plainFor_of_name pn_cls) (Nat.le_of_ble_eq_true rfl) ?_
  show G_k_setPoint l Z n0 P 0 [some (vR b0), some (vI v1)] [] [(b0, 4, O0)] sz 0 0 (QM Z D n0 P none [(b0, 4, Oz0)] sz)
  unfold k_setPoint at hf
  refine Go.aloadN (pc2 := 1) d_k_setPoint_0 rfl rfl ?_
  refine Go.aloadN (pc2 := 2) d_k_setPoint_1 rfl rfl ?_
  refine Go.geta (pc2 := 5) d_k_setPoint_2 rfl rfl D_C (by exact w_17 hw) (q := 0) rfl (j := 0) rfl (Nat.le_of_ble_eq_true rfl) rfl ?_
  refine Go.iloadN (pc2 := 6) d_k_setPoint_5 rfl rfl ?_
  have hb := okb hf
  replace hf := ifp hb hf
  refine Go.iald (pc2 := 7) d_k_setPoint_6 rfl (q := 0) rfl (j := 0) rfl (Nat.le_of_ble_eq_true rfl) rfl hb (z := O0 1 v1.toNat) rfl ?_
  refine Go.i2l (pc2 := 8) d_k_setPoint_7 rfl ?_
  refine Go.putf (pc2 := 11) (cw_ok hw) d_k_setPoint_8 rfl rfl D_C (by exact w_77 hw) (by exact Or.inl (w_78 hw)) (by exact w_1 hw) (q := 0) rfl (x := O0 1 v1.toNat) (x' := O0 1 v1.toNat) (fs_tnx) rfl rfl (os2 := [(b0, 4, (upd O0 0 10 (O0 1 v1.toNat)))]) rfl ?_
  refine Go.aloadN (pc2 := 12) d_k_setPoint_11 rfl rfl ?_
  refine Go.aloadN (pc2 := 13) d_k_setPoint_12 rfl rfl ?_
  refine Go.geta (pc2 := 16) d_k_setPoint_13 rfl rfl D_C (by exact w_19 hw) (q := 0) rfl (j := 1) rfl (Nat.le_of_ble_eq_true rfl) rfl ?_
  refine Go.iloadN (pc2 := 17) d_k_setPoint_16 rfl rfl ?_
  have hb := okb hf
  replace hf := ifp hb hf
  refine Go.iald (pc2 := 18) d_k_setPoint_17 rfl (q := 0) rfl (j := 1) rfl (Nat.le_of_ble_eq_true rfl) rfl hb (z := (upd O0 0 10 (O0 1 v1.toNat)) 2 v1.toNat) rfl ?_
  refine Go.i2l (pc2 := 19) d_k_setPoint_18 rfl ?_
  refine Go.putf (pc2 := 22) (cw_ok hw) d_k_setPoint_19 rfl rfl D_C (by exact w_79 hw) (by exact Or.inl (w_80 hw)) (by exact w_1 hw) (q := 0) rfl (x := (upd O0 0 10 (O0 1 v1.toNat)) 2 v1.toNat) (x' := (upd O0 0 10 (O0 1 v1.toNat)) 2 v1.toNat) (fs_tny) rfl rfl (os2 := [(b0, 4, (upd (upd O0 0 10 (O0 1 v1.toNat)) 0 11 ((upd O0 0 10 (O0 1 v1.toNat)) 2 v1.toNat)))]) rfl ?_
  refine Go.aloadN (pc2 := 23) d_k_setPoint_22 rfl rfl ?_
  refine Go.lconst (pc2 := 24) (i := 1) d_k_setPoint_23 rfl (by decide) ?_
  refine Go.putf (pc2 := 27) (cw_ok hw) d_k_setPoint_24 rfl rfl D_C (by exact w_35 hw) (by exact Or.inl (w_36 hw)) (by exact w_1 hw) (q := 0) rfl (x := 1) (x' := 1) (fs_td) rfl rfl (os2 := [(b0, 4, (upd (upd (upd O0 0 10 (O0 1 v1.toNat)) 0 11 ((upd O0 0 10 (O0 1 v1.toNat)) 2 v1.toNat)) 0 12 1))]) rfl ?_
  refine Go.aloadN (pc2 := 28) d_k_setPoint_27 rfl rfl ?_
  refine Go.lconst (pc2 := 29) (i := 0) d_k_setPoint_28 rfl (by decide) ?_
  refine Go.putf (pc2 := 32) (cw_ok hw) d_k_setPoint_29 rfl rfl D_C (by exact w_81 hw) (by exact Or.inl (w_82 hw)) (by exact w_1 hw) (q := 0) rfl (x := 0) (x' := 0) (fs_trr) rfl rfl (os2 := [(b0, 4, (upd (upd (upd (upd O0 0 10 (O0 1 v1.toNat)) 0 11 ((upd O0 0 10 (O0 1 v1.toNat)) 2 v1.toNat)) 0 12 1) 0 13 0))]) rfl ?_
  cases hf
  exact Go.retv d_k_setPoint_32 rfl (Nat.le_of_ble_eq_true rfl) (Nat.le_of_ble_eq_true rfl) (fun _ H => ⟨rfl, H⟩)
set_option maxRecDepth 65536 in
set_option maxHeartbeats 4000000 in
theorem th_k_outside {l : Launch} {Z : State} {a0 : Array Value} (hw : ∀ d ∈ tables_1, d.before a0 Z = true) {n0 : Nat} {P : Heap → Prop} {F : Nat} {b0 sz : Nat} {rr : Int} {O0 : Mo} {v1 : Int} (hf : k_outside F O0 v1 = some rr) :
    Meth l Z D n0 P (⟨"MinCircle", "outside", "(I)Z"⟩ : MethodName) prog_1_method_24_code 6 (some .boolean) R_k_outside [vR b0, vI v1] [(b0, 4, O0)] sz (QM Z D n0 P (some (vI rr)) [(b0, 4, O0)] sz) := by
  refine Meth.of (plainFor_of_name pn_cls) (Nat.le_of_ble_eq_true rfl) ?_
  show G_k_outside l Z n0 P 0 [some (vR b0), some (vI v1), none, none, none, none] [] [(b0, 4, O0)] sz 0 0 (QM Z D n0 P (some (vI rr)) [(b0, 4, O0)] sz)
  unfold k_outside at hf
  refine Go.aloadN (pc2 := 1) d_k_outside_0 rfl rfl ?_
  refine Go.geta (pc2 := 4) d_k_outside_1 rfl rfl D_C (by exact w_17 hw) (q := 0) rfl (j := 0) rfl (Nat.le_of_ble_eq_true rfl) rfl ?_
  refine Go.iloadN (pc2 := 5) d_k_outside_4 rfl rfl ?_
  have hb := okb hf
  replace hf := ifp hb hf
  refine Go.iald (pc2 := 6) d_k_outside_5 rfl (q := 0) rfl (j := 0) rfl (Nat.le_of_ble_eq_true rfl) rfl hb (z := O0 1 v1.toNat) rfl ?_
  refine Go.i2l (pc2 := 7) d_k_outside_6 rfl ?_
  refine Go.aloadN (pc2 := 8) d_k_outside_7 rfl rfl ?_
  refine Go.getf (pc2 := 11) d_k_outside_8 rfl rfl D_C (by exact w_35 hw) (q := 0) rfl (x := O0 0 12) (u := vJ (O0 0 12)) (fs_td) rfl rfl ?_
  refine Go.lmul (pc2 := 12) d_k_outside_11 rfl ?_
  refine Go.aloadN (pc2 := 13) d_k_outside_12 rfl rfl ?_
  refine Go.getf (pc2 := 16) d_k_outside_13 rfl rfl D_C (by exact w_77 hw) (q := 0) rfl (x := O0 0 10) (u := vJ (O0 0 10)) (fs_tnx) rfl rfl ?_
  refine Go.lsub (pc2 := 17) d_k_outside_16 rfl ?_
  refine Go.lstoreN (pc2 := 18) (L2 := [some (vR b0), some (vI v1), some (vJ (w64 ((w64 ((O0 1 v1.toNat) * (O0 0 12))) - (O0 0 10)))), none, none, none]) d_k_outside_17 rfl (Nat.le_of_ble_eq_true rfl) rfl ?_
  refine lt_in hf (G := fun v2 => G_k_outside l Z n0 P 18 [some (vR b0), some (vI v1), some (vJ v2), none, none, none] [] [(b0, 4, O0)] sz 0 0 (QM Z D n0 P (some (vI rr)) [(b0, 4, O0)] sz)) ?_
  clear hf
  intro v2 hf
  refine Go.aloadN (pc2 := 19) d_k_outside_18 rfl rfl ?_
  refine Go.geta (pc2 := 22) d_k_outside_19 rfl rfl D_C (by exact w_19 hw) (q := 0) rfl (j := 1) rfl (Nat.le_of_ble_eq_true rfl) rfl ?_
  refine Go.iloadN (pc2 := 23) d_k_outside_22 rfl rfl ?_
  have hb := okb hf
  replace hf := ifp hb hf
  refine Go.iald (pc2 := 24) d_k_outside_23 rfl (q := 0) rfl (j := 1) rfl (Nat.le_of_ble_eq_true rfl) rfl hb (z := O0 2 v1.toNat) rfl ?_
  refine Go.i2l (pc2 := 25) d_k_outside_24 rfl ?_
  refine Go.aloadN (pc2 := 26) d_k_outside_25 rfl rfl ?_
  refine Go.getf (pc2 := 29) d_k_outside_26 rfl rfl D_C (by exact w_35 hw) (q := 0) rfl (x := O0 0 12) (u := vJ (O0 0 12)) (fs_td) rfl rfl ?_
  refine Go.lmul (pc2 := 30) d_k_outside_29 rfl ?_
  refine Go.aloadN (pc2 := 31) d_k_outside_30 rfl rfl ?_
  refine Go.getf (pc2 := 34) d_k_outside_31 rfl rfl D_C (by exact w_79 hw) (q := 0) rfl (x := O0 0 11) (u := vJ (O0 0 11)) (fs_tny) rfl rfl ?_
  refine Go.lsub (pc2 := 35) d_k_outside_34 rfl ?_
  refine Go.lstore (pc2 := 37) (L2 := [some (vR b0), some (vI v1), some (vJ v2), none, some (vJ (w64 ((w64 ((O0 2 v1.toNat) * (O0 0 12))) - (O0 0 11)))), none]) d_k_outside_35 rfl (Nat.le_of_ble_eq_true rfl) rfl ?_
  refine lt_in hf (G := fun v4 => G_k_outside l Z n0 P 37 [some (vR b0), some (vI v1), some (vJ v2), none, some (vJ v4), none] [] [(b0, 4, O0)] sz 0 0 (QM Z D n0 P (some (vI rr)) [(b0, 4, O0)] sz)) ?_
  clear hf
  intro v4 hf
  refine Go.lloadN (pc2 := 38) d_k_outside_37 rfl rfl ?_
  refine Go.lloadN (pc2 := 39) d_k_outside_38 rfl rfl ?_
  refine Go.lmul (pc2 := 40) d_k_outside_39 rfl ?_
  refine Go.lload (pc2 := 42) d_k_outside_40 rfl rfl ?_
  refine Go.lload (pc2 := 44) d_k_outside_42 rfl rfl ?_
  refine Go.lmul (pc2 := 45) d_k_outside_44 rfl ?_
  refine Go.ladd (pc2 := 46) d_k_outside_45 rfl ?_
  refine Go.aloadN (pc2 := 47) d_k_outside_46 rfl rfl ?_
  refine Go.getf (pc2 := 50) d_k_outside_47 rfl rfl D_C (by exact w_81 hw) (q := 0) rfl (x := O0 0 13) (u := vJ (O0 0 13)) (fs_trr) rfl rfl ?_
  by_cases hc : w64 ((w64 (v2 * v2)) + (w64 (v4 * v4))) ≤ O0 0 13
  · replace hf := ifp hc hf
    refine Go.lcmpT (pc3 := 51) (pc2 := 58) d_k_outside_50 d_k_outside_51 rfl hc (by decide) (by decide) ?_
    refine Go.iconst (pc2 := 59) d_k_outside_58 rfl (by decide) ?_
    cases hf
    exact Go.retz d_k_outside_59 rfl rfl (Nat.le_of_ble_eq_true rfl) (Nat.le_of_ble_eq_true rfl) (fun _ H => ⟨rfl, H⟩)
  · replace hf := ifn hc hf
    refine Go.lcmpF (pc3 := 51) (pc2 := 54) d_k_outside_50 d_k_outside_51 rfl hc rfl ?_
    refine Go.iconst (pc2 := 55) d_k_outside_54 rfl (by decide) ?_
    refine Go.goto (pc2 := 59) d_k_outside_55 (by decide) (by decide) ?_
    cases hf
    exact Go.retz d_k_outside_59 rfl rfl (Nat.le_of_ble_eq_true rfl) (Nat.le_of_ble_eq_true rfl) (fun _ H => ⟨rfl, H⟩)
set_option maxRecDepth 65536 in
set_option maxHeartbeats 4000000 in
theorem th_k_setPair {l : Launch} {Z : State} {a0 : Array Value} (hw : ∀ d ∈ tables_1, d.before a0 Z = true) {n0 : Nat} {P : Heap → Prop} {F : Nat} {b0 sz : Nat} {Oz0 : Mo} {O0 : Mo} {v1 v2 : Int} (hf : k_setPair F O0 v1 v2 = some Oz0) :
    Meth l Z D n0 P (⟨"MinCircle", "setPair", "(II)V"⟩ : MethodName) prog_1_method_26_code 7 none R_k_setPair [vR b0, vI v1, vI v2] [(b0, 4, O0)] sz (QM Z D n0 P none [(b0, 4, Oz0)] sz) := by
  refine Meth.of (plainFor_of_name pn_cls) (Nat.le_of_ble_eq_true rfl) ?_
  show G_k_setPair l Z n0 P 0 [some (vR b0), some (vI v1), some (vI v2), none, none, none, none] [] [(b0, 4, O0)] sz 0 0 (QM Z D n0 P none [(b0, 4, Oz0)] sz)
  unfold k_setPair at hf
  refine Go.aloadN (pc2 := 1) d_k_setPair_0 rfl rfl ?_
  refine Go.aloadN (pc2 := 2) d_k_setPair_1 rfl rfl ?_
  refine Go.geta (pc2 := 5) d_k_setPair_2 rfl rfl D_C (by exact w_17 hw) (q := 0) rfl (j := 0) rfl (Nat.le_of_ble_eq_true rfl) rfl ?_
  refine Go.iloadN (pc2 := 6) d_k_setPair_5 rfl rfl ?_
  have hb := okb hf
  replace hf := ifp hb hf
  refine Go.iald (pc2 := 7) d_k_setPair_6 rfl (q := 0) rfl (j := 0) rfl (Nat.le_of_ble_eq_true rfl) rfl hb (z := O0 1 v1.toNat) rfl ?_
  refine Go.i2l (pc2 := 8) d_k_setPair_7 rfl ?_
  refine Go.aloadN (pc2 := 9) d_k_setPair_8 rfl rfl ?_
  refine Go.geta (pc2 := 12) d_k_setPair_9 rfl rfl D_C (by exact w_17 hw) (q := 0) rfl (j := 0) rfl (Nat.le_of_ble_eq_true rfl) rfl ?_
  refine Go.iloadN (pc2 := 13) d_k_setPair_12 rfl rfl ?_
  have hb := okb hf
  replace hf := ifp hb hf
  refine Go.iald (pc2 := 14) d_k_setPair_13 rfl (q := 0) rfl (j := 0) rfl (Nat.le_of_ble_eq_true rfl) rfl hb (z := O0 1 v2.toNat) rfl ?_
  refine Go.i2l (pc2 := 15) d_k_setPair_14 rfl ?_
  refine Go.ladd (pc2 := 16) d_k_setPair_15 rfl ?_
  refine Go.putf (pc2 := 19) (cw_ok hw) d_k_setPair_16 rfl rfl D_C (by exact w_77 hw) (by exact Or.inl (w_78 hw)) (by exact w_1 hw) (q := 0) rfl (x := w64 ((O0 1 v1.toNat) + (O0 1 v2.toNat))) (x' := w64 ((O0 1 v1.toNat) + (O0 1 v2.toNat))) (fs_tnx) rfl rfl (os2 := [(b0, 4, (upd O0 0 10 (w64 ((O0 1 v1.toNat) + (O0 1 v2.toNat)))))]) rfl ?_
  refine Go.aloadN (pc2 := 20) d_k_setPair_19 rfl rfl ?_
  refine Go.aloadN (pc2 := 21) d_k_setPair_20 rfl rfl ?_
  refine Go.geta (pc2 := 24) d_k_setPair_21 rfl rfl D_C (by exact w_19 hw) (q := 0) rfl (j := 1) rfl (Nat.le_of_ble_eq_true rfl) rfl ?_
  refine Go.iloadN (pc2 := 25) d_k_setPair_24 rfl rfl ?_
  have hb := okb hf
  replace hf := ifp hb hf
  refine Go.iald (pc2 := 26) d_k_setPair_25 rfl (q := 0) rfl (j := 1) rfl (Nat.le_of_ble_eq_true rfl) rfl hb (z := (upd O0 0 10 (w64 ((O0 1 v1.toNat) + (O0 1 v2.toNat)))) 2 v1.toNat) rfl ?_
  refine Go.i2l (pc2 := 27) d_k_setPair_26 rfl ?_
  refine Go.aloadN (pc2 := 28) d_k_setPair_27 rfl rfl ?_
  refine Go.geta (pc2 := 31) d_k_setPair_28 rfl rfl D_C (by exact w_19 hw) (q := 0) rfl (j := 1) rfl (Nat.le_of_ble_eq_true rfl) rfl ?_
  refine Go.iloadN (pc2 := 32) d_k_setPair_31 rfl rfl ?_
  have hb := okb hf
  replace hf := ifp hb hf
  refine Go.iald (pc2 := 33) d_k_setPair_32 rfl (q := 0) rfl (j := 1) rfl (Nat.le_of_ble_eq_true rfl) rfl hb (z := (upd O0 0 10 (w64 ((O0 1 v1.toNat) + (O0 1 v2.toNat)))) 2 v2.toNat) rfl ?_
  refine Go.i2l (pc2 := 34) d_k_setPair_33 rfl ?_
  refine Go.ladd (pc2 := 35) d_k_setPair_34 rfl ?_
  refine Go.putf (pc2 := 38) (cw_ok hw) d_k_setPair_35 rfl rfl D_C (by exact w_79 hw) (by exact Or.inl (w_80 hw)) (by exact w_1 hw) (q := 0) rfl (x := w64 (((upd O0 0 10 (w64 ((O0 1 v1.toNat) + (O0 1 v2.toNat)))) 2 v1.toNat) + ((upd O0 0 10 (w64 ((O0 1 v1.toNat) + (O0 1 v2.toNat)))) 2 v2.toNat))) (x' := w64 (((upd O0 0 10 (w64 ((O0 1 v1.toNat) + (O0 1 v2.toNat)))) 2 v1.toNat) + ((upd O0 0 10 (w64 ((O0 1 v1.toNat) + (O0 1 v2.toNat)))) 2 v2.toNat))) (fs_tny) rfl rfl (os2 := [(b0, 4, (upd (upd O0 0 10 (w64 ((O0 1 v1.toNat) + (O0 1 v2.toNat)))) 0 11 (w64 (((upd O0 0 10 (w64 ((O0 1 v1.toNat) + (O0 1 v2.toNat)))) 2 v1.toNat) + ((upd O0 0 10 (w64 ((O0 1 v1.toNat) + (O0 1 v2.toNat)))) 2 v2.toNat)))))]) rfl ?_
  refine Go.aloadN (pc2 := 39) d_k_setPair_38 rfl rfl ?_
  refine Go.ldc2 (pc2 := 42) (i := 2) d_k_setPair_39 rfl rfl (by exact w_99 hw) (by decide) ?_
  refine Go.putf (pc2 := 45) (cw_ok hw) d_k_setPair_42 rfl rfl D_C (by exact w_35 hw) (by exact Or.inl (w_36 hw)) (by exact w_1 hw) (q := 0) rfl (x := 2) (x' := 2) (fs_td) rfl rfl (os2 := [(b0, 4, (upd (upd (upd O0 0 10 (w64 ((O0 1 v1.toNat) + (O0 1 v2.toNat)))) 0 11 (w64 (((upd O0 0 10 (w64 ((O0 1 v1.toNat) + (O0 1 v2.toNat)))) 2 v1.toNat) + ((upd O0 0 10 (w64 ((O0 1 v1.toNat) + (O0 1 v2.toNat)))) 2 v2.toNat)))) 0 12 2))]) rfl ?_
  refine Go.aloadN (pc2 := 46) d_k_setPair_45 rfl rfl ?_
  refine Go.geta (pc2 := 49) d_k_setPair_46 rfl rfl D_C (by exact w_17 hw) (q := 0) rfl (j := 0) rfl (Nat.le_of_ble_eq_true rfl) rfl ?_
  refine Go.iloadN (pc2 := 50) d_k_setPair_49 rfl rfl ?_
  have hb := okb hf
  replace hf := ifp hb hf
  refine Go.iald (pc2 := 51) d_k_setPair_50 rfl (q := 0) rfl (j := 0) rfl (Nat.le_of_ble_eq_true rfl) rfl hb (z := (upd (upd (upd O0 0 10 (w64 ((O0 1 v1.toNat) + (O0 1 v2.toNat)))) 0 11 (w64 (((upd O0 0 10 (w64 ((O0 1 v1.toNat) + (O0 1 v2.toNat)))) 2 v1.toNat) + ((upd O0 0 10 (w64 ((O0 1 v1.toNat) + (O0 1 v2.toNat)))) 2 v2.toNat)))) 0 12 2) 1 v1.toNat) rfl ?_
  refine Go.i2l (pc2 := 52) d_k_setPair_51 rfl ?_
  refine Go.aloadN (pc2 := 53) d_k_setPair_52 rfl rfl ?_
  refine Go.geta (pc2 := 56) d_k_setPair_53 rfl rfl D_C (by exact w_17 hw) (q := 0) rfl (j := 0) rfl (Nat.le_of_ble_eq_true rfl) rfl ?_
  refine Go.iloadN (pc2 := 57) d_k_setPair_56 rfl rfl ?_
  have hb := okb hf
  replace hf := ifp hb hf
  refine Go.iald (pc2 := 58) d_k_setPair_57 rfl (q := 0) rfl (j := 0) rfl (Nat.le_of_ble_eq_true rfl) rfl hb (z := (upd (upd (upd O0 0 10 (w64 ((O0 1 v1.toNat) + (O0 1 v2.toNat)))) 0 11 (w64 (((upd O0 0 10 (w64 ((O0 1 v1.toNat) + (O0 1 v2.toNat)))) 2 v1.toNat) + ((upd O0 0 10 (w64 ((O0 1 v1.toNat) + (O0 1 v2.toNat)))) 2 v2.toNat)))) 0 12 2) 1 v2.toNat) rfl ?_
  refine Go.i2l (pc2 := 59) d_k_setPair_58 rfl ?_
  refine Go.lsub (pc2 := 60) d_k_setPair_59 rfl ?_
  refine Go.lstoreN (pc2 := 61) (L2 := [some (vR b0), some (vI v1), some (vI v2), some (vJ (w64 (((upd (upd (upd O0 0 10 (w64 ((O0 1 v1.toNat) + (O0 1 v2.toNat)))) 0 11 (w64 (((upd O0 0 10 (w64 ((O0 1 v1.toNat) + (O0 1 v2.toNat)))) 2 v1.toNat) + ((upd O0 0 10 (w64 ((O0 1 v1.toNat) + (O0 1 v2.toNat)))) 2 v2.toNat)))) 0 12 2) 1 v1.toNat) - ((upd (upd (upd O0 0 10 (w64 ((O0 1 v1.toNat) + (O0 1 v2.toNat)))) 0 11 (w64 (((upd O0 0 10 (w64 ((O0 1 v1.toNat) + (O0 1 v2.toNat)))) 2 v1.toNat) + ((upd O0 0 10 (w64 ((O0 1 v1.toNat) + (O0 1 v2.toNat)))) 2 v2.toNat)))) 0 12 2) 1 v2.toNat)))), none, none, none]) d_k_setPair_60 rfl (Nat.le_of_ble_eq_true rfl) rfl ?_
  refine lt_in hf (G := fun v3 => G_k_setPair l Z n0 P 61 [some (vR b0), some (vI v1), some (vI v2), some (vJ v3), none, none, none] [] [(b0, 4, (upd (upd (upd O0 0 10 (w64 ((O0 1 v1.toNat) + (O0 1 v2.toNat)))) 0 11 (w64 (((upd O0 0 10 (w64 ((O0 1 v1.toNat) + (O0 1 v2.toNat)))) 2 v1.toNat) + ((upd O0 0 10 (w64 ((O0 1 v1.toNat) + (O0 1 v2.toNat)))) 2 v2.toNat)))) 0 12 2))] sz 0 0 (QM Z D n0 P none [(b0, 4, Oz0)] sz)) ?_
  clear hf
  intro v3 hf
  refine Go.aloadN (pc2 := 62) d_k_setPair_61 rfl rfl ?_
  refine Go.geta (pc2 := 65) d_k_setPair_62 rfl rfl D_C (by exact w_19 hw) (q := 0) rfl (j := 1) rfl (Nat.le_of_ble_eq_true rfl) rfl ?_
  refine Go.iloadN (pc2 := 66) d_k_setPair_65 rfl rfl ?_
  have hb := okb hf
  replace hf := ifp hb hf
  refine Go.iald (pc2 := 67) d_k_setPair_66 rfl (q := 0) rfl (j := 1) rfl (Nat.le_of_ble_eq_true rfl) rfl hb (z := (upd (upd (upd O0 0 10 (w64 ((O0 1 v1.toNat) + (O0 1 v2.toNat)))) 0 11 (w64 (((upd O0 0 10 (w64 ((O0 1 v1.toNat) + (O0 1 v2.toNat)))) 2 v1.toNat) + ((upd O0 0 10 (w64 ((O0 1 v1.toNat) + (O0 1 v2.toNat)))) 2 v2.toNat)))) 0 12 2) 2 v1.toNat) rfl ?_
  refine Go.i2l (pc2 := 68) d_k_setPair_67 rfl ?_
  refine Go.aloadN (pc2 := 69) d_k_setPair_68 rfl rfl ?_
  refine Go.geta (pc2 := 72) d_k_setPair_69 rfl rfl D_C (by exact w_19 hw) (q := 0) rfl (j := 1) rfl (Nat.le_of_ble_eq_true rfl) rfl ?_
  refine Go.iloadN (pc2 := 73) d_k_setPair_72 rfl rfl ?_
  have hb := okb hf
  replace hf := ifp hb hf
  refine Go.iald (pc2 := 74) d_k_setPair_73 rfl (q := 0) rfl (j := 1) rfl (Nat.le_of_ble_eq_true rfl) rfl hb (z := (upd (upd (upd O0 0 10 (w64 ((O0 1 v1.toNat) + (O0 1 v2.toNat)))) 0 11 (w64 (((upd O0 0 10 (w64 ((O0 1 v1.toNat) + (O0 1 v2.toNat)))) 2 v1.toNat) + ((upd O0 0 10 (w64 ((O0 1 v1.toNat) + (O0 1 v2.toNat)))) 2 v2.toNat)))) 0 12 2) 2 v2.toNat) rfl ?_
  refine Go.i2l (pc2 := 75) d_k_setPair_74 rfl ?_
  refine Go.lsub (pc2 := 76) d_k_setPair_75 rfl ?_
  refine Go.lstore (pc2 := 78) (L2 := [some (vR b0), some (vI v1), some (vI v2), some (vJ v3), none, some (vJ (w64 (((upd (upd (upd O0 0 10 (w64 ((O0 1 v1.toNat) + (O0 1 v2.toNat)))) 0 11 (w64 (((upd O0 0 10 (w64 ((O0 1 v1.toNat) + (O0 1 v2.toNat)))) 2 v1.toNat) + ((upd O0 0 10 (w64 ((O0 1 v1.toNat) + (O0 1 v2.toNat)))) 2 v2.toNat)))) 0 12 2) 2 v1.toNat) - ((upd (upd (upd O0 0 10 (w64 ((O0 1 v1.toNat) + (O0 1 v2.toNat)))) 0 11 (w64 (((upd O0 0 10 (w64 ((O0 1 v1.toNat) + (O0 1 v2.toNat)))) 2 v1.toNat) + ((upd O0 0 10 (w64 ((O0 1 v1.toNat) + (O0 1 v2.toNat)))) 2 v2.toNat)))) 0 12 2) 2 v2.toNat)))), none]) d_k_setPair_76 rfl (Nat.le_of_ble_eq_true rfl) rfl ?_
  refine lt_in hf (G := fun v5 => G_k_setPair l Z n0 P 78 [some (vR b0), some (vI v1), some (vI v2), some (vJ v3), none, some (vJ v5), none] [] [(b0, 4, (upd (upd (upd O0 0 10 (w64 ((O0 1 v1.toNat) + (O0 1 v2.toNat)))) 0 11 (w64 (((upd O0 0 10 (w64 ((O0 1 v1.toNat) + (O0 1 v2.toNat)))) 2 v1.toNat) + ((upd O0 0 10 (w64 ((O0 1 v1.toNat) + (O0 1 v2.toNat)))) 2 v2.toNat)))) 0 12 2))] sz 0 0 (QM Z D n0 P none [(b0, 4, Oz0)] sz)) ?_
  clear hf
  intro v5 hf
  refine Go.aloadN (pc2 := 79) d_k_setPair_78 rfl rfl ?_
  refine Go.lloadN (pc2 := 80) d_k_setPair_79 rfl rfl ?_
  refine Go.lloadN (pc2 := 81) d_k_setPair_80 rfl rfl ?_
  refine Go.lmul (pc2 := 82) d_k_setPair_81 rfl ?_
  refine Go.lload (pc2 := 84) d_k_setPair_82 rfl rfl ?_
  refine Go.lload (pc2 := 86) d_k_setPair_84 rfl rfl ?_
  refine Go.lmul (pc2 := 87) d_k_setPair_86 rfl ?_
  refine Go.ladd (pc2 := 88) d_k_setPair_87 rfl ?_
  refine Go.putf (pc2 := 91) (cw_ok hw) d_k_setPair_88 rfl rfl D_C (by exact w_81 hw) (by exact Or.inl (w_82 hw)) (by exact w_1 hw) (q := 0) rfl (x := w64 ((w64 (v3 * v3)) + (w64 (v5 * v5)))) (x' := w64 ((w64 (v3 * v3)) + (w64 (v5 * v5)))) (fs_trr) rfl rfl (os2 := [(b0, 4, (upd (upd (upd (upd O0 0 10 (w64 ((O0 1 v1.toNat) + (O0 1 v2.toNat)))) 0 11 (w64 (((upd O0 0 10 (w64 ((O0 1 v1.toNat) + (O0 1 v2.toNat)))) 2 v1.toNat) + ((upd O0 0 10 (w64 ((O0 1 v1.toNat) + (O0 1 v2.toNat)))) 2 v2.toNat)))) 0 12 2) 0 13 (w64 ((w64 (v3 * v3)) + (w64 (v5 * v5))))))]) rfl ?_
  cases hf
  exact Go.retv d_k_setPair_91 rfl (Nat.le_of_ble_eq_true rfl) (Nat.le_of_ble_eq_true rfl) (fun _ H => ⟨rfl, H⟩)
set_option maxRecDepth 65536 in
set_option maxHeartbeats 4000000 in
theorem tj_k_setTriple_174 {l : Launch} {Z : State} {a0 : Array Value} (hw : ∀ d ∈ tables_1, d.before a0 Z = true) {n0 : Nat} {P : Heap → Prop} {F : Nat} {b0 sz : Nat} {Oz0 : Mo} {O0 : Mo} {v1 v12 v18 v20 : Int} (hf : j_k_setTriple_174 F O0 v1 v12 v18 v20 = some Oz0) :
    G_k_setTriple l Z n0 P 174 [some (vR b0), some (vI v1), none, none, none, none, none, none, none, none, none, none, some (vJ v12), none, none, none, none, none, some (vJ v18), none, some (vJ v20), none] [] [(b0, 4, O0)] sz 0 0 (QM Z D n0 P none [(b0, 4, Oz0)] sz) := by
  unfold j_k_setTriple_174 at hf
  refine Go.aloadN (pc2 := 175) d_k_setTriple_174 rfl rfl ?_
  refine Go.aloadN (pc2 := 176) d_k_setTriple_175 rfl rfl ?_
  refine Go.geta (pc2 := 179) d_k_setTriple_176 rfl rfl D_C (by exact w_17 hw) (q := 0) rfl (j := 0) rfl (Nat.le_of_ble_eq_true rfl) rfl ?_
  refine Go.iloadN (pc2 := 180) d_k_setTriple_179 rfl rfl ?_
  have hb := okb hf
  replace hf := ifp hb hf
  refine Go.iald (pc2 := 181) d_k_setTriple_180 rfl (q := 0) rfl (j := 0) rfl (Nat.le_of_ble_eq_true rfl) rfl hb (z := O0 1 v1.toNat) rfl ?_
  refine Go.i2l (pc2 := 182) d_k_setTriple_181 rfl ?_
  refine Go.lload (pc2 := 184) d_k_setTriple_182 rfl rfl ?_
  refine Go.lmul (pc2 := 185) d_k_setTriple_184 rfl ?_
  refine Go.lload (pc2 := 187) d_k_setTriple_185 rfl rfl ?_
  refine Go.ladd (pc2 := 188) d_k_setTriple_187 rfl ?_
  refine Go.putf (pc2 := 191) (cw_ok hw) d_k_setTriple_188 rfl rfl D_C (by exact w_77 hw) (by exact Or.inl (w_78 hw)) (by exact w_1 hw) (q := 0) rfl (x := w64 ((w64 ((O0 1 v1.toNat) * v12)) + v18)) (x' := w64 ((w64 ((O0 1 v1.toNat) * v12)) + v18)) (fs_tnx) rfl rfl (os2 := [(b0, 4, (upd O0 0 10 (w64 ((w64 ((O0 1 v1.toNat) * v12)) + v18))))]) rfl ?_
  refine Go.aloadN (pc2 := 192) d_k_setTriple_191 rfl rfl ?_
  refine Go.aloadN (pc2 := 193) d_k_setTriple_192 rfl rfl ?_
  refine Go.geta (pc2 := 196) d_k_setTriple_193 rfl rfl D_C (by exact w_19 hw) (q := 0) rfl (j := 1) rfl (Nat.le_of_ble_eq_true rfl) rfl ?_
  refine Go.iloadN (pc2 := 197) d_k_setTriple_196 rfl rfl ?_
  have hb := okb hf
  replace hf := ifp hb hf
  refine Go.iald (pc2 := 198) d_k_setTriple_197 rfl (q := 0) rfl (j := 1) rfl (Nat.le_of_ble_eq_true rfl) rfl hb (z := (upd O0 0 10 (w64 ((w64 ((O0 1 v1.toNat) * v12)) + v18))) 2 v1.toNat) rfl ?_
  refine Go.i2l (pc2 := 199) d_k_setTriple_198 rfl ?_
  refine Go.lload (pc2 := 201) d_k_setTriple_199 rfl rfl ?_
  refine Go.lmul (pc2 := 202) d_k_setTriple_201 rfl ?_
  refine Go.lload (pc2 := 204) d_k_setTriple_202 rfl rfl ?_
  refine Go.ladd (pc2 := 205) d_k_setTriple_204 rfl ?_
  refine Go.putf (pc2 := 208) (cw_ok hw) d_k_setTriple_205 rfl rfl D_C (by exact w_79 hw) (by exact Or.inl (w_80 hw)) (by exact w_1 hw) (q := 0) rfl (x := w64 ((w64 (((upd O0 0 10 (w64 ((w64 ((O0 1 v1.toNat) * v12)) + v18))) 2 v1.toNat) * v12)) + v20)) (x' := w64 ((w64 (((upd O0 0 10 (w64 ((w64 ((O0 1 v1.toNat) * v12)) + v18))) 2 v1.toNat) * v12)) + v20)) (fs_tny) rfl rfl (os2 := [(b0, 4, (upd (upd O0 0 10 (w64 ((w64 ((O0 1 v1.toNat) * v12)) + v18))) 0 11 (w64 ((w64 (((upd O0 0 10 (w64 ((w64 ((O0 1 v1.toNat) * v12)) + v18))) 2 v1.toNat) * v12)) + v20))))]) rfl ?_
  refine Go.aloadN (pc2 := 209) d_k_setTriple_208 rfl rfl ?_
  refine Go.lload (pc2 := 211) d_k_setTriple_209 rfl rfl ?_
  refine Go.putf (pc2 := 214) (cw_ok hw) d_k_setTriple_211 rfl rfl D_C (by exact w_35 hw) (by exact Or.inl (w_36 hw)) (by exact w_1 hw) (q := 0) rfl (x := v12) (x' := v12) (fs_td) rfl rfl (os2 := [(b0, 4, (upd (upd (upd O0 0 10 (w64 ((w64 ((O0 1 v1.toNat) * v12)) + v18))) 0 11 (w64 ((w64 (((upd O0 0 10 (w64 ((w64 ((O0 1 v1.toNat) * v12)) + v18))) 2 v1.toNat) * v12)) + v20))) 0 12 v12))]) rfl ?_
  refine Go.aloadN (pc2 := 215) d_k_setTriple_214 rfl rfl ?_
  refine Go.lload (pc2 := 217) d_k_setTriple_215 rfl rfl ?_
  refine Go.lload (pc2 := 219) d_k_setTriple_217 rfl rfl ?_
  refine Go.lmul (pc2 := 220) d_k_setTriple_219 rfl ?_
  refine Go.lload (pc2 := 222) d_k_setTriple_220 rfl rfl ?_
  refine Go.lload (pc2 := 224) d_k_setTriple_222 rfl rfl ?_
  refine Go.lmul (pc2 := 225) d_k_setTriple_224 rfl ?_
  refine Go.ladd (pc2 := 226) d_k_setTriple_225 rfl ?_
  refine Go.putf (pc2 := 229) (cw_ok hw) d_k_setTriple_226 rfl rfl D_C (by exact w_81 hw) (by exact Or.inl (w_82 hw)) (by exact w_1 hw) (q := 0) rfl (x := w64 ((w64 (v18 * v18)) + (w64 (v20 * v20)))) (x' := w64 ((w64 (v18 * v18)) + (w64 (v20 * v20)))) (fs_trr) rfl rfl (os2 := [(b0, 4, (upd (upd (upd (upd O0 0 10 (w64 ((w64 ((O0 1 v1.toNat) * v12)) + v18))) 0 11 (w64 ((w64 (((upd O0 0 10 (w64 ((w64 ((O0 1 v1.toNat) * v12)) + v18))) 2 v1.toNat) * v12)) + v20))) 0 12 v12) 0 13 (w64 ((w64 (v18 * v18)) + (w64 (v20 * v20))))))]) rfl ?_
  cases hf
  exact Go.retv d_k_setTriple_229 rfl (Nat.le_of_ble_eq_true rfl) (Nat.le_of_ble_eq_true rfl) (fun _ H => ⟨rfl, H⟩)
set_option maxRecDepth 65536 in
set_option maxHeartbeats 4000000 in
theorem th_k_setTriple {l : Launch} {Z : State} {a0 : Array Value} (hw : ∀ d ∈ tables_1, d.before a0 Z = true) {n0 : Nat} {P : Heap → Prop} {F : Nat} {b0 sz : Nat} {Oz0 : Mo} {O0 : Mo} {v1 v2 v3 : Int} (hf : k_setTriple F O0 v1 v2 v3 = some Oz0) :
    Meth l Z D n0 P (⟨"MinCircle", "setTriple", "(III)V"⟩ : MethodName) prog_1_method_28_code 22 none R_k_setTriple [vR b0, vI v1, vI v2, vI v3] [(b0, 4, O0)] sz (QM Z D n0 P none [(b0, 4, Oz0)] sz) := by
  refine Meth.of (plainFor_of_name pn_cls) (Nat.le_of_ble_eq_true rfl) ?_
  show G_k_setTriple l Z n0 P 0 [some (vR b0), some (vI v1), some (vI v2), some (vI v3), none, none, none, none, none, none, none, none, none, none, none, none, none, none, none, none, none, none] [] [(b0, 4, O0)] sz 0 0 (QM Z D n0 P none [(b0, 4, Oz0)] sz)
  unfold k_setTriple at hf
  refine Go.aloadN (pc2 := 1) d_k_setTriple_0 rfl rfl ?_
  refine Go.geta (pc2 := 4) d_k_setTriple_1 rfl rfl D_C (by exact w_17 hw) (q := 0) rfl (j := 0) rfl (Nat.le_of_ble_eq_true rfl) rfl ?_
  refine Go.iloadN (pc2 := 5) d_k_setTriple_4 rfl rfl ?_
  have hb := okb hf
  replace hf := ifp hb hf
  refine Go.iald (pc2 := 6) d_k_setTriple_5 rfl (q := 0) rfl (j := 0) rfl (Nat.le_of_ble_eq_true rfl) rfl hb (z := O0 1 v2.toNat) rfl ?_
  refine Go.i2l (pc2 := 7) d_k_setTriple_6 rfl ?_
  refine Go.aloadN (pc2 := 8) d_k_setTriple_7 rfl rfl ?_
  refine Go.geta (pc2 := 11) d_k_setTriple_8 rfl rfl D_C (by exact w_17 hw) (q := 0) rfl (j := 0) rfl (Nat.le_of_ble_eq_true rfl) rfl ?_
  refine Go.iloadN (pc2 := 12) d_k_setTriple_11 rfl rfl ?_
  have hb := okb hf
  replace hf := ifp hb hf
  refine Go.iald (pc2 := 13) d_k_setTriple_12 rfl (q := 0) rfl (j := 0) rfl (Nat.le_of_ble_eq_true rfl) rfl hb (z := O0 1 v1.toNat) rfl ?_
  refine Go.i2l (pc2 := 14) d_k_setTriple_13 rfl ?_
  refine Go.lsub (pc2 := 15) d_k_setTriple_14 rfl ?_
  refine Go.lstore (pc2 := 17) (L2 := [some (vR b0), some (vI v1), some (vI v2), some (vI v3), some (vJ (w64 ((O0 1 v2.toNat) - (O0 1 v1.toNat)))), none, none, none, none, none, none, none, none, none, none, none, none, none, none, none, none, none]) d_k_setTriple_15 rfl (Nat.le_of_ble_eq_true rfl) rfl ?_
  refine lt_in hf (G := fun v4 => G_k_setTriple l Z n0 P 17 [some (vR b0), some (vI v1), some (vI v2), some (vI v3), some (vJ v4), none, none, none, none, none, none, none, none, none, none, none, none, none, none, none, none, none] [] [(b0, 4, O0)] sz 0 0 (QM Z D n0 P none [(b0, 4, Oz0)] sz)) ?_
  clear hf
  intro v4 hf
  refine Go.aloadN (pc2 := 18) d_k_setTriple_17 rfl rfl ?_
  refine Go.geta (pc2 := 21) d_k_setTriple_18 rfl rfl D_C (by exact w_19 hw) (q := 0) rfl (j := 1) rfl (Nat.le_of_ble_eq_true rfl) rfl ?_
  refine Go.iloadN (pc2 := 22) d_k_setTriple_21 rfl rfl ?_
  have hb := okb hf
  replace hf := ifp hb hf
  refine Go.iald (pc2 := 23) d_k_setTriple_22 rfl (q := 0) rfl (j := 1) rfl (Nat.le_of_ble_eq_true rfl) rfl hb (z := O0 2 v2.toNat) rfl ?_
  refine Go.i2l (pc2 := 24) d_k_setTriple_23 rfl ?_
  refine Go.aloadN (pc2 := 25) d_k_setTriple_24 rfl rfl ?_
  refine Go.geta (pc2 := 28) d_k_setTriple_25 rfl rfl D_C (by exact w_19 hw) (q := 0) rfl (j := 1) rfl (Nat.le_of_ble_eq_true rfl) rfl ?_
  refine Go.iloadN (pc2 := 29) d_k_setTriple_28 rfl rfl ?_
  have hb := okb hf
  replace hf := ifp hb hf
  refine Go.iald (pc2 := 30) d_k_setTriple_29 rfl (q := 0) rfl (j := 1) rfl (Nat.le_of_ble_eq_true rfl) rfl hb (z := O0 2 v1.toNat) rfl ?_
  refine Go.i2l (pc2 := 31) d_k_setTriple_30 rfl ?_
  refine Go.lsub (pc2 := 32) d_k_setTriple_31 rfl ?_
  refine Go.lstore (pc2 := 34) (L2 := [some (vR b0), some (vI v1), some (vI v2), some (vI v3), some (vJ v4), none, some (vJ (w64 ((O0 2 v2.toNat) - (O0 2 v1.toNat)))), none, none, none, none, none, none, none, none, none, none, none, none, none, none, none]) d_k_setTriple_32 rfl (Nat.le_of_ble_eq_true rfl) rfl ?_
  refine lt_in hf (G := fun v6 => G_k_setTriple l Z n0 P 34 [some (vR b0), some (vI v1), some (vI v2), some (vI v3), some (vJ v4), none, some (vJ v6), none, none, none, none, none, none, none, none, none, none, none, none, none, none, none] [] [(b0, 4, O0)] sz 0 0 (QM Z D n0 P none [(b0, 4, Oz0)] sz)) ?_
  clear hf
  intro v6 hf
  refine Go.aloadN (pc2 := 35) d_k_setTriple_34 rfl rfl ?_
  refine Go.geta (pc2 := 38) d_k_setTriple_35 rfl rfl D_C (by exact w_17 hw) (q := 0) rfl (j := 0) rfl (Nat.le_of_ble_eq_true rfl) rfl ?_
  refine Go.iloadN (pc2 := 39) d_k_setTriple_38 rfl rfl ?_
  have hb := okb hf
  replace hf := ifp hb hf
  refine Go.iald (pc2 := 40) d_k_setTriple_39 rfl (q := 0) rfl (j := 0) rfl (Nat.le_of_ble_eq_true rfl) rfl hb (z := O0 1 v3.toNat) rfl ?_
  refine Go.i2l (pc2 := 41) d_k_setTriple_40 rfl ?_
  refine Go.aloadN (pc2 := 42) d_k_setTriple_41 rfl rfl ?_
  refine Go.geta (pc2 := 45) d_k_setTriple_42 rfl rfl D_C (by exact w_17 hw) (q := 0) rfl (j := 0) rfl (Nat.le_of_ble_eq_true rfl) rfl ?_
  refine Go.iloadN (pc2 := 46) d_k_setTriple_45 rfl rfl ?_
  have hb := okb hf
  replace hf := ifp hb hf
  refine Go.iald (pc2 := 47) d_k_setTriple_46 rfl (q := 0) rfl (j := 0) rfl (Nat.le_of_ble_eq_true rfl) rfl hb (z := O0 1 v1.toNat) rfl ?_
  refine Go.i2l (pc2 := 48) d_k_setTriple_47 rfl ?_
  refine Go.lsub (pc2 := 49) d_k_setTriple_48 rfl ?_
  refine Go.lstore (pc2 := 51) (L2 := [some (vR b0), some (vI v1), some (vI v2), some (vI v3), some (vJ v4), none, some (vJ v6), none, some (vJ (w64 ((O0 1 v3.toNat) - (O0 1 v1.toNat)))), none, none, none, none, none, none, none, none, none, none, none, none, none]) d_k_setTriple_49 rfl (Nat.le_of_ble_eq_true rfl) rfl ?_
  refine lt_in hf (G := fun v8 => G_k_setTriple l Z n0 P 51 [some (vR b0), some (vI v1), some (vI v2), some (vI v3), some (vJ v4), none, some (vJ v6), none, some (vJ v8), none, none, none, none, none, none, none, none, none, none, none, none, none] [] [(b0, 4, O0)] sz 0 0 (QM Z D n0 P none [(b0, 4, Oz0)] sz)) ?_
  clear hf
  intro v8 hf
  refine Go.aloadN (pc2 := 52) d_k_setTriple_51 rfl rfl ?_
  refine Go.geta (pc2 := 55) d_k_setTriple_52 rfl rfl D_C (by exact w_19 hw) (q := 0) rfl (j := 1) rfl (Nat.le_of_ble_eq_true rfl) rfl ?_
  refine Go.iloadN (pc2 := 56) d_k_setTriple_55 rfl rfl ?_
  have hb := okb hf
  replace hf := ifp hb hf
  refine Go.iald (pc2 := 57) d_k_setTriple_56 rfl (q := 0) rfl (j := 1) rfl (Nat.le_of_ble_eq_true rfl) rfl hb (z := O0 2 v3.toNat) rfl ?_
  refine Go.i2l (pc2 := 58) d_k_setTriple_57 rfl ?_
  refine Go.aloadN (pc2 := 59) d_k_setTriple_58 rfl rfl ?_
  refine Go.geta (pc2 := 62) d_k_setTriple_59 rfl rfl D_C (by exact w_19 hw) (q := 0) rfl (j := 1) rfl (Nat.le_of_ble_eq_true rfl) rfl ?_
  refine Go.iloadN (pc2 := 63) d_k_setTriple_62 rfl rfl ?_
  have hb := okb hf
  replace hf := ifp hb hf
  refine Go.iald (pc2 := 64) d_k_setTriple_63 rfl (q := 0) rfl (j := 1) rfl (Nat.le_of_ble_eq_true rfl) rfl hb (z := O0 2 v1.toNat) rfl ?_
  refine Go.i2l (pc2 := 65) d_k_setTriple_64 rfl ?_
  refine Go.lsub (pc2 := 66) d_k_setTriple_65 rfl ?_
  refine Go.lstore (pc2 := 68) (L2 := [some (vR b0), some (vI v1), some (vI v2), some (vI v3), some (vJ v4), none, some (vJ v6), none, some (vJ v8), none, some (vJ (w64 ((O0 2 v3.toNat) - (O0 2 v1.toNat)))), none, none, none, none, none, none, none, none, none, none, none]) d_k_setTriple_66 rfl (Nat.le_of_ble_eq_true rfl) rfl ?_
  refine lt_in hf (G := fun v10 => G_k_setTriple l Z n0 P 68 [some (vR b0), some (vI v1), some (vI v2), some (vI v3), some (vJ v4), none, some (vJ v6), none, some (vJ v8), none, some (vJ v10), none, none, none, none, none, none, none, none, none, none, none] [] [(b0, 4, O0)] sz 0 0 (QM Z D n0 P none [(b0, 4, Oz0)] sz)) ?_
  clear hf
  intro v10 hf
  refine Go.ldc2 (pc2 := 71) (i := 2) d_k_setTriple_68 rfl rfl (by exact w_99 hw) (by decide) ?_
  refine Go.lload (pc2 := 73) d_k_setTriple_71 rfl rfl ?_
  refine Go.lload (pc2 := 75) d_k_setTriple_73 rfl rfl ?_
  refine Go.lmul (pc2 := 76) d_k_setTriple_75 rfl ?_
  refine Go.lload (pc2 := 78) d_k_setTriple_76 rfl rfl ?_
  refine Go.lload (pc2 := 80) d_k_setTriple_78 rfl rfl ?_
  refine Go.lmul (pc2 := 81) d_k_setTriple_80 rfl ?_
  refine Go.lsub (pc2 := 82) d_k_setTriple_81 rfl ?_
  refine Go.lmul (pc2 := 83) d_k_setTriple_82 rfl ?_
  refine Go.lstore (pc2 := 85) (L2 := [some (vR b0), some (vI v1), some (vI v2), some (vI v3), some (vJ v4), none, some (vJ v6), none, some (vJ v8), none, some (vJ v10), none, some (vJ (w64 (2 * (w64 ((w64 (v4 * v10)) - (w64 (v6 * v8))))))), none, none, none, none, none, none, none, none, none]) d_k_setTriple_83 rfl (Nat.le_of_ble_eq_true rfl) rfl ?_
  refine lt_in hf (G := fun v12 => G_k_setTriple l Z n0 P 85 [some (vR b0), some (vI v1), some (vI v2), some (vI v3), some (vJ v4), none, some (vJ v6), none, some (vJ v8), none, some (vJ v10), none, some (vJ v12), none, none, none, none, none, none, none, none, none] [] [(b0, 4, O0)] sz 0 0 (QM Z D n0 P none [(b0, 4, Oz0)] sz)) ?_
  clear hf
  intro v12 hf
  refine Go.lload (pc2 := 87) d_k_setTriple_85 rfl rfl ?_
  refine Go.lconst (pc2 := 88) (i := 0) d_k_setTriple_87 rfl (by decide) ?_
  by_cases hc : v12 = 0
  · replace hf := ifp hc hf
    refine Go.lcmpF (pc3 := 89) (pc2 := 92) d_k_setTriple_88 d_k_setTriple_89 rfl (fun q => q hc) rfl ?_
    refine Go.aloadN (pc2 := 93) d_k_setTriple_92 rfl rfl ?_
    refine Go.iloadN (pc2 := 94) d_k_setTriple_93 rfl rfl ?_
    refine Go.iloadN (pc2 := 95) d_k_setTriple_94 rfl rfl ?_
    refine Go.iloadN (pc2 := 96) d_k_setTriple_95 rfl rfl ?_
    cases hf
  · replace hf := ifn hc hf
    refine Go.lcmpT (pc3 := 89) (pc2 := 100) d_k_setTriple_88 d_k_setTriple_89 rfl hc (by decide) (by decide) ?_
    refine Go.lload (pc2 := 102) d_k_setTriple_100 rfl rfl ?_
    refine Go.lload (pc2 := 104) d_k_setTriple_102 rfl rfl ?_
    refine Go.lmul (pc2 := 105) d_k_setTriple_104 rfl ?_
    refine Go.lload (pc2 := 107) d_k_setTriple_105 rfl rfl ?_
    refine Go.lload (pc2 := 109) d_k_setTriple_107 rfl rfl ?_
    refine Go.lmul (pc2 := 110) d_k_setTriple_109 rfl ?_
    refine Go.ladd (pc2 := 111) d_k_setTriple_110 rfl ?_
    refine Go.lstore (pc2 := 113) (L2 := [some (vR b0), some (vI v1), some (vI v2), some (vI v3), some (vJ v4), none, some (vJ v6), none, some (vJ v8), none, some (vJ v10), none, some (vJ v12), none, some (vJ (w64 ((w64 (v4 * v4)) + (w64 (v6 * v6))))), none, none, none, none, none, none, none]) d_k_setTriple_111 rfl (Nat.le_of_ble_eq_true rfl) rfl ?_
    refine lt_in hf (G := fun v14 => G_k_setTriple l Z n0 P 113 [some (vR b0), some (vI v1), some (vI v2), some (vI v3), some (vJ v4), none, some (vJ v6), none, some (vJ v8), none, some (vJ v10), none, some (vJ v12), none, some (vJ v14), none, none, none, none, none, none, none] [] [(b0, 4, O0)] sz 0 0 (QM Z D n0 P none [(b0, 4, Oz0)] sz)) ?_
    clear hf
    intro v14 hf
    refine Go.lload (pc2 := 115) d_k_setTriple_113 rfl rfl ?_
    refine Go.lload (pc2 := 117) d_k_setTriple_115 rfl rfl ?_
    refine Go.lmul (pc2 := 118) d_k_setTriple_117 rfl ?_
    refine Go.lload (pc2 := 120) d_k_setTriple_118 rfl rfl ?_
    refine Go.lload (pc2 := 122) d_k_setTriple_120 rfl rfl ?_
    refine Go.lmul (pc2 := 123) d_k_setTriple_122 rfl ?_
    refine Go.ladd (pc2 := 124) d_k_setTriple_123 rfl ?_
    refine Go.lstore (pc2 := 126) (L2 := [some (vR b0), some (vI v1), some (vI v2), some (vI v3), some (vJ v4), none, some (vJ v6), none, some (vJ v8), none, some (vJ v10), none, some (vJ v12), none, some (vJ v14), none, some (vJ (w64 ((w64 (v8 * v8)) + (w64 (v10 * v10))))), none, none, none, none, none]) d_k_setTriple_124 rfl (Nat.le_of_ble_eq_true rfl) rfl ?_
    refine lt_in hf (G := fun v16 => G_k_setTriple l Z n0 P 126 [some (vR b0), some (vI v1), some (vI v2), some (vI v3), some (vJ v4), none, some (vJ v6), none, some (vJ v8), none, some (vJ v10), none, some (vJ v12), none, some (vJ v14), none, some (vJ v16), none, none, none, none, none] [] [(b0, 4, O0)] sz 0 0 (QM Z D n0 P none [(b0, 4, Oz0)] sz)) ?_
    clear hf
    intro v16 hf
    refine Go.lload (pc2 := 128) d_k_setTriple_126 rfl rfl ?_
    refine Go.lload (pc2 := 130) d_k_setTriple_128 rfl rfl ?_
    refine Go.lmul (pc2 := 131) d_k_setTriple_130 rfl ?_
    refine Go.lload (pc2 := 133) d_k_setTriple_131 rfl rfl ?_
    refine Go.lload (pc2 := 135) d_k_setTriple_133 rfl rfl ?_
    refine Go.lmul (pc2 := 136) d_k_setTriple_135 rfl ?_
    refine Go.lsub (pc2 := 137) d_k_setTriple_136 rfl ?_
    refine Go.lstore (pc2 := 139) (L2 := [some (vR b0), some (vI v1), some (vI v2), some (vI v3), some (vJ v4), none, some (vJ v6), none, some (vJ v8), none, some (vJ v10), none, some (vJ v12), none, some (vJ v14), none, some (vJ v16), none, some (vJ (w64 ((w64 (v10 * v14)) - (w64 (v6 * v16))))), none, none, none]) d_k_setTriple_137 rfl (Nat.le_of_ble_eq_true rfl) rfl ?_
    refine lt_in hf (G := fun v18 => G_k_setTriple l Z n0 P 139 [some (vR b0), some (vI v1), some (vI v2), some (vI v3), some (vJ v4), none, some (vJ v6), none, some (vJ v8), none, some (vJ v10), none, some (vJ v12), none, some (vJ v14), none, some (vJ v16), none, some (vJ v18), none, none, none] [] [(b0, 4, O0)] sz 0 0 (QM Z D n0 P none [(b0, 4, Oz0)] sz)) ?_
    clear hf
    intro v18 hf
    refine Go.lload (pc2 := 141) d_k_setTriple_139 rfl rfl ?_
    refine Go.lload (pc2 := 143) d_k_setTriple_141 rfl rfl ?_
    refine Go.lmul (pc2 := 144) d_k_setTriple_143 rfl ?_
    refine Go.lload (pc2 := 146) d_k_setTriple_144 rfl rfl ?_
    refine Go.lload (pc2 := 148) d_k_setTriple_146 rfl rfl ?_
    refine Go.lmul (pc2 := 149) d_k_setTriple_148 rfl ?_
    refine Go.lsub (pc2 := 150) d_k_setTriple_149 rfl ?_
    refine Go.lstore (pc2 := 152) (L2 := [some (vR b0), some (vI v1), some (vI v2), some (vI v3), some (vJ v4), none, some (vJ v6), none, some (vJ v8), none, some (vJ v10), none, some (vJ v12), none, some (vJ v14), none, some (vJ v16), none, some (vJ v18), none, some (vJ (w64 ((w64 (v4 * v16)) - (w64 (v8 * v14))))), none]) d_k_setTriple_150 rfl (Nat.le_of_ble_eq_true rfl) rfl ?_
    refine lt_in hf (G := fun v20 => G_k_setTriple l Z n0 P 152 [some (vR b0), some (vI v1), some (vI v2), some (vI v3), some (vJ v4), none, some (vJ v6), none, some (vJ v8), none, some (vJ v10), none, some (vJ v12), none, some (vJ v14), none, some (vJ v16), none, some (vJ v18), none, some (vJ v20), none] [] [(b0, 4, O0)] sz 0 0 (QM Z D n0 P none [(b0, 4, Oz0)] sz)) ?_
    clear hf
    intro v20 hf
    refine Go.lload (pc2 := 154) d_k_setTriple_152 rfl rfl ?_
    refine Go.lconst (pc2 := 155) (i := 0) d_k_setTriple_154 rfl (by decide) ?_
    by_cases hc : v12 < 0
    · replace hf := ifp hc hf
      refine Go.lcmpF (pc3 := 156) (pc2 := 159) d_k_setTriple_155 d_k_setTriple_156 rfl (Int.not_le.mpr hc) rfl ?_
      refine Go.lload (pc2 := 161) d_k_setTriple_159 rfl rfl ?_
      refine Go.lneg (pc2 := 162) d_k_setTriple_161 rfl ?_
      refine Go.lstore (pc2 := 164) (L2 := [some (vR b0), some (vI v1), some (vI v2), some (vI v3), some (vJ v4), none, some (vJ v6), none, some (vJ v8), none, some (vJ v10), none, some (vJ (w64 (-v12))), none, some (vJ v14), none, some (vJ v16), none, some (vJ v18), none, some (vJ v20), none]) d_k_setTriple_162 rfl (Nat.le_of_ble_eq_true rfl) rfl ?_
      refine Go.lload (pc2 := 166) d_k_setTriple_164 rfl rfl ?_
      refine Go.lneg (pc2 := 167) d_k_setTriple_166 rfl ?_
      refine Go.lstore (pc2 := 169) (L2 := [some (vR b0), some (vI v1), some (vI v2), some (vI v3), some (vJ v4), none, some (vJ v6), none, some (vJ v8), none, some (vJ v10), none, some (vJ (w64 (-v12))), none, some (vJ v14), none, some (vJ v16), none, some (vJ (w64 (-v18))), none, some (vJ v20), none]) d_k_setTriple_167 rfl (Nat.le_of_ble_eq_true rfl) rfl ?_
      refine Go.lload (pc2 := 171) d_k_setTriple_169 rfl rfl ?_
      refine Go.lneg (pc2 := 172) d_k_setTriple_171 rfl ?_
      refine Go.lstore (pc2 := 174) (L2 := [some (vR b0), some (vI v1), some (vI v2), some (vI v3), some (vJ v4), none, some (vJ v6), none, some (vJ v8), none, some (vJ v10), none, some (vJ (w64 (-v12))), none, some (vJ v14), none, some (vJ v16), none, some (vJ (w64 (-v18))), none, some (vJ (w64 (-v20))), none]) d_k_setTriple_172 rfl (Nat.le_of_ble_eq_true rfl) rfl ?_
      exact Go.mask [true, true, false, false, false, true, false, true, false, true, false, true, true, true, false, true, false, true, true, true, true, true] (tj_k_setTriple_174 hw hf)
    · replace hf := ifn hc hf
      refine Go.lcmpT (pc3 := 156) (pc2 := 174) d_k_setTriple_155 d_k_setTriple_156 rfl (Int.not_lt.mp hc) (by decide) (by decide) ?_
      exact Go.mask [true, true, false, false, false, true, false, true, false, true, false, true, true, true, false, true, false, true, true, true, true, true] (tj_k_setTriple_174 hw hf)
set_option maxRecDepth 65536 in
set_option maxHeartbeats 4000000 in
theorem tb_k_extendTwo_25 {l : Launch} {Z : State} {a0 : Array Value} (hw : ∀ d ∈ tables_1, d.before a0 Z = true) {n0 : Nat} {P : Heap → Prop} {F : Nat} {b0 sz : Nat} {Oz0 : Mo} {c25_2 c25_3 c25_4 : Int} {v5 : Int} {O0 : Mo} {x : (Int × Mo) ⊕ (Mo)} (hf : b_k_extendTwo_25 F c25_2 c25_3 c25_4 v5 O0 = some x) (K : Sum.elim (fun s => G_k_extendTwo l Z n0 P 25 [some (vR b0), none, some (vI c25_2), some (vI c25_3), some (vI c25_4), some (vI s.1), none] [] [(b0, 4, s.2)] sz 0 0 (QM Z D n0 P none [(b0, 4, Oz0)] sz)) (fun rz => G_k_extendTwo l Z n0 P 64 [none, none, none, none, none, none, none] [] [(b0, 4, rz)] sz 0 0 (QM Z D n0 P none [(b0, 4, Oz0)] sz)) x) :
    G_k_extendTwo l Z n0 P 25 [some (vR b0), none, some (vI c25_2), some (vI c25_3), some (vI c25_4), some (vI v5), none] [] [(b0, 4, O0)] sz 0 0 (QM Z D n0 P none [(b0, 4, Oz0)] sz) := by
  unfold b_k_extendTwo_25 at hf
  refine Go.iload (pc2 := 27) d_k_extendTwo_25 rfl rfl ?_
  refine Go.iloadN (pc2 := 28) d_k_extendTwo_27 rfl rfl ?_
  by_cases hc : v5 < c25_2
  · replace hf := ifp hc hf
    refine Go.icmpF (pc2 := 31) d_k_extendTwo_28 (Int.not_le.mpr hc) rfl ?_
    refine Go.aloadN (pc2 := 32) d_k_extendTwo_31 rfl rfl ?_
    refine Go.geta (pc2 := 35) d_k_extendTwo_32 rfl rfl D_C (by exact w_21 hw) (q := 0) rfl (j := 2) rfl (Nat.le_of_ble_eq_true rfl) rfl ?_
    refine Go.iload (pc2 := 37) d_k_extendTwo_35 rfl rfl ?_
    have hb := okb hf
    replace hf := ifp hb hf
    refine Go.iald (pc2 := 38) d_k_extendTwo_37 rfl (q := 0) rfl (j := 2) rfl (Nat.le_of_ble_eq_true rfl) rfl hb (z := O0 3 v5.toNat) rfl ?_
    refine Go.istore (pc2 := 40) (L2 := [some (vR b0), none, some (vI c25_2), some (vI c25_3), some (vI c25_4), some (vI v5), some (vI (O0 3 v5.toNat))]) d_k_extendTwo_38 rfl (Nat.le_of_ble_eq_true rfl) rfl ?_
    refine Go.aloadN (pc2 := 41) d_k_extendTwo_40 rfl rfl ?_
    refine Go.iload (pc2 := 43) d_k_extendTwo_41 rfl rfl ?_
    refine bind_in hf ?_
    clear hf
    intro r_1 h_r_1 hf
    refine Go.callp (pc2 := 46) (as := [vI (O0 3 v5.toNat)]) (S := []) (w := (some (vI r_1))) (os2 := [(b0, 4, O0)]) (sz2 := sz) (S2 := [vI r_1]) (rm := R_k_outside) d_k_extendTwo_43 rfl rfl (by exact w_83 hw) (by exact w_85 hw) (by exact w_84 hw) (by exact w_86 hw) rfl (by exact w_2 hw) (by exact w_1 hw) (q := 0) rfl (by decide) pd_k_outside (by decide) (Nat.le_of_ble_eq_true rfl) (by decide) (by decide) (nc := 0) (ns := 0) rfl rfl rfl (cu2 := 0) rfl (su2 := 0) rfl rfl (Pays.one (q := 0) rfl rfl (fun P2 hP2 => th_k_outside hw h_r_1)) rfl ?_
    by_cases hc : r_1 = 0
    · replace hf := ifp hc hf
      refine Go.ifT (pc2 := 58) d_k_extendTwo_46 hc (by decide) (by decide) ?_
      refine Go.iinc (pc2 := 61) (L2 := [some (vR b0), none, some (vI c25_2), some (vI c25_3), some (vI c25_4), some (vI (w32 (v5 + 1))), some (vI (O0 3 v5.toNat))]) d_k_extendTwo_58 rfl rfl rfl ?_
      refine Go.goto (pc2 := 25) d_k_extendTwo_61 (by decide) (by decide) ?_
      cases hf
      exact Go.mask [true, true, true, true, true, true, false] K
    · replace hf := ifn hc hf
      refine Go.ifF (pc2 := 49) d_k_extendTwo_46 hc rfl ?_
      refine Go.aloadN (pc2 := 50) d_k_extendTwo_49 rfl rfl ?_
      refine Go.iloadN (pc2 := 51) d_k_extendTwo_50 rfl rfl ?_
      refine Go.iload (pc2 := 53) d_k_extendTwo_51 rfl rfl ?_
      refine Go.iload (pc2 := 55) d_k_extendTwo_53 rfl rfl ?_
      refine bind_in hf ?_
      clear hf
      intro r_2 h_r_2 hf
      refine Go.callp (pc2 := 58) (as := [vI c25_3, vI c25_4, vI (O0 3 v5.toNat)]) (S := []) (w := none) (os2 := [(b0, 4, r_2)]) (sz2 := sz) (S2 := []) (rm := R_k_setTriple) d_k_extendTwo_55 rfl rfl (by exact w_100 hw) (by exact w_102 hw) (by exact w_101 hw) (by exact w_103 hw) rfl (by exact w_2 hw) (by exact w_1 hw) (q := 0) rfl (by decide) pd_k_setTriple (by decide) (Nat.le_of_ble_eq_true rfl) (by decide) (by decide) (nc := 0) (ns := 0) rfl rfl rfl (cu2 := 0) rfl (su2 := 0) rfl rfl (Pays.one (q := 0) rfl rfl (fun P2 hP2 => th_k_setTriple hw h_r_2)) rfl ?_
      refine Go.iinc (pc2 := 61) (L2 := [some (vR b0), none, some (vI c25_2), some (vI c25_3), some (vI c25_4), some (vI (w32 (v5 + 1))), some (vI (O0 3 v5.toNat))]) d_k_extendTwo_58 rfl rfl rfl ?_
      refine Go.goto (pc2 := 25) d_k_extendTwo_61 (by decide) (by decide) ?_
      cases hf
      exact Go.mask [true, true, true, true, true, true, false] K
  · replace hf := ifn hc hf
    refine Go.icmpT (pc2 := 64) d_k_extendTwo_28 (Int.not_lt.mp hc) (by decide) (by decide) ?_
    cases hf
    exact Go.mask [false, true, false, false, false, false, true] K
set_option maxRecDepth 65536 in
set_option maxHeartbeats 4000000 in
theorem th_k_extendTwo {l : Launch} {Z : State} {a0 : Array Value} (hw : ∀ d ∈ tables_1, d.before a0 Z = true) {n0 : Nat} {P : Heap → Prop} {F : Nat} {b0 sz : Nat} {Oz0 : Mo} {O0 : Mo} {v1 v2 : Int} (hf : k_extendTwo F O0 v1 v2 = some Oz0) :
    Meth l Z D n0 P (⟨"MinCircle", "extendTwo", "(II)V"⟩ : MethodName) prog_1_method_23_code 7 none R_k_extendTwo [vR b0, vI v1, vI v2] [(b0, 4, O0)] sz (QM Z D n0 P none [(b0, 4, Oz0)] sz) := by
  refine Meth.of (plainFor_of_name pn_cls) (Nat.le_of_ble_eq_true rfl) ?_
  show G_k_extendTwo l Z n0 P 0 [some (vR b0), some (vI v1), some (vI v2), none, none, none, none] [] [(b0, 4, O0)] sz 0 0 (QM Z D n0 P none [(b0, 4, Oz0)] sz)
  unfold k_extendTwo at hf
  refine Go.aloadN (pc2 := 1) d_k_extendTwo_0 rfl rfl ?_
  refine Go.geta (pc2 := 4) d_k_extendTwo_1 rfl rfl D_C (by exact w_21 hw) (q := 0) rfl (j := 2) rfl (Nat.le_of_ble_eq_true rfl) rfl ?_
  refine Go.iloadN (pc2 := 5) d_k_extendTwo_4 rfl rfl ?_
  have hb := okb hf
  replace hf := ifp hb hf
  refine Go.iald (pc2 := 6) d_k_extendTwo_5 rfl (q := 0) rfl (j := 2) rfl (Nat.le_of_ble_eq_true rfl) rfl hb (z := O0 3 v1.toNat) rfl ?_
  refine Go.istoreN (pc2 := 7) (L2 := [some (vR b0), some (vI v1), some (vI v2), some (vI (O0 3 v1.toNat)), none, none, none]) d_k_extendTwo_6 rfl (Nat.le_of_ble_eq_true rfl) rfl ?_
  refine Go.aloadN (pc2 := 8) d_k_extendTwo_7 rfl rfl ?_
  refine Go.geta (pc2 := 11) d_k_extendTwo_8 rfl rfl D_C (by exact w_21 hw) (q := 0) rfl (j := 2) rfl (Nat.le_of_ble_eq_true rfl) rfl ?_
  refine Go.iloadN (pc2 := 12) d_k_extendTwo_11 rfl rfl ?_
  have hb := okb hf
  replace hf := ifp hb hf
  refine Go.iald (pc2 := 13) d_k_extendTwo_12 rfl (q := 0) rfl (j := 2) rfl (Nat.le_of_ble_eq_true rfl) rfl hb (z := O0 3 v2.toNat) rfl ?_
  refine Go.istore (pc2 := 15) (L2 := [some (vR b0), some (vI v1), some (vI v2), some (vI (O0 3 v1.toNat)), some (vI (O0 3 v2.toNat)), none, none]) d_k_extendTwo_13 rfl (Nat.le_of_ble_eq_true rfl) rfl ?_
  refine Go.aloadN (pc2 := 16) d_k_extendTwo_15 rfl rfl ?_
  refine Go.iloadN (pc2 := 17) d_k_extendTwo_16 rfl rfl ?_
  refine Go.iload (pc2 := 19) d_k_extendTwo_17 rfl rfl ?_
  refine bind_in hf ?_
  clear hf
  intro r h_r hf
  refine Go.callp (pc2 := 22) (as := [vI (O0 3 v1.toNat), vI (O0 3 v2.toNat)]) (S := []) (w := none) (os2 := [(b0, 4, r)]) (sz2 := sz) (S2 := []) (rm := R_k_setPair) d_k_extendTwo_19 rfl rfl (by exact w_95 hw) (by exact w_97 hw) (by exact w_96 hw) (by exact w_98 hw) rfl (by exact w_2 hw) (by exact w_1 hw) (q := 0) rfl (by decide) pd_k_setPair (by decide) (Nat.le_of_ble_eq_true rfl) (by decide) (by decide) (nc := 0) (ns := 0) rfl rfl rfl (cu2 := 0) rfl (su2 := 0) rfl rfl (Pays.one (q := 0) rfl rfl (fun P2 hP2 => th_k_setPair hw h_r)) rfl ?_
  refine Go.iconst (pc2 := 23) d_k_extendTwo_22 rfl (by decide) ?_
  refine Go.istore (pc2 := 25) (L2 := [some (vR b0), some (vI v1), some (vI v2), some (vI (O0 3 v1.toNat)), some (vI (O0 3 v2.toNat)), some (vI 0), none]) d_k_extendTwo_23 rfl (Nat.le_of_ble_eq_true rfl) rfl ?_
  refine Go.mask [true, false, true, true, true, true, true] ?_
  refine loop_go hf (Gs := fun s => G_k_extendTwo l Z n0 P 25 [some (vR b0), none, some (vI v2), some (vI (O0 3 v1.toNat)), some (vI (O0 3 v2.toNat)), some (vI s.1), none] [] [(b0, 4, s.2)] sz 0 0 (QM Z D n0 P none [(b0, 4, Oz0)] sz)) (Gr := (fun rz => G_k_extendTwo l Z n0 P 64 [none, none, none, none, none, none, none] [] [(b0, 4, rz)] sz 0 0 (QM Z D n0 P none [(b0, 4, Oz0)] sz))) (fun s x hx K => tb_k_extendTwo_25 (F := F) (c25_2 := v2) (c25_3 := O0 3 v1.toNat) (c25_4 := O0 3 v2.toNat) (v5 := s.1) (O0 := s.2) (x := x) hw hx K) ?_
  clear hf
  intro r_1 hf
  cases hf
  exact Go.retv d_k_extendTwo_64 rfl (Nat.le_of_ble_eq_true rfl) (Nat.le_of_ble_eq_true rfl) (fun _ H => ⟨rfl, H⟩)
set_option maxRecDepth 65536 in
set_option maxHeartbeats 4000000 in
theorem tb_k_extendOne_12 {l : Launch} {Z : State} {a0 : Array Value} (hw : ∀ d ∈ tables_1, d.before a0 Z = true) {n0 : Nat} {P : Heap → Prop} {F : Nat} {b0 sz : Nat} {Oz0 : Mo} {c12_1 : Int} {v2 : Int} {O0 : Mo} {x : (Int × Mo) ⊕ (Mo)} (hf : b_k_extendOne_12 F c12_1 v2 O0 = some x) (K : Sum.elim (fun s => G_k_extendOne l Z n0 P 12 [some (vR b0), some (vI c12_1), some (vI s.1)] [] [(b0, 4, s.2)] sz 0 0 (QM Z D n0 P none [(b0, 4, Oz0)] sz)) (fun rz => G_k_extendOne l Z n0 P 42 [none, none, none] [] [(b0, 4, rz)] sz 0 0 (QM Z D n0 P none [(b0, 4, Oz0)] sz)) x) :
    G_k_extendOne l Z n0 P 12 [some (vR b0), some (vI c12_1), some (vI v2)] [] [(b0, 4, O0)] sz 0 0 (QM Z D n0 P none [(b0, 4, Oz0)] sz) := by
  unfold b_k_extendOne_12 at hf
  refine Go.iloadN (pc2 := 13) d_k_extendOne_12 rfl rfl ?_
  refine Go.iloadN (pc2 := 14) d_k_extendOne_13 rfl rfl ?_
  by_cases hc : v2 < c12_1
  · replace hf := ifp hc hf
    refine Go.icmpF (pc2 := 17) d_k_extendOne_14 (Int.not_le.mpr hc) rfl ?_
    refine Go.aloadN (pc2 := 18) d_k_extendOne_17 rfl rfl ?_
    refine Go.aloadN (pc2 := 19) d_k_extendOne_18 rfl rfl ?_
    refine Go.geta (pc2 := 22) d_k_extendOne_19 rfl rfl D_C (by exact w_21 hw) (q := 0) rfl (j := 2) rfl (Nat.le_of_ble_eq_true rfl) rfl ?_
    refine Go.iloadN (pc2 := 23) d_k_extendOne_22 rfl rfl ?_
    have hb := okb hf
    replace hf := ifp hb hf
    refine Go.iald (pc2 := 24) d_k_extendOne_23 rfl (q := 0) rfl (j := 2) rfl (Nat.le_of_ble_eq_true rfl) rfl hb (z := O0 3 v2.toNat) rfl ?_
    refine bind_in hf ?_
    clear hf
    intro r_1 h_r_1 hf
    refine Go.callp (pc2 := 27) (as := [vI (O0 3 v2.toNat)]) (S := []) (w := (some (vI r_1))) (os2 := [(b0, 4, O0)]) (sz2 := sz) (S2 := [vI r_1]) (rm := R_k_outside) d_k_extendOne_24 rfl rfl (by exact w_83 hw) (by exact w_85 hw) (by exact w_84 hw) (by exact w_86 hw) rfl (by exact w_2 hw) (by exact w_1 hw) (q := 0) rfl (by decide) pd_k_outside (by decide) (Nat.le_of_ble_eq_true rfl) (by decide) (by decide) (nc := 0) (ns := 0) rfl rfl rfl (cu2 := 0) rfl (su2 := 0) rfl rfl (Pays.one (q := 0) rfl rfl (fun P2 hP2 => th_k_outside hw h_r_1)) rfl ?_
    by_cases hc : r_1 = 0
    · replace hf := ifp hc hf
      refine Go.ifT (pc2 := 36) d_k_extendOne_27 hc (by decide) (by decide) ?_
      refine Go.iinc (pc2 := 39) (L2 := [some (vR b0), some (vI c12_1), some (vI (w32 (v2 + 1)))]) d_k_extendOne_36 rfl rfl rfl ?_
      refine Go.goto (pc2 := 12) d_k_extendOne_39 (by decide) (by decide) ?_
      cases hf
      exact K
    · replace hf := ifn hc hf
      refine Go.ifF (pc2 := 30) d_k_extendOne_27 hc rfl ?_
      refine Go.aloadN (pc2 := 31) d_k_extendOne_30 rfl rfl ?_
      refine Go.iloadN (pc2 := 32) d_k_extendOne_31 rfl rfl ?_
      refine Go.iloadN (pc2 := 33) d_k_extendOne_32 rfl rfl ?_
      refine bind_in hf ?_
      clear hf
      intro r_2 h_r_2 hf
      refine Go.callp (pc2 := 36) (as := [vI c12_1, vI v2]) (S := []) (w := none) (os2 := [(b0, 4, r_2)]) (sz2 := sz) (S2 := []) (rm := R_k_extendTwo) d_k_extendOne_33 rfl rfl (by exact w_91 hw) (by exact w_93 hw) (by exact w_92 hw) (by exact w_94 hw) rfl (by exact w_2 hw) (by exact w_1 hw) (q := 0) rfl (by decide) pd_k_extendTwo (by decide) (Nat.le_of_ble_eq_true rfl) (by decide) (by decide) (nc := 0) (ns := 0) rfl rfl rfl (cu2 := 0) rfl (su2 := 0) rfl rfl (Pays.one (q := 0) rfl rfl (fun P2 hP2 => th_k_extendTwo hw h_r_2)) rfl ?_
      refine Go.iinc (pc2 := 39) (L2 := [some (vR b0), some (vI c12_1), some (vI (w32 (v2 + 1)))]) d_k_extendOne_36 rfl rfl rfl ?_
      refine Go.goto (pc2 := 12) d_k_extendOne_39 (by decide) (by decide) ?_
      cases hf
      exact K
  · replace hf := ifn hc hf
    refine Go.icmpT (pc2 := 42) d_k_extendOne_14 (Int.not_lt.mp hc) (by decide) (by decide) ?_
    cases hf
    exact Go.mask [false, false, false] K
set_option maxRecDepth 65536 in
set_option maxHeartbeats 4000000 in
theorem th_k_extendOne {l : Launch} {Z : State} {a0 : Array Value} (hw : ∀ d ∈ tables_1, d.before a0 Z = true) {n0 : Nat} {P : Heap → Prop} {F : Nat} {b0 sz : Nat} {Oz0 : Mo} {O0 : Mo} {v1 : Int} (hf : k_extendOne F O0 v1 = some Oz0) :
    Meth l Z D n0 P (⟨"MinCircle", "extendOne", "(I)V"⟩ : MethodName) prog_1_method_22_code 3 none R_k_extendOne [vR b0, vI v1] [(b0, 4, O0)] sz (QM Z D n0 P none [(b0, 4, Oz0)] sz) := by
  refine Meth.of (plainFor_of_name pn_cls) (Nat.le_of_ble_eq_true rfl) ?_
  show G_k_extendOne l Z n0 P 0 [some (vR b0), some (vI v1), none] [] [(b0, 4, O0)] sz 0 0 (QM Z D n0 P none [(b0, 4, Oz0)] sz)
  unfold k_extendOne at hf
  refine Go.aloadN (pc2 := 1) d_k_extendOne_0 rfl rfl ?_
  refine Go.aloadN (pc2 := 2) d_k_extendOne_1 rfl rfl ?_
  refine Go.geta (pc2 := 5) d_k_extendOne_2 rfl rfl D_C (by exact w_21 hw) (q := 0) rfl (j := 2) rfl (Nat.le_of_ble_eq_true rfl) rfl ?_
  refine Go.iloadN (pc2 := 6) d_k_extendOne_5 rfl rfl ?_
  have hb := okb hf
  replace hf := ifp hb hf
  refine Go.iald (pc2 := 7) d_k_extendOne_6 rfl (q := 0) rfl (j := 2) rfl (Nat.le_of_ble_eq_true rfl) rfl hb (z := O0 3 v1.toNat) rfl ?_
  refine bind_in hf ?_
  clear hf
  intro r h_r hf
  refine Go.callp (pc2 := 10) (as := [vI (O0 3 v1.toNat)]) (S := []) (w := none) (os2 := [(b0, 4, r)]) (sz2 := sz) (S2 := []) (rm := R_k_setPoint) d_k_extendOne_7 rfl rfl (by exact w_73 hw) (by exact w_75 hw) (by exact w_74 hw) (by exact w_76 hw) rfl (by exact w_2 hw) (by exact w_1 hw) (q := 0) rfl (by decide) pd_k_setPoint (by decide) (Nat.le_of_ble_eq_true rfl) (by decide) (by decide) (nc := 0) (ns := 0) rfl rfl rfl (cu2 := 0) rfl (su2 := 0) rfl rfl (Pays.one (q := 0) rfl rfl (fun P2 hP2 => th_k_setPoint hw h_r)) rfl ?_
  refine Go.iconst (pc2 := 11) d_k_extendOne_10 rfl (by decide) ?_
  refine Go.istoreN (pc2 := 12) (L2 := [some (vR b0), some (vI v1), some (vI 0)]) d_k_extendOne_11 rfl (Nat.le_of_ble_eq_true rfl) rfl ?_
  refine loop_go hf (Gs := fun s => G_k_extendOne l Z n0 P 12 [some (vR b0), some (vI v1), some (vI s.1)] [] [(b0, 4, s.2)] sz 0 0 (QM Z D n0 P none [(b0, 4, Oz0)] sz)) (Gr := (fun rz => G_k_extendOne l Z n0 P 42 [none, none, none] [] [(b0, 4, rz)] sz 0 0 (QM Z D n0 P none [(b0, 4, Oz0)] sz))) (fun s x hx K => tb_k_extendOne_12 (F := F) (c12_1 := v1) (v2 := s.1) (O0 := s.2) (x := x) hw hx K) ?_
  clear hf
  intro r_1 hf
  cases hf
  exact Go.retv d_k_extendOne_42 rfl (Nat.le_of_ble_eq_true rfl) (Nat.le_of_ble_eq_true rfl) (fun _ H => ⟨rfl, H⟩)
set_option maxRecDepth 65536 in
set_option maxHeartbeats 4000000 in
theorem tb_k_runIncremental_12 {l : Launch} {Z : State} {a0 : Array Value} (hw : ∀ d ∈ tables_1, d.before a0 Z = true) {n0 : Nat} {P : Heap → Prop} {F : Nat} {b0 sz : Nat} {Oz0 : Mo} {v1 : Int} {O0 : Mo} {x : (Int × Mo) ⊕ (Mo)} (hf : b_k_runIncremental_12 F v1 O0 = some x) (K : Sum.elim (fun s => G_k_runIncremental l Z n0 P 12 [some (vR b0), some (vI s.1)] [] [(b0, 4, s.2)] sz 0 0 (QM Z D n0 P none [(b0, 4, Oz0)] sz)) (fun rz => G_k_runIncremental l Z n0 P 44 [none, none] [] [(b0, 4, rz)] sz 0 0 (QM Z D n0 P none [(b0, 4, Oz0)] sz)) x) :
    G_k_runIncremental l Z n0 P 12 [some (vR b0), some (vI v1)] [] [(b0, 4, O0)] sz 0 0 (QM Z D n0 P none [(b0, 4, Oz0)] sz) := by
  unfold b_k_runIncremental_12 at hf
  refine Go.iloadN (pc2 := 13) d_k_runIncremental_12 rfl rfl ?_
  refine Go.aloadN (pc2 := 14) d_k_runIncremental_13 rfl rfl ?_
  refine Go.getf (pc2 := 17) d_k_runIncremental_14 rfl rfl D_C (by exact w_31 hw) (q := 0) rfl (x := O0 0 2) (u := vI (O0 0 2)) (fs_n) rfl rfl ?_
  by_cases hc : v1 < O0 0 2
  · replace hf := ifp hc hf
    refine Go.icmpF (pc2 := 20) d_k_runIncremental_17 (Int.not_le.mpr hc) rfl ?_
    refine Go.aloadN (pc2 := 21) d_k_runIncremental_20 rfl rfl ?_
    refine Go.aloadN (pc2 := 22) d_k_runIncremental_21 rfl rfl ?_
    refine Go.geta (pc2 := 25) d_k_runIncremental_22 rfl rfl D_C (by exact w_21 hw) (q := 0) rfl (j := 2) rfl (Nat.le_of_ble_eq_true rfl) rfl ?_
    refine Go.iloadN (pc2 := 26) d_k_runIncremental_25 rfl rfl ?_
    have hb := okb hf
    replace hf := ifp hb hf
    refine Go.iald (pc2 := 27) d_k_runIncremental_26 rfl (q := 0) rfl (j := 2) rfl (Nat.le_of_ble_eq_true rfl) rfl hb (z := O0 3 v1.toNat) rfl ?_
    refine bind_in hf ?_
    clear hf
    intro r_1 h_r_1 hf
    refine Go.callp (pc2 := 30) (as := [vI (O0 3 v1.toNat)]) (S := []) (w := (some (vI r_1))) (os2 := [(b0, 4, O0)]) (sz2 := sz) (S2 := [vI r_1]) (rm := R_k_outside) d_k_runIncremental_27 rfl rfl (by exact w_83 hw) (by exact w_85 hw) (by exact w_84 hw) (by exact w_86 hw) rfl (by exact w_2 hw) (by exact w_1 hw) (q := 0) rfl (by decide) pd_k_outside (by decide) (Nat.le_of_ble_eq_true rfl) (by decide) (by decide) (nc := 0) (ns := 0) rfl rfl rfl (cu2 := 0) rfl (su2 := 0) rfl rfl (Pays.one (q := 0) rfl rfl (fun P2 hP2 => th_k_outside hw h_r_1)) rfl ?_
    by_cases hc : r_1 = 0
    · replace hf := ifp hc hf
      refine Go.ifT (pc2 := 38) d_k_runIncremental_30 hc (by decide) (by decide) ?_
      refine Go.iinc (pc2 := 41) (L2 := [some (vR b0), some (vI (w32 (v1 + 1)))]) d_k_runIncremental_38 rfl rfl rfl ?_
      refine Go.goto (pc2 := 12) d_k_runIncremental_41 (by decide) (by decide) ?_
      cases hf
      exact K
    · replace hf := ifn hc hf
      refine Go.ifF (pc2 := 33) d_k_runIncremental_30 hc rfl ?_
      refine Go.aloadN (pc2 := 34) d_k_runIncremental_33 rfl rfl ?_
      refine Go.iloadN (pc2 := 35) d_k_runIncremental_34 rfl rfl ?_
      refine bind_in hf ?_
      clear hf
      intro r_2 h_r_2 hf
      refine Go.callp (pc2 := 38) (as := [vI v1]) (S := []) (w := none) (os2 := [(b0, 4, r_2)]) (sz2 := sz) (S2 := []) (rm := R_k_extendOne) d_k_runIncremental_35 rfl rfl (by exact w_87 hw) (by exact w_89 hw) (by exact w_88 hw) (by exact w_90 hw) rfl (by exact w_2 hw) (by exact w_1 hw) (q := 0) rfl (by decide) pd_k_extendOne (by decide) (Nat.le_of_ble_eq_true rfl) (by decide) (by decide) (nc := 0) (ns := 0) rfl rfl rfl (cu2 := 0) rfl (su2 := 0) rfl rfl (Pays.one (q := 0) rfl rfl (fun P2 hP2 => th_k_extendOne hw h_r_2)) rfl ?_
      refine Go.iinc (pc2 := 41) (L2 := [some (vR b0), some (vI (w32 (v1 + 1)))]) d_k_runIncremental_38 rfl rfl rfl ?_
      refine Go.goto (pc2 := 12) d_k_runIncremental_41 (by decide) (by decide) ?_
      cases hf
      exact K
  · replace hf := ifn hc hf
    refine Go.icmpT (pc2 := 44) d_k_runIncremental_17 (Int.not_lt.mp hc) (by decide) (by decide) ?_
    cases hf
    exact Go.mask [false, false] K
set_option maxRecDepth 65536 in
set_option maxHeartbeats 4000000 in
theorem th_k_runIncremental {l : Launch} {Z : State} {a0 : Array Value} (hw : ∀ d ∈ tables_1, d.before a0 Z = true) {n0 : Nat} {P : Heap → Prop} {F : Nat} {b0 sz : Nat} {Oz0 : Mo} {O0 : Mo} (hf : k_runIncremental F O0 = some Oz0) :
    Meth l Z D n0 P (⟨"MinCircle", "runIncremental", "()V"⟩ : MethodName) prog_1_method_21_code 2 none R_k_runIncremental [vR b0] [(b0, 4, O0)] sz (QM Z D n0 P none [(b0, 4, Oz0)] sz) := by
  refine Meth.of (plainFor_of_name pn_cls) (Nat.le_of_ble_eq_true rfl) ?_
  show G_k_runIncremental l Z n0 P 0 [some (vR b0), none] [] [(b0, 4, O0)] sz 0 0 (QM Z D n0 P none [(b0, 4, Oz0)] sz)
  unfold k_runIncremental at hf
  refine Go.aloadN (pc2 := 1) d_k_runIncremental_0 rfl rfl ?_
  refine Go.aloadN (pc2 := 2) d_k_runIncremental_1 rfl rfl ?_
  refine Go.geta (pc2 := 5) d_k_runIncremental_2 rfl rfl D_C (by exact w_21 hw) (q := 0) rfl (j := 2) rfl (Nat.le_of_ble_eq_true rfl) rfl ?_
  refine Go.iconst (pc2 := 6) d_k_runIncremental_5 rfl (by decide) ?_
  refine Go.iald (pc2 := 7) d_k_runIncremental_6 rfl (q := 0) rfl (j := 2) rfl (Nat.le_of_ble_eq_true rfl) rfl (by decide) (z := O0 3 0) rfl ?_
  refine bind_in hf ?_
  clear hf
  intro r h_r hf
  refine Go.callp (pc2 := 10) (as := [vI (O0 3 0)]) (S := []) (w := none) (os2 := [(b0, 4, r)]) (sz2 := sz) (S2 := []) (rm := R_k_setPoint) d_k_runIncremental_7 rfl rfl (by exact w_73 hw) (by exact w_75 hw) (by exact w_74 hw) (by exact w_76 hw) rfl (by exact w_2 hw) (by exact w_1 hw) (q := 0) rfl (by decide) pd_k_setPoint (by decide) (Nat.le_of_ble_eq_true rfl) (by decide) (by decide) (nc := 0) (ns := 0) rfl rfl rfl (cu2 := 0) rfl (su2 := 0) rfl rfl (Pays.one (q := 0) rfl rfl (fun P2 hP2 => th_k_setPoint hw h_r)) rfl ?_
  refine Go.iconst (pc2 := 11) d_k_runIncremental_10 rfl (by decide) ?_
  refine Go.istoreN (pc2 := 12) (L2 := [some (vR b0), some (vI 1)]) d_k_runIncremental_11 rfl (Nat.le_of_ble_eq_true rfl) rfl ?_
  refine loop_go hf (Gs := fun s => G_k_runIncremental l Z n0 P 12 [some (vR b0), some (vI s.1)] [] [(b0, 4, s.2)] sz 0 0 (QM Z D n0 P none [(b0, 4, Oz0)] sz)) (Gr := (fun rz => G_k_runIncremental l Z n0 P 44 [none, none] [] [(b0, 4, rz)] sz 0 0 (QM Z D n0 P none [(b0, 4, Oz0)] sz))) (fun s x hx K => tb_k_runIncremental_12 (F := F) (v1 := s.1) (O0 := s.2) (x := x) hw hx K) ?_
  clear hf
  intro r_1 hf
  cases hf
  exact Go.retv d_k_runIncremental_44 rfl (Nat.le_of_ble_eq_true rfl) (Nat.le_of_ble_eq_true rfl) (fun _ H => ⟨rfl, H⟩)
set_option maxRecDepth 65536 in
set_option maxHeartbeats 4000000 in
theorem th_k_absL {l : Launch} {Z : State} {a0 : Array Value} (hw : ∀ d ∈ tables_1, d.before a0 Z = true) {n0 : Nat} {P : Heap → Prop} {b0 sz : Nat} {rr : Int} {O0 : Mo} {v1 : Int} (hf : k_absL v1 = rr) :
    Meth l Z D n0 P (⟨"MinCircle", "absL", "(J)J"⟩ : MethodName) prog_1_method_30_code 3 (some .long) R_k_absL [vR b0, vJ v1] [(b0, 4, O0)] sz (QM Z D n0 P (some (vJ rr)) [(b0, 4, O0)] sz) := by
  refine Meth.of (plainFor_of_name pn_cls) (Nat.le_of_ble_eq_true rfl) ?_
  show G_k_absL l Z n0 P 0 [some (vR b0), some (vJ v1), none] [] [(b0, 4, O0)] sz 0 0 (QM Z D n0 P (some (vJ rr)) [(b0, 4, O0)] sz)
  unfold k_absL at hf
  refine Go.lloadN (pc2 := 1) d_k_absL_0 rfl rfl ?_
  refine Go.lconst (pc2 := 2) (i := 0) d_k_absL_1 rfl (by decide) ?_
  by_cases hc : v1 < 0
  · replace hf := ifp hc hf
    refine Go.lcmpF (pc3 := 3) (pc2 := 6) d_k_absL_2 d_k_absL_3 rfl (Int.not_le.mpr hc) rfl ?_
    refine Go.lloadN (pc2 := 7) d_k_absL_6 rfl rfl ?_
    refine Go.lneg (pc2 := 8) d_k_absL_7 rfl ?_
    refine Go.goto (pc2 := 12) d_k_absL_8 (by decide) (by decide) ?_
    cases hf
    exact Go.retj d_k_absL_12 rfl (Nat.le_of_ble_eq_true rfl) (Nat.le_of_ble_eq_true rfl) (fun _ H => ⟨rfl, H⟩)
  · replace hf := ifn hc hf
    refine Go.lcmpT (pc3 := 3) (pc2 := 11) d_k_absL_2 d_k_absL_3 rfl (Int.not_lt.mp hc) (by decide) (by decide) ?_
    refine Go.lloadN (pc2 := 12) d_k_absL_11 rfl rfl ?_
    cases hf
    exact Go.retj d_k_absL_12 rfl (Nat.le_of_ble_eq_true rfl) (Nat.le_of_ble_eq_true rfl) (fun _ H => ⟨rfl, H⟩)
set_option maxRecDepth 65536 in
set_option maxHeartbeats 4000000 in
theorem tb_k_gcd_17 {l : Launch} {Z : State} {a0 : Array Value} (hw : ∀ d ∈ tables_1, d.before a0 Z = true) {n0 : Nat} {P : Heap → Prop} {F : Nat} {b0 sz : Nat} {rr : Int} {O0 : Mo} {v5 v7 v9 : Int} {x : (Int × Int × Int) ⊕ (Int)} (hf : b_k_gcd_17 F v5 v7 v9 = some x) (K : Sum.elim (fun s => G_k_gcd l Z n0 P 17 [none, none, none, none, none, some (vJ s.1), none, some (vJ s.2.1), none, some (vI s.2.2), none, none] [] [(b0, 4, O0)] sz 0 0 (QM Z D n0 P (some (vJ rr)) [(b0, 4, O0)] sz)) (fun rz => G_k_gcd l Z n0 P 53 [none, none, none, none, none, some (vJ rz), none, none, none, none, none, none] [] [(b0, 4, O0)] sz 0 0 (QM Z D n0 P (some (vJ rr)) [(b0, 4, O0)] sz)) x) :
    G_k_gcd l Z n0 P 17 [none, none, none, none, none, some (vJ v5), none, some (vJ v7), none, some (vI v9), none, none] [] [(b0, 4, O0)] sz 0 0 (QM Z D n0 P (some (vJ rr)) [(b0, 4, O0)] sz) := by
  unfold b_k_gcd_17 at hf
  refine Go.iload (pc2 := 19) d_k_gcd_17 rfl rfl ?_
  refine Go.sipush (pc2 := 22) d_k_gcd_19 rfl (by decide) ?_
  by_cases hc : v9 < 200
  · replace hf := ifp hc hf
    refine Go.icmpF (pc2 := 25) d_k_gcd_22 (Int.not_le.mpr hc) rfl ?_
    refine Go.lload (pc2 := 27) d_k_gcd_25 rfl rfl ?_
    refine Go.lconst (pc2 := 28) (i := 0) d_k_gcd_27 rfl (by decide) ?_
    by_cases hc : v7 = 0
    · replace hf := ifp hc hf
      refine Go.lcmpT (pc3 := 29) (pc2 := 53) d_k_gcd_28 d_k_gcd_29 rfl hc (by decide) (by decide) ?_
      cases hf
      exact Go.mask [true, true, true, true, true, true, true, false, true, false, true, true] K
    · replace hf := ifn hc hf
      refine Go.lcmpF (pc3 := 29) (pc2 := 32) d_k_gcd_28 d_k_gcd_29 rfl hc rfl ?_
      refine Go.lload (pc2 := 34) d_k_gcd_32 rfl rfl ?_
      refine Go.lload (pc2 := 36) d_k_gcd_34 rfl rfl ?_
      have hb := okn hf
      replace hf := ifn hb hf
      refine Go.lrem (pc2 := 37) d_k_gcd_36 rfl hb ?_
      refine Go.lstore (pc2 := 39) (L2 := [none, none, none, none, none, some (vJ v5), none, some (vJ v7), none, some (vI v9), some (vJ (w64 (Int.tmod v5 v7))), none]) d_k_gcd_37 rfl (Nat.le_of_ble_eq_true rfl) rfl ?_
      refine Go.lload (pc2 := 41) d_k_gcd_39 rfl rfl ?_
      refine Go.lstore (pc2 := 43) (L2 := [none, none, none, none, none, some (vJ v7), none, some (vJ v7), none, some (vI v9), some (vJ (w64 (Int.tmod v5 v7))), none]) d_k_gcd_41 rfl (Nat.le_of_ble_eq_true rfl) rfl ?_
      refine Go.lload (pc2 := 45) d_k_gcd_43 rfl rfl ?_
      refine Go.lstore (pc2 := 47) (L2 := [none, none, none, none, none, some (vJ v7), none, some (vJ (w64 (Int.tmod v5 v7))), none, some (vI v9), some (vJ (w64 (Int.tmod v5 v7))), none]) d_k_gcd_45 rfl (Nat.le_of_ble_eq_true rfl) rfl ?_
      refine Go.iinc (pc2 := 50) (L2 := [none, none, none, none, none, some (vJ v7), none, some (vJ (w64 (Int.tmod v5 v7))), none, some (vI (w32 (v9 + 1))), some (vJ (w64 (Int.tmod v5 v7))), none]) d_k_gcd_47 rfl rfl rfl ?_
      refine Go.goto (pc2 := 17) d_k_gcd_50 (by decide) (by decide) ?_
      cases hf
      exact Go.mask [true, true, true, true, true, true, true, true, true, true, false, true] K
  · replace hf := ifn hc hf
    refine Go.icmpT (pc2 := 53) d_k_gcd_22 (Int.not_lt.mp hc) (by decide) (by decide) ?_
    cases hf
    exact Go.mask [true, true, true, true, true, true, true, false, true, false, true, true] K
set_option maxRecDepth 65536 in
set_option maxHeartbeats 4000000 in
theorem th_k_gcd {l : Launch} {Z : State} {a0 : Array Value} (hw : ∀ d ∈ tables_1, d.before a0 Z = true) {n0 : Nat} {P : Heap → Prop} {F : Nat} {b0 sz : Nat} {rr : Int} {O0 : Mo} {v1 v3 : Int} (hf : k_gcd F v1 v3 = some rr) :
    Meth l Z D n0 P (⟨"MinCircle", "gcd", "(JJ)J"⟩ : MethodName) prog_1_method_31_code 12 (some .long) R_k_gcd [vR b0, vJ v1, vJ v3] [(b0, 4, O0)] sz (QM Z D n0 P (some (vJ rr)) [(b0, 4, O0)] sz) := by
  refine Meth.of (plainFor_of_name pn_cls) (Nat.le_of_ble_eq_true rfl) ?_
  show G_k_gcd l Z n0 P 0 [some (vR b0), some (vJ v1), none, some (vJ v3), none, none, none, none, none, none, none, none] [] [(b0, 4, O0)] sz 0 0 (QM Z D n0 P (some (vJ rr)) [(b0, 4, O0)] sz)
  unfold k_gcd at hf
  refine Go.aloadN (pc2 := 1) d_k_gcd_0 rfl rfl ?_
  refine Go.lloadN (pc2 := 2) d_k_gcd_1 rfl rfl ?_
  refine Go.callp (pc2 := 5) (as := [vJ v1]) (S := []) (w := (some (vJ (k_absL v1)))) (os2 := [(b0, 4, O0)]) (sz2 := sz) (S2 := [vJ (k_absL v1)]) (rm := R_k_absL) d_k_gcd_2 rfl rfl (by exact w_112 hw) (by exact w_114 hw) (by exact w_113 hw) (by exact w_115 hw) rfl (by exact w_2 hw) (by exact w_1 hw) (q := 0) rfl (by decide) pd_k_absL (by decide) (Nat.le_of_ble_eq_true rfl) (by decide) (by decide) (nc := 0) (ns := 0) rfl rfl rfl (cu2 := 0) rfl (su2 := 0) rfl rfl (Pays.one (q := 0) rfl rfl (fun P2 hP2 => th_k_absL hw rfl)) rfl ?_
  refine Go.lstore (pc2 := 7) (L2 := [some (vR b0), some (vJ v1), none, some (vJ v3), none, some (vJ (k_absL v1)), none, none, none, none, none, none]) d_k_gcd_5 rfl (Nat.le_of_ble_eq_true rfl) rfl ?_
  refine Go.aloadN (pc2 := 8) d_k_gcd_7 rfl rfl ?_
  refine Go.lloadN (pc2 := 9) d_k_gcd_8 rfl rfl ?_
  refine Go.callp (pc2 := 12) (as := [vJ v3]) (S := []) (w := (some (vJ (k_absL v3)))) (os2 := [(b0, 4, O0)]) (sz2 := sz) (S2 := [vJ (k_absL v3)]) (rm := R_k_absL) d_k_gcd_9 rfl rfl (by exact w_112 hw) (by exact w_114 hw) (by exact w_113 hw) (by exact w_115 hw) rfl (by exact w_2 hw) (by exact w_1 hw) (q := 0) rfl (by decide) pd_k_absL (by decide) (Nat.le_of_ble_eq_true rfl) (by decide) (by decide) (nc := 0) (ns := 0) rfl rfl rfl (cu2 := 0) rfl (su2 := 0) rfl rfl (Pays.one (q := 0) rfl rfl (fun P2 hP2 => th_k_absL hw rfl)) rfl ?_
  refine Go.lstore (pc2 := 14) (L2 := [some (vR b0), some (vJ v1), none, some (vJ v3), none, some (vJ (k_absL v1)), none, some (vJ (k_absL v3)), none, none, none, none]) d_k_gcd_12 rfl (Nat.le_of_ble_eq_true rfl) rfl ?_
  refine Go.iconst (pc2 := 15) d_k_gcd_14 rfl (by decide) ?_
  refine Go.istore (pc2 := 17) (L2 := [some (vR b0), some (vJ v1), none, some (vJ v3), none, some (vJ (k_absL v1)), none, some (vJ (k_absL v3)), none, some (vI 0), none, none]) d_k_gcd_15 rfl (Nat.le_of_ble_eq_true rfl) rfl ?_
  refine Go.mask [false, false, true, false, true, true, true, true, true, true, true, true] ?_
  refine loop_go hf (Gs := fun s => G_k_gcd l Z n0 P 17 [none, none, none, none, none, some (vJ s.1), none, some (vJ s.2.1), none, some (vI s.2.2), none, none] [] [(b0, 4, O0)] sz 0 0 (QM Z D n0 P (some (vJ rr)) [(b0, 4, O0)] sz)) (Gr := (fun rz => G_k_gcd l Z n0 P 53 [none, none, none, none, none, some (vJ rz), none, none, none, none, none, none] [] [(b0, 4, O0)] sz 0 0 (QM Z D n0 P (some (vJ rr)) [(b0, 4, O0)] sz))) (fun s x hx K => tb_k_gcd_17 (F := F) (v5 := s.1) (v7 := s.2.1) (v9 := s.2.2) (x := x) hw hx K) ?_
  clear hf
  intro r hf
  refine Go.lload (pc2 := 55) d_k_gcd_53 rfl rfl ?_
  cases hf
  exact Go.retj d_k_gcd_55 rfl (Nat.le_of_ble_eq_true rfl) (Nat.le_of_ble_eq_true rfl) (fun _ H => ⟨rfl, H⟩)
set_option maxRecDepth 65536 in
set_option maxHeartbeats 4000000 in
theorem th_k_pwFinal {l : Launch} {Z : State} {a0 : Array Value} (hw : ∀ d ∈ tables_1, d.before a0 Z = true) {n0 : Nat} {P : Heap → Prop} {b0 sz : Nat} {rr : Int} {O0 : Mo} {v1 v2 : Int} (hf : k_pwFinal O0 v1 v2 = rr) :
    Meth l Z D n0 P (⟨"MinCircle", "pwFinal", "(II)J"⟩ : MethodName) prog_1_method_34_code 7 (some .long) R_k_pwFinal [vR b0, vI v1, vI v2] [(b0, 4, O0)] sz (QM Z D n0 P (some (vJ rr)) [(b0, 4, O0)] sz) := by
  refine Meth.of (plainFor_of_name pn_cls) (Nat.le_of_ble_eq_true rfl) ?_
  show G_k_pwFinal l Z n0 P 0 [some (vR b0), some (vI v1), some (vI v2), none, none, none, none] [] [(b0, 4, O0)] sz 0 0 (QM Z D n0 P (some (vJ rr)) [(b0, 4, O0)] sz)
  unfold k_pwFinal at hf
  refine Go.iloadN (pc2 := 1) d_k_pwFinal_0 rfl rfl ?_
  refine Go.i2l (pc2 := 2) d_k_pwFinal_1 rfl ?_
  refine Go.aloadN (pc2 := 3) d_k_pwFinal_2 rfl rfl ?_
  refine Go.getf (pc2 := 6) d_k_pwFinal_3 rfl rfl D_C (by exact w_116 hw) (q := 0) rfl (x := O0 0 6) (u := vJ (O0 0 6)) (fs_den) rfl rfl ?_
  refine Go.lmul (pc2 := 7) d_k_pwFinal_6 rfl ?_
  refine Go.aloadN (pc2 := 8) d_k_pwFinal_7 rfl rfl ?_
  refine Go.getf (pc2 := 11) d_k_pwFinal_8 rfl rfl D_C (by exact w_118 hw) (q := 0) rfl (x := O0 0 4) (u := vJ (O0 0 4)) (fs_cxNum) rfl rfl ?_
  refine Go.lsub (pc2 := 12) d_k_pwFinal_11 rfl ?_
  refine Go.lstoreN (pc2 := 13) (L2 := [some (vR b0), some (vI v1), some (vI v2), some (vJ (w64 ((w64 (v1 * (O0 0 6))) - (O0 0 4)))), none, none, none]) d_k_pwFinal_12 rfl (Nat.le_of_ble_eq_true rfl) rfl ?_
  refine lt_in hf (G := fun v3 => G_k_pwFinal l Z n0 P 13 [some (vR b0), some (vI v1), some (vI v2), some (vJ v3), none, none, none] [] [(b0, 4, O0)] sz 0 0 (QM Z D n0 P (some (vJ rr)) [(b0, 4, O0)] sz)) ?_
  clear hf
  intro v3 hf
  refine Go.iloadN (pc2 := 14) d_k_pwFinal_13 rfl rfl ?_
  refine Go.i2l (pc2 := 15) d_k_pwFinal_14 rfl ?_
  refine Go.aloadN (pc2 := 16) d_k_pwFinal_15 rfl rfl ?_
  refine Go.getf (pc2 := 19) d_k_pwFinal_16 rfl rfl D_C (by exact w_116 hw) (q := 0) rfl (x := O0 0 6) (u := vJ (O0 0 6)) (fs_den) rfl rfl ?_
  refine Go.lmul (pc2 := 20) d_k_pwFinal_19 rfl ?_
  refine Go.aloadN (pc2 := 21) d_k_pwFinal_20 rfl rfl ?_
  refine Go.getf (pc2 := 24) d_k_pwFinal_21 rfl rfl D_C (by exact w_120 hw) (q := 0) rfl (x := O0 0 5) (u := vJ (O0 0 5)) (fs_cyNum) rfl rfl ?_
  refine Go.lsub (pc2 := 25) d_k_pwFinal_24 rfl ?_
  refine Go.lstore (pc2 := 27) (L2 := [some (vR b0), some (vI v1), some (vI v2), some (vJ v3), none, some (vJ (w64 ((w64 (v2 * (O0 0 6))) - (O0 0 5)))), none]) d_k_pwFinal_25 rfl (Nat.le_of_ble_eq_true rfl) rfl ?_
  refine lt_in hf (G := fun v5 => G_k_pwFinal l Z n0 P 27 [some (vR b0), some (vI v1), some (vI v2), some (vJ v3), none, some (vJ v5), none] [] [(b0, 4, O0)] sz 0 0 (QM Z D n0 P (some (vJ rr)) [(b0, 4, O0)] sz)) ?_
  clear hf
  intro v5 hf
  refine Go.lloadN (pc2 := 28) d_k_pwFinal_27 rfl rfl ?_
  refine Go.lloadN (pc2 := 29) d_k_pwFinal_28 rfl rfl ?_
  refine Go.lmul (pc2 := 30) d_k_pwFinal_29 rfl ?_
  refine Go.lload (pc2 := 32) d_k_pwFinal_30 rfl rfl ?_
  refine Go.lload (pc2 := 34) d_k_pwFinal_32 rfl rfl ?_
  refine Go.lmul (pc2 := 35) d_k_pwFinal_34 rfl ?_
  refine Go.ladd (pc2 := 36) d_k_pwFinal_35 rfl ?_
  cases hf
  exact Go.retj d_k_pwFinal_36 rfl (Nat.le_of_ble_eq_true rfl) (Nat.le_of_ble_eq_true rfl) (fun _ H => ⟨rfl, H⟩)
set_option maxRecDepth 65536 in
set_option maxHeartbeats 4000000 in
theorem tb_k_recordRadius_4 {l : Launch} {Z : State} {a0 : Array Value} (hw : ∀ d ∈ tables_1, d.before a0 Z = true) {n0 : Nat} {P : Heap → Prop} {F : Nat} {b0 sz : Nat} {Oz0 : Mo} {C4_0 : Mo} {v1 v3 : Int} {x : (Int × Int) ⊕ (Int)} (hf : b_k_recordRadius_4 F C4_0 v1 v3 = some x) (K : Sum.elim (fun s => G_k_recordRadius l Z n0 P 4 [some (vR b0), some (vJ s.1), none, some (vI s.2), none, none] [] [(b0, 4, C4_0)] sz 0 0 (QM Z D n0 P none [(b0, 4, Oz0)] sz)) (fun rz => G_k_recordRadius l Z n0 P 46 [some (vR b0), some (vJ rz), none, none, none, none] [] [(b0, 4, C4_0)] sz 0 0 (QM Z D n0 P none [(b0, 4, Oz0)] sz)) x) :
    G_k_recordRadius l Z n0 P 4 [some (vR b0), some (vJ v1), none, some (vI v3), none, none] [] [(b0, 4, C4_0)] sz 0 0 (QM Z D n0 P none [(b0, 4, Oz0)] sz) := by
  unfold b_k_recordRadius_4 at hf
  refine Go.iloadN (pc2 := 5) d_k_recordRadius_4 rfl rfl ?_
  refine Go.aloadN (pc2 := 6) d_k_recordRadius_5 rfl rfl ?_
  refine Go.getf (pc2 := 9) d_k_recordRadius_6 rfl rfl D_C (by exact w_31 hw) (q := 0) rfl (x := C4_0 0 2) (u := vI (C4_0 0 2)) (fs_n) rfl rfl ?_
  by_cases hc : v3 < C4_0 0 2
  · replace hf := ifp hc hf
    refine Go.icmpF (pc2 := 12) d_k_recordRadius_9 (Int.not_le.mpr hc) rfl ?_
    refine Go.aloadN (pc2 := 13) d_k_recordRadius_12 rfl rfl ?_
    refine Go.aloadN (pc2 := 14) d_k_recordRadius_13 rfl rfl ?_
    refine Go.geta (pc2 := 17) d_k_recordRadius_14 rfl rfl D_C (by exact w_17 hw) (q := 0) rfl (j := 0) rfl (Nat.le_of_ble_eq_true rfl) rfl ?_
    refine Go.iloadN (pc2 := 18) d_k_recordRadius_17 rfl rfl ?_
    have hb := okb hf
    replace hf := ifp hb hf
    refine Go.iald (pc2 := 19) d_k_recordRadius_18 rfl (q := 0) rfl (j := 0) rfl (Nat.le_of_ble_eq_true rfl) rfl hb (z := C4_0 1 v3.toNat) rfl ?_
    refine Go.aloadN (pc2 := 20) d_k_recordRadius_19 rfl rfl ?_
    refine Go.geta (pc2 := 23) d_k_recordRadius_20 rfl rfl D_C (by exact w_19 hw) (q := 0) rfl (j := 1) rfl (Nat.le_of_ble_eq_true rfl) rfl ?_
    refine Go.iloadN (pc2 := 24) d_k_recordRadius_23 rfl rfl ?_
    have hb := okb hf
    replace hf := ifp hb hf
    refine Go.iald (pc2 := 25) d_k_recordRadius_24 rfl (q := 0) rfl (j := 1) rfl (Nat.le_of_ble_eq_true rfl) rfl hb (z := C4_0 2 v3.toNat) rfl ?_
    refine Go.callp (pc2 := 28) (as := [vI (C4_0 1 v3.toNat), vI (C4_0 2 v3.toNat)]) (S := []) (w := (some (vJ (k_pwFinal C4_0 (C4_0 1 v3.toNat) (C4_0 2 v3.toNat))))) (os2 := [(b0, 4, C4_0)]) (sz2 := sz) (S2 := [vJ (k_pwFinal C4_0 (C4_0 1 v3.toNat) (C4_0 2 v3.toNat))]) (rm := R_k_pwFinal) d_k_recordRadius_25 rfl rfl (by exact w_126 hw) (by exact w_128 hw) (by exact w_127 hw) (by exact w_129 hw) rfl (by exact w_2 hw) (by exact w_1 hw) (q := 0) rfl (by decide) pd_k_pwFinal (by decide) (Nat.le_of_ble_eq_true rfl) (by decide) (by decide) (nc := 0) (ns := 0) rfl rfl rfl (cu2 := 0) rfl (su2 := 0) rfl rfl (Pays.one (q := 0) rfl rfl (fun P2 hP2 => th_k_pwFinal hw rfl)) rfl ?_
    refine Go.lstore (pc2 := 30) (L2 := [some (vR b0), some (vJ v1), none, some (vI v3), some (vJ (k_pwFinal C4_0 (C4_0 1 v3.toNat) (C4_0 2 v3.toNat))), none]) d_k_recordRadius_28 rfl (Nat.le_of_ble_eq_true rfl) rfl ?_
    refine lt_in hf (G := fun v4 => G_k_recordRadius l Z n0 P 30 [some (vR b0), some (vJ v1), none, some (vI v3), some (vJ v4), none] [] [(b0, 4, C4_0)] sz 0 0 (QM Z D n0 P none [(b0, 4, Oz0)] sz)) ?_
    clear hf
    intro v4 hf
    refine Go.lload (pc2 := 32) d_k_recordRadius_30 rfl rfl ?_
    refine Go.lloadN (pc2 := 33) d_k_recordRadius_32 rfl rfl ?_
    by_cases hc : v4 ≤ v1
    · replace hf := ifp hc hf
      refine Go.lcmpT (pc3 := 34) (pc2 := 40) d_k_recordRadius_33 d_k_recordRadius_34 rfl hc (by decide) (by decide) ?_
      refine Go.iinc (pc2 := 43) (L2 := [some (vR b0), some (vJ v1), none, some (vI (w32 (v3 + 1))), some (vJ v4), none]) d_k_recordRadius_40 rfl rfl rfl ?_
      refine Go.goto (pc2 := 4) d_k_recordRadius_43 (by decide) (by decide) ?_
      cases hf
      exact Go.mask [true, true, true, true, false, true] K
    · replace hf := ifn hc hf
      refine Go.lcmpF (pc3 := 34) (pc2 := 37) d_k_recordRadius_33 d_k_recordRadius_34 rfl hc rfl ?_
      refine Go.lload (pc2 := 39) d_k_recordRadius_37 rfl rfl ?_
      refine Go.lstoreN (pc2 := 40) (L2 := [some (vR b0), some (vJ v4), none, some (vI v3), some (vJ v4), none]) d_k_recordRadius_39 rfl (Nat.le_of_ble_eq_true rfl) rfl ?_
      refine Go.iinc (pc2 := 43) (L2 := [some (vR b0), some (vJ v4), none, some (vI (w32 (v3 + 1))), some (vJ v4), none]) d_k_recordRadius_40 rfl rfl rfl ?_
      refine Go.goto (pc2 := 4) d_k_recordRadius_43 (by decide) (by decide) ?_
      cases hf
      exact Go.mask [true, true, true, true, false, true] K
  · replace hf := ifn hc hf
    refine Go.icmpT (pc2 := 46) d_k_recordRadius_9 (Int.not_lt.mp hc) (by decide) (by decide) ?_
    cases hf
    exact Go.mask [true, true, true, false, true, true] K
set_option maxRecDepth 65536 in
set_option maxHeartbeats 4000000 in
theorem ti_k_recordRadius_93 {l : Launch} {Z : State} {a0 : Array Value} (hw : ∀ d ∈ tables_1, d.before a0 Z = true) {n0 : Nat} {P : Heap → Prop} {F : Nat} {b0 sz : Nat} {Oz0 : Mo} {c56_1 : Int} {O0 : Mo} {v3 v4 s0 : Int} {x : (Int × Int × Mo) ⊕ ((Int × Mo))} (hf : i_k_recordRadius_93 F O0 c56_1 v3 v4 s0 = some x) (K : Sum.elim (fun s => G_k_recordRadius l Z n0 P 56 [some (vR b0), some (vJ c56_1), none, some (vI s.1), some (vI s.2.1), none] [] [(b0, 4, s.2.2)] sz 0 0 (QM Z D n0 P none [(b0, 4, Oz0)] sz)) (fun rz => G_k_recordRadius l Z n0 P 118 [some (vR b0), none, none, some (vI rz.1), none, none] [] [(b0, 4, rz.2)] sz 0 0 (QM Z D n0 P none [(b0, 4, Oz0)] sz)) x) :
    G_k_recordRadius l Z n0 P 93 [some (vR b0), some (vJ c56_1), none, some (vI v3), some (vI v4), none] [vI s0] [(b0, 4, O0)] sz 0 0 (QM Z D n0 P none [(b0, 4, Oz0)] sz) := by
  unfold i_k_recordRadius_93 at hf
  refine Go.istore (pc2 := 95) (L2 := [some (vR b0), some (vJ c56_1), none, some (vI v3), some (vI v4), some (vI s0)]) d_k_recordRadius_93 rfl (Nat.le_of_ble_eq_true rfl) rfl ?_
  refine Go.aloadN (pc2 := 96) d_k_recordRadius_95 rfl rfl ?_
  refine Go.geta (pc2 := 99) d_k_recordRadius_96 rfl rfl D_C (by exact w_24 hw) (q := 0) rfl (j := 3) rfl (Nat.le_of_ble_eq_true rfl) rfl ?_
  refine Go.iload (pc2 := 101) d_k_recordRadius_99 rfl rfl ?_
  refine Go.iload (pc2 := 103) d_k_recordRadius_101 rfl rfl ?_
  have hb := okb hf
  replace hf := ifp hb hf
  refine Go.zast (pc2 := 104) d_k_recordRadius_103 rfl (q := 0) rfl (j := 3) rfl (Nat.le_of_ble_eq_true rfl) rfl hb (z := s0) (z' := s0 % 2) rfl (os2 := [(b0, 4, (upd O0 4 (v4.toNat) (s0 % 2)))]) rfl ?_
  refine Go.iload (pc2 := 106) d_k_recordRadius_104 rfl rfl ?_
  by_cases hc : s0 = 0
  · replace hf := ifp hc hf
    refine Go.ifT (pc2 := 112) d_k_recordRadius_106 hc (by decide) (by decide) ?_
    refine Go.iinc (pc2 := 115) (L2 := [some (vR b0), some (vJ c56_1), none, some (vI v3), some (vI (w32 (v4 + 1))), some (vI s0)]) d_k_recordRadius_112 rfl rfl rfl ?_
    refine Go.goto (pc2 := 56) d_k_recordRadius_115 (by decide) (by decide) ?_
    cases hf
    exact Go.mask [true, true, true, true, true, false] K
  · replace hf := ifn hc hf
    refine Go.ifF (pc2 := 109) d_k_recordRadius_106 hc rfl ?_
    refine Go.iinc (pc2 := 112) (L2 := [some (vR b0), some (vJ c56_1), none, some (vI (w32 (v3 + 1))), some (vI v4), some (vI s0)]) d_k_recordRadius_109 rfl rfl rfl ?_
    refine Go.iinc (pc2 := 115) (L2 := [some (vR b0), some (vJ c56_1), none, some (vI (w32 (v3 + 1))), some (vI (w32 (v4 + 1))), some (vI s0)]) d_k_recordRadius_112 rfl rfl rfl ?_
    refine Go.goto (pc2 := 56) d_k_recordRadius_115 (by decide) (by decide) ?_
    cases hf
    exact Go.mask [true, true, true, true, true, false] K
set_option maxRecDepth 65536 in
set_option maxHeartbeats 4000000 in
theorem tb_k_recordRadius_56 {l : Launch} {Z : State} {a0 : Array Value} (hw : ∀ d ∈ tables_1, d.before a0 Z = true) {n0 : Nat} {P : Heap → Prop} {F : Nat} {b0 sz : Nat} {Oz0 : Mo} {c56_1 : Int} {v3 v4 : Int} {O0 : Mo} {x : (Int × Int × Mo) ⊕ ((Int × Mo))} (hf : b_k_recordRadius_56 F c56_1 v3 v4 O0 = some x) (K : Sum.elim (fun s => G_k_recordRadius l Z n0 P 56 [some (vR b0), some (vJ c56_1), none, some (vI s.1), some (vI s.2.1), none] [] [(b0, 4, s.2.2)] sz 0 0 (QM Z D n0 P none [(b0, 4, Oz0)] sz)) (fun rz => G_k_recordRadius l Z n0 P 118 [some (vR b0), none, none, some (vI rz.1), none, none] [] [(b0, 4, rz.2)] sz 0 0 (QM Z D n0 P none [(b0, 4, Oz0)] sz)) x) :
    G_k_recordRadius l Z n0 P 56 [some (vR b0), some (vJ c56_1), none, some (vI v3), some (vI v4), none] [] [(b0, 4, O0)] sz 0 0 (QM Z D n0 P none [(b0, 4, Oz0)] sz) := by
  unfold b_k_recordRadius_56 at hf
  refine Go.iload (pc2 := 58) d_k_recordRadius_56 rfl rfl ?_
  refine Go.aloadN (pc2 := 59) d_k_recordRadius_58 rfl rfl ?_
  refine Go.getf (pc2 := 62) d_k_recordRadius_59 rfl rfl D_C (by exact w_31 hw) (q := 0) rfl (x := O0 0 2) (u := vI (O0 0 2)) (fs_n) rfl rfl ?_
  by_cases hc : v4 < O0 0 2
  · replace hf := ifp hc hf
    refine Go.icmpF (pc2 := 65) d_k_recordRadius_62 (Int.not_le.mpr hc) rfl ?_
    refine Go.aloadN (pc2 := 66) d_k_recordRadius_65 rfl rfl ?_
    refine Go.aloadN (pc2 := 67) d_k_recordRadius_66 rfl rfl ?_
    refine Go.geta (pc2 := 70) d_k_recordRadius_67 rfl rfl D_C (by exact w_17 hw) (q := 0) rfl (j := 0) rfl (Nat.le_of_ble_eq_true rfl) rfl ?_
    refine Go.iload (pc2 := 72) d_k_recordRadius_70 rfl rfl ?_
    have hb := okb hf
    replace hf := ifp hb hf
    refine Go.iald (pc2 := 73) d_k_recordRadius_72 rfl (q := 0) rfl (j := 0) rfl (Nat.le_of_ble_eq_true rfl) rfl hb (z := O0 1 v4.toNat) rfl ?_
    refine Go.aloadN (pc2 := 74) d_k_recordRadius_73 rfl rfl ?_
    refine Go.geta (pc2 := 77) d_k_recordRadius_74 rfl rfl D_C (by exact w_19 hw) (q := 0) rfl (j := 1) rfl (Nat.le_of_ble_eq_true rfl) rfl ?_
    refine Go.iload (pc2 := 79) d_k_recordRadius_77 rfl rfl ?_
    have hb := okb hf
    replace hf := ifp hb hf
    refine Go.iald (pc2 := 80) d_k_recordRadius_79 rfl (q := 0) rfl (j := 1) rfl (Nat.le_of_ble_eq_true rfl) rfl hb (z := O0 2 v4.toNat) rfl ?_
    refine Go.callp (pc2 := 83) (as := [vI (O0 1 v4.toNat), vI (O0 2 v4.toNat)]) (S := []) (w := (some (vJ (k_pwFinal O0 (O0 1 v4.toNat) (O0 2 v4.toNat))))) (os2 := [(b0, 4, O0)]) (sz2 := sz) (S2 := [vJ (k_pwFinal O0 (O0 1 v4.toNat) (O0 2 v4.toNat))]) (rm := R_k_pwFinal) d_k_recordRadius_80 rfl rfl (by exact w_126 hw) (by exact w_128 hw) (by exact w_127 hw) (by exact w_129 hw) rfl (by exact w_2 hw) (by exact w_1 hw) (q := 0) rfl (by decide) pd_k_pwFinal (by decide) (Nat.le_of_ble_eq_true rfl) (by decide) (by decide) (nc := 0) (ns := 0) rfl rfl rfl (cu2 := 0) rfl (su2 := 0) rfl rfl (Pays.one (q := 0) rfl rfl (fun P2 hP2 => th_k_pwFinal hw rfl)) rfl ?_
    refine Go.lloadN (pc2 := 84) d_k_recordRadius_83 rfl rfl ?_
    by_cases hc : k_pwFinal O0 (O0 1 v4.toNat) (O0 2 v4.toNat) = c56_1
    · replace hf := ifp hc hf
      refine Go.lcmpF (pc3 := 85) (pc2 := 88) d_k_recordRadius_84 d_k_recordRadius_85 rfl (fun q => q hc) rfl ?_
      refine Go.iconst (pc2 := 89) d_k_recordRadius_88 rfl (by decide) ?_
      refine Go.goto (pc2 := 93) d_k_recordRadius_89 (by decide) (by decide) ?_
      exact ti_k_recordRadius_93 hw hf K
    · replace hf := ifn hc hf
      refine Go.lcmpT (pc3 := 85) (pc2 := 92) d_k_recordRadius_84 d_k_recordRadius_85 rfl hc (by decide) (by decide) ?_
      refine Go.iconst (pc2 := 93) d_k_recordRadius_92 rfl (by decide) ?_
      exact ti_k_recordRadius_93 hw hf K
  · replace hf := ifn hc hf
    refine Go.icmpT (pc2 := 118) d_k_recordRadius_62 (Int.not_lt.mp hc) (by decide) (by decide) ?_
    cases hf
    exact Go.mask [true, false, true, true, false, true] K
set_option maxRecDepth 65536 in
set_option maxHeartbeats 4000000 in
theorem th_k_recordRadius {l : Launch} {Z : State} {a0 : Array Value} (hw : ∀ d ∈ tables_1, d.before a0 Z = true) {n0 : Nat} {P : Heap → Prop} {F : Nat} {b0 sz : Nat} {Oz0 : Mo} {O0 : Mo} (hf : k_recordRadius F O0 = some Oz0) :
    Meth l Z D n0 P (⟨"MinCircle", "recordRadius", "()V"⟩ : MethodName) prog_1_method_33_code 6 none R_k_recordRadius [vR b0] [(b0, 4, O0)] sz (QM Z D n0 P none [(b0, 4, Oz0)] sz) := by
  refine Meth.of (plainFor_of_name pn_cls) (Nat.le_of_ble_eq_true rfl) ?_
  show G_k_recordRadius l Z n0 P 0 [some (vR b0), none, none, none, none, none] [] [(b0, 4, O0)] sz 0 0 (QM Z D n0 P none [(b0, 4, Oz0)] sz)
  unfold k_recordRadius at hf
  refine Go.lconst (pc2 := 1) (i := 0) d_k_recordRadius_0 rfl (by decide) ?_
  refine Go.lstoreN (pc2 := 2) (L2 := [some (vR b0), some (vJ 0), none, none, none, none]) d_k_recordRadius_1 rfl (Nat.le_of_ble_eq_true rfl) rfl ?_
  refine Go.iconst (pc2 := 3) d_k_recordRadius_2 rfl (by decide) ?_
  refine Go.istoreN (pc2 := 4) (L2 := [some (vR b0), some (vJ 0), none, some (vI 0), none, none]) d_k_recordRadius_3 rfl (Nat.le_of_ble_eq_true rfl) rfl ?_
  refine loop_go hf (Gs := fun s => G_k_recordRadius l Z n0 P 4 [some (vR b0), some (vJ s.1), none, some (vI s.2), none, none] [] [(b0, 4, O0)] sz 0 0 (QM Z D n0 P none [(b0, 4, Oz0)] sz)) (Gr := (fun rz => G_k_recordRadius l Z n0 P 46 [some (vR b0), some (vJ rz), none, none, none, none] [] [(b0, 4, O0)] sz 0 0 (QM Z D n0 P none [(b0, 4, Oz0)] sz))) (fun s x hx K => tb_k_recordRadius_4 (F := F) (C4_0 := O0) (v1 := s.1) (v3 := s.2) (x := x) hw hx K) ?_
  clear hf
  intro r hf
  refine Go.aloadN (pc2 := 47) d_k_recordRadius_46 rfl rfl ?_
  refine Go.lloadN (pc2 := 48) d_k_recordRadius_47 rfl rfl ?_
  refine Go.putf (pc2 := 51) (cw_ok hw) d_k_recordRadius_48 rfl rfl D_C (by exact w_130 hw) (by exact Or.inl (w_131 hw)) (by exact w_1 hw) (q := 0) rfl (x := r) (x' := r) (fs_rNum) rfl rfl (os2 := [(b0, 4, (upd O0 0 7 r))]) rfl ?_
  refine Go.iconst (pc2 := 52) d_k_recordRadius_51 rfl (by decide) ?_
  refine Go.istoreN (pc2 := 53) (L2 := [some (vR b0), some (vJ r), none, some (vI 0), none, none]) d_k_recordRadius_52 rfl (Nat.le_of_ble_eq_true rfl) rfl ?_
  refine Go.iconst (pc2 := 54) d_k_recordRadius_53 rfl (by decide) ?_
  refine Go.istore (pc2 := 56) (L2 := [some (vR b0), some (vJ r), none, some (vI 0), some (vI 0), none]) d_k_recordRadius_54 rfl (Nat.le_of_ble_eq_true rfl) rfl ?_
  refine loop_go hf (Gs := fun s => G_k_recordRadius l Z n0 P 56 [some (vR b0), some (vJ r), none, some (vI s.1), some (vI s.2.1), none] [] [(b0, 4, s.2.2)] sz 0 0 (QM Z D n0 P none [(b0, 4, Oz0)] sz)) (Gr := (fun rz => G_k_recordRadius l Z n0 P 118 [some (vR b0), none, none, some (vI rz.1), none, none] [] [(b0, 4, rz.2)] sz 0 0 (QM Z D n0 P none [(b0, 4, Oz0)] sz))) (fun s x hx K => tb_k_recordRadius_56 (F := F) (c56_1 := r) (v3 := s.1) (v4 := s.2.1) (O0 := s.2.2) (x := x) hw hx K) ?_
  clear hf
  intro r_1 hf
  refine Go.aloadN (pc2 := 119) d_k_recordRadius_118 rfl rfl ?_
  refine Go.iloadN (pc2 := 120) d_k_recordRadius_119 rfl rfl ?_
  refine Go.putf (pc2 := 123) (cw_ok hw) d_k_recordRadius_120 rfl rfl D_C (by exact w_132 hw) (by exact Or.inl (w_133 hw)) (by exact w_1 hw) (q := 0) rfl (x := r_1.1) (x' := r_1.1) (fs_bCount) rfl rfl (os2 := [(b0, 4, (upd r_1.2 0 9 r_1.1))]) rfl ?_
  cases hf
  exact Go.retv d_k_recordRadius_123 rfl (Nat.le_of_ble_eq_true rfl) (Nat.le_of_ble_eq_true rfl) (fun _ H => ⟨rfl, H⟩)
set_option maxRecDepth 65536 in
set_option maxHeartbeats 4000000 in
theorem tb_k_computeKind_47 {l : Launch} {Z : State} {a0 : Array Value} (hw : ∀ d ∈ tables_1, d.before a0 Z = true) {n0 : Nat} {P : Heap → Prop} {F : Nat} {b0 sz : Nat} {rr : Int} {c47_1 c47_3 c47_5 : Int} {O0 : Mo} {v6 : Int} {x : Int ⊕ (Unit ⊕ Int)} (hf : b_k_computeKind_47 F O0 c47_1 c47_3 c47_5 v6 = some x) (K : Sum.elim (fun s => G_k_computeKind l Z n0 P 47 [some (vR b0), some (vJ c47_1), none, some (vJ c47_3), none, some (vI c47_5), some (vI s), none, none, none, none] [] [(b0, 4, O0)] sz 0 0 (QM Z D n0 P (some (vI rr)) [(b0, 4, O0)] sz)) (Sum.elim (fun rz => G_k_computeKind l Z n0 P 126 [some (vR b0), some (vJ c47_1), none, some (vJ c47_3), none, some (vI c47_5), none, none, none, none, none] [] [(b0, 4, O0)] sz 0 0 (QM Z D n0 P (some (vI rr)) [(b0, 4, O0)] sz)) (fun rz => rz = rr)) x) :
    G_k_computeKind l Z n0 P 47 [some (vR b0), some (vJ c47_1), none, some (vJ c47_3), none, some (vI c47_5), some (vI v6), none, none, none, none] [] [(b0, 4, O0)] sz 0 0 (QM Z D n0 P (some (vI rr)) [(b0, 4, O0)] sz) := by
  unfold b_k_computeKind_47 at hf
  refine Go.iload (pc2 := 49) d_k_computeKind_47 rfl rfl ?_
  refine Go.aloadN (pc2 := 50) d_k_computeKind_49 rfl rfl ?_
  refine Go.getf (pc2 := 53) d_k_computeKind_50 rfl rfl D_C (by exact w_31 hw) (q := 0) rfl (x := O0 0 2) (u := vI (O0 0 2)) (fs_n) rfl rfl ?_
  by_cases hc : v6 < O0 0 2
  · replace hf := ifp hc hf
    refine Go.icmpF (pc2 := 56) d_k_computeKind_53 (Int.not_le.mpr hc) rfl ?_
    refine Go.aloadN (pc2 := 57) d_k_computeKind_56 rfl rfl ?_
    refine Go.geta (pc2 := 60) d_k_computeKind_57 rfl rfl D_C (by exact w_17 hw) (q := 0) rfl (j := 0) rfl (Nat.le_of_ble_eq_true rfl) rfl ?_
    refine Go.iload (pc2 := 62) d_k_computeKind_60 rfl rfl ?_
    have hb := okb hf
    replace hf := ifp hb hf
    refine Go.iald (pc2 := 63) d_k_computeKind_62 rfl (q := 0) rfl (j := 0) rfl (Nat.le_of_ble_eq_true rfl) rfl hb (z := O0 1 c47_5.toNat) rfl ?_
    refine Go.i2l (pc2 := 64) d_k_computeKind_63 rfl ?_
    refine Go.aloadN (pc2 := 65) d_k_computeKind_64 rfl rfl ?_
    refine Go.geta (pc2 := 68) d_k_computeKind_65 rfl rfl D_C (by exact w_17 hw) (q := 0) rfl (j := 0) rfl (Nat.le_of_ble_eq_true rfl) rfl ?_
    refine Go.iload (pc2 := 70) d_k_computeKind_68 rfl rfl ?_
    have hb := okb hf
    replace hf := ifp hb hf
    refine Go.iald (pc2 := 71) d_k_computeKind_70 rfl (q := 0) rfl (j := 0) rfl (Nat.le_of_ble_eq_true rfl) rfl hb (z := O0 1 v6.toNat) rfl ?_
    refine Go.i2l (pc2 := 72) d_k_computeKind_71 rfl ?_
    refine Go.ladd (pc2 := 73) d_k_computeKind_72 rfl ?_
    refine Go.aloadN (pc2 := 74) d_k_computeKind_73 rfl rfl ?_
    refine Go.getf (pc2 := 77) d_k_computeKind_74 rfl rfl D_C (by exact w_116 hw) (q := 0) rfl (x := O0 0 6) (u := vJ (O0 0 6)) (fs_den) rfl rfl ?_
    refine Go.lmul (pc2 := 78) d_k_computeKind_77 rfl ?_
    refine Go.lstore (pc2 := 80) (L2 := [some (vR b0), some (vJ c47_1), none, some (vJ c47_3), none, some (vI c47_5), some (vI v6), some (vJ (w64 ((w64 ((O0 1 c47_5.toNat) + (O0 1 v6.toNat))) * (O0 0 6)))), none, none, none]) d_k_computeKind_78 rfl (Nat.le_of_ble_eq_true rfl) rfl ?_
    refine lt_in hf (G := fun v7 => G_k_computeKind l Z n0 P 80 [some (vR b0), some (vJ c47_1), none, some (vJ c47_3), none, some (vI c47_5), some (vI v6), some (vJ v7), none, none, none] [] [(b0, 4, O0)] sz 0 0 (QM Z D n0 P (some (vI rr)) [(b0, 4, O0)] sz)) ?_
    clear hf
    intro v7 hf
    refine Go.aloadN (pc2 := 81) d_k_computeKind_80 rfl rfl ?_
    refine Go.geta (pc2 := 84) d_k_computeKind_81 rfl rfl D_C (by exact w_19 hw) (q := 0) rfl (j := 1) rfl (Nat.le_of_ble_eq_true rfl) rfl ?_
    refine Go.iload (pc2 := 86) d_k_computeKind_84 rfl rfl ?_
    have hb := okb hf
    replace hf := ifp hb hf
    refine Go.iald (pc2 := 87) d_k_computeKind_86 rfl (q := 0) rfl (j := 1) rfl (Nat.le_of_ble_eq_true rfl) rfl hb (z := O0 2 c47_5.toNat) rfl ?_
    refine Go.i2l (pc2 := 88) d_k_computeKind_87 rfl ?_
    refine Go.aloadN (pc2 := 89) d_k_computeKind_88 rfl rfl ?_
    refine Go.geta (pc2 := 92) d_k_computeKind_89 rfl rfl D_C (by exact w_19 hw) (q := 0) rfl (j := 1) rfl (Nat.le_of_ble_eq_true rfl) rfl ?_
    refine Go.iload (pc2 := 94) d_k_computeKind_92 rfl rfl ?_
    have hb := okb hf
    replace hf := ifp hb hf
    refine Go.iald (pc2 := 95) d_k_computeKind_94 rfl (q := 0) rfl (j := 1) rfl (Nat.le_of_ble_eq_true rfl) rfl hb (z := O0 2 v6.toNat) rfl ?_
    refine Go.i2l (pc2 := 96) d_k_computeKind_95 rfl ?_
    refine Go.ladd (pc2 := 97) d_k_computeKind_96 rfl ?_
    refine Go.aloadN (pc2 := 98) d_k_computeKind_97 rfl rfl ?_
    refine Go.getf (pc2 := 101) d_k_computeKind_98 rfl rfl D_C (by exact w_116 hw) (q := 0) rfl (x := O0 0 6) (u := vJ (O0 0 6)) (fs_den) rfl rfl ?_
    refine Go.lmul (pc2 := 102) d_k_computeKind_101 rfl ?_
    refine Go.lstore (pc2 := 104) (L2 := [some (vR b0), some (vJ c47_1), none, some (vJ c47_3), none, some (vI c47_5), some (vI v6), some (vJ v7), none, some (vJ (w64 ((w64 ((O0 2 c47_5.toNat) + (O0 2 v6.toNat))) * (O0 0 6)))), none]) d_k_computeKind_102 rfl (Nat.le_of_ble_eq_true rfl) rfl ?_
    refine lt_in hf (G := fun v9 => G_k_computeKind l Z n0 P 104 [some (vR b0), some (vJ c47_1), none, some (vJ c47_3), none, some (vI c47_5), some (vI v6), some (vJ v7), none, some (vJ v9), none] [] [(b0, 4, O0)] sz 0 0 (QM Z D n0 P (some (vI rr)) [(b0, 4, O0)] sz)) ?_
    clear hf
    intro v9 hf
    refine Go.lload (pc2 := 106) d_k_computeKind_104 rfl rfl ?_
    refine Go.lloadN (pc2 := 107) d_k_computeKind_106 rfl rfl ?_
    by_cases hc : v7 = c47_1
    · replace hf := ifp hc hf
      refine Go.lcmpF (pc3 := 108) (pc2 := 111) d_k_computeKind_107 d_k_computeKind_108 rfl (fun q => q hc) rfl ?_
      refine Go.lload (pc2 := 113) d_k_computeKind_111 rfl rfl ?_
      refine Go.lloadN (pc2 := 114) d_k_computeKind_113 rfl rfl ?_
      by_cases hc : v9 = c47_3
      · replace hf := ifp hc hf
        refine Go.lcmpF (pc3 := 115) (pc2 := 118) d_k_computeKind_114 d_k_computeKind_115 rfl (fun q => q hc) rfl ?_
        refine Go.iconst (pc2 := 119) d_k_computeKind_118 rfl (by decide) ?_
        cases hf
        replace K : 2 = rr := K
        cases K
        exact Go.reti d_k_computeKind_119 rfl (Nat.le_of_ble_eq_true rfl) (Nat.le_of_ble_eq_true rfl) (fun _ H => ⟨rfl, H⟩)
      · replace hf := ifn hc hf
        refine Go.lcmpT (pc3 := 115) (pc2 := 120) d_k_computeKind_114 d_k_computeKind_115 rfl hc (by decide) (by decide) ?_
        refine Go.iinc (pc2 := 123) (L2 := [some (vR b0), some (vJ c47_1), none, some (vJ c47_3), none, some (vI c47_5), some (vI (w32 (v6 + 1))), some (vJ v7), none, some (vJ v9), none]) d_k_computeKind_120 rfl rfl rfl ?_
        refine Go.goto (pc2 := 47) d_k_computeKind_123 (by decide) (by decide) ?_
        cases hf
        exact Go.mask [true, true, true, true, true, true, true, false, true, false, true] K
    · replace hf := ifn hc hf
      refine Go.lcmpT (pc3 := 108) (pc2 := 120) d_k_computeKind_107 d_k_computeKind_108 rfl hc (by decide) (by decide) ?_
      refine Go.iinc (pc2 := 123) (L2 := [some (vR b0), some (vJ c47_1), none, some (vJ c47_3), none, some (vI c47_5), some (vI (w32 (v6 + 1))), some (vJ v7), none, some (vJ v9), none]) d_k_computeKind_120 rfl rfl rfl ?_
      refine Go.goto (pc2 := 47) d_k_computeKind_123 (by decide) (by decide) ?_
      cases hf
      exact Go.mask [true, true, true, true, true, true, true, false, true, false, true] K
  · replace hf := ifn hc hf
    refine Go.icmpT (pc2 := 126) d_k_computeKind_53 (Int.not_lt.mp hc) (by decide) (by decide) ?_
    cases hf
    exact Go.mask [true, true, true, true, true, true, false, true, true, true, true] K
set_option maxRecDepth 65536 in
set_option maxHeartbeats 4000000 in
theorem tb_k_computeKind_32 {l : Launch} {Z : State} {a0 : Array Value} (hw : ∀ d ∈ tables_1, d.before a0 Z = true) {n0 : Nat} {P : Heap → Prop} {F : Nat} {b0 sz : Nat} {rr : Int} {c32_1 c32_3 : Int} {O0 : Mo} {v5 : Int} {x : Int ⊕ (Unit ⊕ Int)} (hf : b_k_computeKind_32 F O0 c32_1 c32_3 v5 = some x) (K : Sum.elim (fun s => G_k_computeKind l Z n0 P 32 [some (vR b0), some (vJ c32_1), none, some (vJ c32_3), none, some (vI s), none, none, none, none, none] [] [(b0, 4, O0)] sz 0 0 (QM Z D n0 P (some (vI rr)) [(b0, 4, O0)] sz)) (Sum.elim (fun rz => G_k_computeKind l Z n0 P 118 [none, none, none, none, none, none, none, none, none, none, none] [] [(b0, 4, O0)] sz 0 0 (QM Z D n0 P (some (vI rr)) [(b0, 4, O0)] sz)) (fun rz => rz = rr)) x) :
    G_k_computeKind l Z n0 P 32 [some (vR b0), some (vJ c32_1), none, some (vJ c32_3), none, some (vI v5), none, none, none, none, none] [] [(b0, 4, O0)] sz 0 0 (QM Z D n0 P (some (vI rr)) [(b0, 4, O0)] sz) := by
  unfold b_k_computeKind_32 at hf
  refine Go.iload (pc2 := 34) d_k_computeKind_32 rfl rfl ?_
  refine Go.aloadN (pc2 := 35) d_k_computeKind_34 rfl rfl ?_
  refine Go.getf (pc2 := 38) d_k_computeKind_35 rfl rfl D_C (by exact w_31 hw) (q := 0) rfl (x := O0 0 2) (u := vI (O0 0 2)) (fs_n) rfl rfl ?_
  by_cases hc : v5 < O0 0 2
  · replace hf := ifp hc hf
    refine Go.icmpF (pc2 := 41) d_k_computeKind_38 (Int.not_le.mpr hc) rfl ?_
    refine Go.iload (pc2 := 43) d_k_computeKind_41 rfl rfl ?_
    refine Go.iconst (pc2 := 44) d_k_computeKind_43 rfl (by decide) ?_
    refine Go.iadd (pc2 := 45) d_k_computeKind_44 rfl ?_
    refine Go.istore (pc2 := 47) (L2 := [some (vR b0), some (vJ c32_1), none, some (vJ c32_3), none, some (vI v5), some (vI (w32 (v5 + 1))), none, none, none, none]) d_k_computeKind_45 rfl (Nat.le_of_ble_eq_true rfl) rfl ?_
    refine loop_go hf (Gs := fun s => G_k_computeKind l Z n0 P 47 [some (vR b0), some (vJ c32_1), none, some (vJ c32_3), none, some (vI v5), some (vI s), none, none, none, none] [] [(b0, 4, O0)] sz 0 0 (QM Z D n0 P (some (vI rr)) [(b0, 4, O0)] sz)) (Gr := (Sum.elim (fun rz => G_k_computeKind l Z n0 P 126 [some (vR b0), some (vJ c32_1), none, some (vJ c32_3), none, some (vI v5), none, none, none, none, none] [] [(b0, 4, O0)] sz 0 0 (QM Z D n0 P (some (vI rr)) [(b0, 4, O0)] sz)) (fun rz => rz = rr))) (fun s x hx K => tb_k_computeKind_47 (F := F) (O0 := O0) (c47_1 := c32_1) (c47_3 := c32_3) (c47_5 := v5) (v6 := s) (x := x) hw hx K) ?_
    clear hf
    intro r_1 hf
    rcases r_1 with r_2 | r_3
    · dsimp only [Sum.elim_inl] at hf ⊢
      refine Go.iinc (pc2 := 129) (L2 := [some (vR b0), some (vJ c32_1), none, some (vJ c32_3), none, some (vI (w32 (v5 + 1))), none, none, none, none, none]) d_k_computeKind_126 rfl rfl rfl ?_
      refine Go.goto (pc2 := 32) d_k_computeKind_129 (by decide) (by decide) ?_
      cases hf
      exact K
    · dsimp only [Sum.elim_inr] at hf ⊢
      cases hf
      exact K
  · replace hf := ifn hc hf
    refine Go.icmpT (pc2 := 132) d_k_computeKind_38 (Int.not_lt.mp hc) (by decide) (by decide) ?_
    refine Go.iconst (pc2 := 133) d_k_computeKind_132 rfl (by decide) ?_
    cases hf
    replace K : 3 = rr := K
    cases K
    exact Go.reti d_k_computeKind_133 rfl (Nat.le_of_ble_eq_true rfl) (Nat.le_of_ble_eq_true rfl) (fun _ H => ⟨rfl, H⟩)
set_option maxRecDepth 65536 in
set_option maxHeartbeats 4000000 in
theorem th_k_computeKind {l : Launch} {Z : State} {a0 : Array Value} (hw : ∀ d ∈ tables_1, d.before a0 Z = true) {n0 : Nat} {P : Heap → Prop} {F : Nat} {b0 sz : Nat} {rr : Int} {O0 : Mo} (hf : k_computeKind F O0 = some rr) :
    Meth l Z D n0 P (⟨"MinCircle", "computeKind", "()I"⟩ : MethodName) prog_1_method_35_code 11 (some .int) R_k_computeKind [vR b0] [(b0, 4, O0)] sz (QM Z D n0 P (some (vI rr)) [(b0, 4, O0)] sz) := by
  refine Meth.of (plainFor_of_name pn_cls) (Nat.le_of_ble_eq_true rfl) ?_
  show G_k_computeKind l Z n0 P 0 [some (vR b0), none, none, none, none, none, none, none, none, none, none] [] [(b0, 4, O0)] sz 0 0 (QM Z D n0 P (some (vI rr)) [(b0, 4, O0)] sz)
  unfold k_computeKind at hf
  refine Go.aloadN (pc2 := 1) d_k_computeKind_0 rfl rfl ?_
  refine Go.getf (pc2 := 4) d_k_computeKind_1 rfl rfl D_C (by exact w_130 hw) (q := 0) rfl (x := O0 0 7) (u := vJ (O0 0 7)) (fs_rNum) rfl rfl ?_
  refine Go.lconst (pc2 := 5) (i := 0) d_k_computeKind_4 rfl (by decide) ?_
  by_cases hc : O0 0 7 = 0
  · replace hf := ifp hc hf
    refine Go.lcmpF (pc3 := 6) (pc2 := 9) d_k_computeKind_5 d_k_computeKind_6 rfl (fun q => q hc) rfl ?_
    refine Go.iconst (pc2 := 10) d_k_computeKind_9 rfl (by decide) ?_
    cases hf
    exact Go.reti d_k_computeKind_10 rfl (Nat.le_of_ble_eq_true rfl) (Nat.le_of_ble_eq_true rfl) (fun _ H => ⟨rfl, H⟩)
  · replace hf := ifn hc hf
    refine Go.lcmpT (pc3 := 6) (pc2 := 11) d_k_computeKind_5 d_k_computeKind_6 rfl hc (by decide) (by decide) ?_
    refine Go.ldc2 (pc2 := 14) (i := 2) d_k_computeKind_11 rfl rfl (by exact w_99 hw) (by decide) ?_
    refine Go.aloadN (pc2 := 15) d_k_computeKind_14 rfl rfl ?_
    refine Go.getf (pc2 := 18) d_k_computeKind_15 rfl rfl D_C (by exact w_118 hw) (q := 0) rfl (x := O0 0 4) (u := vJ (O0 0 4)) (fs_cxNum) rfl rfl ?_
    refine Go.lmul (pc2 := 19) d_k_computeKind_18 rfl ?_
    refine Go.lstoreN (pc2 := 20) (L2 := [some (vR b0), some (vJ (w64 (2 * (O0 0 4)))), none, none, none, none, none, none, none, none, none]) d_k_computeKind_19 rfl (Nat.le_of_ble_eq_true rfl) rfl ?_
    refine Go.ldc2 (pc2 := 23) (i := 2) d_k_computeKind_20 rfl rfl (by exact w_99 hw) (by decide) ?_
    refine Go.aloadN (pc2 := 24) d_k_computeKind_23 rfl rfl ?_
    refine Go.getf (pc2 := 27) d_k_computeKind_24 rfl rfl D_C (by exact w_120 hw) (q := 0) rfl (x := O0 0 5) (u := vJ (O0 0 5)) (fs_cyNum) rfl rfl ?_
    refine Go.lmul (pc2 := 28) d_k_computeKind_27 rfl ?_
    refine Go.lstoreN (pc2 := 29) (L2 := [some (vR b0), some (vJ (w64 (2 * (O0 0 4)))), none, some (vJ (w64 (2 * (O0 0 5)))), none, none, none, none, none, none, none]) d_k_computeKind_28 rfl (Nat.le_of_ble_eq_true rfl) rfl ?_
    refine Go.iconst (pc2 := 30) d_k_computeKind_29 rfl (by decide) ?_
    refine Go.istore (pc2 := 32) (L2 := [some (vR b0), some (vJ (w64 (2 * (O0 0 4)))), none, some (vJ (w64 (2 * (O0 0 5)))), none, some (vI 0), none, none, none, none, none]) d_k_computeKind_30 rfl (Nat.le_of_ble_eq_true rfl) rfl ?_
    refine loop_go hf (Gs := fun s => G_k_computeKind l Z n0 P 32 [some (vR b0), some (vJ (w64 (2 * (O0 0 4)))), none, some (vJ (w64 (2 * (O0 0 5)))), none, some (vI s), none, none, none, none, none] [] [(b0, 4, O0)] sz 0 0 (QM Z D n0 P (some (vI rr)) [(b0, 4, O0)] sz)) (Gr := (Sum.elim (fun rz => G_k_computeKind l Z n0 P 118 [none, none, none, none, none, none, none, none, none, none, none] [] [(b0, 4, O0)] sz 0 0 (QM Z D n0 P (some (vI rr)) [(b0, 4, O0)] sz)) (fun rz => rz = rr))) (fun s x hx K => tb_k_computeKind_32 (F := F) (O0 := O0) (c32_1 := w64 (2 * (O0 0 4))) (c32_3 := w64 (2 * (O0 0 5))) (v5 := s) (x := x) hw hx K) ?_
    clear hf
    intro r hf
    rcases r with r_1 | r_2
    · dsimp only [Sum.elim_inl] at hf ⊢
      refine Go.iconst (pc2 := 119) d_k_computeKind_118 rfl (by decide) ?_
      cases hf
      exact Go.reti d_k_computeKind_119 rfl (Nat.le_of_ble_eq_true rfl) (Nat.le_of_ble_eq_true rfl) (fun _ H => ⟨rfl, H⟩)
    · dsimp only [Sum.elim_inr] at hf ⊢
      cases hf
      rfl
set_option maxRecDepth 65536 in
set_option maxHeartbeats 4000000 in
theorem tj_k_finishDisk_55 {l : Launch} {Z : State} {a0 : Array Value} (hw : ∀ d ∈ tables_1, d.before a0 Z = true) {n0 : Nat} {P : Heap → Prop} {F : Nat} {b0 sz : Nat} {Oz0 : Mo} {O0 : Mo} {v3 : Int} (hf : j_k_finishDisk_55 F O0 v3 = some Oz0) :
    G_k_finishDisk l Z n0 P 55 [some (vR b0), none, none, some (vJ v3), none] [] [(b0, 4, O0)] sz 0 0 (QM Z D n0 P none [(b0, 4, Oz0)] sz) := by
  unfold j_k_finishDisk_55 at hf
  refine Go.aloadN (pc2 := 56) d_k_finishDisk_55 rfl rfl ?_
  refine Go.aloadN (pc2 := 57) d_k_finishDisk_56 rfl rfl ?_
  refine Go.getf (pc2 := 60) d_k_finishDisk_57 rfl rfl D_C (by exact w_77 hw) (q := 0) rfl (x := O0 0 10) (u := vJ (O0 0 10)) (fs_tnx) rfl rfl ?_
  refine Go.lloadN (pc2 := 61) d_k_finishDisk_60 rfl rfl ?_
  have hb := okn hf
  replace hf := ifn hb hf
  refine Go.ldiv (pc2 := 62) d_k_finishDisk_61 rfl hb ?_
  refine Go.putf (pc2 := 65) (cw_ok hw) d_k_finishDisk_62 rfl rfl D_C (by exact w_118 hw) (by exact Or.inl (w_119 hw)) (by exact w_1 hw) (q := 0) rfl (x := w64 (Int.tdiv (O0 0 10) v3)) (x' := w64 (Int.tdiv (O0 0 10) v3)) (fs_cxNum) rfl rfl (os2 := [(b0, 4, (upd O0 0 4 (w64 (Int.tdiv (O0 0 10) v3))))]) rfl ?_
  refine Go.aloadN (pc2 := 66) d_k_finishDisk_65 rfl rfl ?_
  refine Go.aloadN (pc2 := 67) d_k_finishDisk_66 rfl rfl ?_
  refine Go.getf (pc2 := 70) d_k_finishDisk_67 rfl rfl D_C (by exact w_79 hw) (q := 0) rfl (x := O0 0 11) (u := vJ (O0 0 11)) (fs_tny) rfl rfl ?_
  refine Go.lloadN (pc2 := 71) d_k_finishDisk_70 rfl rfl ?_
  have hb := okn hf
  replace hf := ifn hb hf
  refine Go.ldiv (pc2 := 72) d_k_finishDisk_71 rfl hb ?_
  refine Go.putf (pc2 := 75) (cw_ok hw) d_k_finishDisk_72 rfl rfl D_C (by exact w_120 hw) (by exact Or.inl (w_121 hw)) (by exact w_1 hw) (q := 0) rfl (x := w64 (Int.tdiv (O0 0 11) v3)) (x' := w64 (Int.tdiv (O0 0 11) v3)) (fs_cyNum) rfl rfl (os2 := [(b0, 4, (upd (upd O0 0 4 (w64 (Int.tdiv (O0 0 10) v3))) 0 5 (w64 (Int.tdiv (O0 0 11) v3))))]) rfl ?_
  refine Go.aloadN (pc2 := 76) d_k_finishDisk_75 rfl rfl ?_
  refine bind_in hf ?_
  clear hf
  intro r h_r hf
  refine Go.callp (pc2 := 79) (as := []) (S := []) (w := none) (os2 := [(b0, 4, r)]) (sz2 := sz) (S2 := []) (rm := R_k_recordRadius) d_k_finishDisk_76 rfl rfl (by exact w_122 hw) (by exact w_124 hw) (by exact w_123 hw) (by exact w_125 hw) rfl (by exact w_2 hw) (by exact w_1 hw) (q := 0) rfl (by decide) pd_k_recordRadius (by decide) (Nat.le_of_ble_eq_true rfl) (by decide) (by decide) (nc := 0) (ns := 0) rfl rfl rfl (cu2 := 0) rfl (su2 := 0) rfl rfl (Pays.one (q := 0) rfl rfl (fun P2 hP2 => th_k_recordRadius hw h_r)) rfl ?_
  refine Go.aloadN (pc2 := 80) d_k_finishDisk_79 rfl rfl ?_
  refine Go.aloadN (pc2 := 81) d_k_finishDisk_80 rfl rfl ?_
  refine bind_in hf ?_
  clear hf
  intro r_1 h_r_1 hf
  refine Go.callp (pc2 := 84) (as := []) (S := [vR b0]) (w := (some (vI r_1))) (os2 := [(b0, 4, r)]) (sz2 := sz) (S2 := [vI r_1, vR b0]) (rm := R_k_computeKind) d_k_finishDisk_81 rfl rfl (by exact w_134 hw) (by exact w_136 hw) (by exact w_135 hw) (by exact w_137 hw) rfl (by exact w_2 hw) (by exact w_1 hw) (q := 0) rfl (by decide) pd_k_computeKind (by decide) (Nat.le_of_ble_eq_true rfl) (by decide) (by decide) (nc := 0) (ns := 0) rfl rfl rfl (cu2 := 0) rfl (su2 := 0) rfl rfl (Pays.one (q := 0) rfl rfl (fun P2 hP2 => th_k_computeKind hw h_r_1)) rfl ?_
  refine Go.putf (pc2 := 87) (cw_ok hw) d_k_finishDisk_84 rfl rfl D_C (by exact w_138 hw) (by exact Or.inl (w_139 hw)) (by exact w_1 hw) (q := 0) rfl (x := r_1) (x' := r_1) (fs_kindV) rfl rfl (os2 := [(b0, 4, (upd r 0 8 r_1))]) rfl ?_
  cases hf
  exact Go.retv d_k_finishDisk_87 rfl (Nat.le_of_ble_eq_true rfl) (Nat.le_of_ble_eq_true rfl) (fun _ H => ⟨rfl, H⟩)
set_option maxRecDepth 65536 in
set_option maxHeartbeats 4000000 in
theorem tj_k_finishDisk_31 {l : Launch} {Z : State} {a0 : Array Value} (hw : ∀ d ∈ tables_1, d.before a0 Z = true) {n0 : Nat} {P : Heap → Prop} {F : Nat} {b0 sz : Nat} {Oz0 : Mo} {O0 : Mo} {v3 : Int} (hf : j_k_finishDisk_31 F O0 v3 = some Oz0) :
    G_k_finishDisk l Z n0 P 31 [some (vR b0), none, none, some (vJ v3), none] [] [(b0, 4, O0)] sz 0 0 (QM Z D n0 P none [(b0, 4, Oz0)] sz) := by
  unfold j_k_finishDisk_31 at hf
  refine Go.aloadN (pc2 := 32) d_k_finishDisk_31 rfl rfl ?_
  refine Go.aloadN (pc2 := 33) d_k_finishDisk_32 rfl rfl ?_
  refine Go.getf (pc2 := 36) d_k_finishDisk_33 rfl rfl D_C (by exact w_35 hw) (q := 0) rfl (x := O0 0 12) (u := vJ (O0 0 12)) (fs_td) rfl rfl ?_
  refine Go.lloadN (pc2 := 37) d_k_finishDisk_36 rfl rfl ?_
  have hb := okn hf
  replace hf := ifn hb hf
  refine Go.ldiv (pc2 := 38) d_k_finishDisk_37 rfl hb ?_
  refine Go.putf (pc2 := 41) (cw_ok hw) d_k_finishDisk_38 rfl rfl D_C (by exact w_116 hw) (by exact Or.inl (w_117 hw)) (by exact w_1 hw) (q := 0) rfl (x := w64 (Int.tdiv (O0 0 12) v3)) (x' := w64 (Int.tdiv (O0 0 12) v3)) (fs_den) rfl rfl (os2 := [(b0, 4, (upd O0 0 6 (w64 (Int.tdiv (O0 0 12) v3))))]) rfl ?_
  refine Go.aloadN (pc2 := 42) d_k_finishDisk_41 rfl rfl ?_
  refine Go.getf (pc2 := 45) d_k_finishDisk_42 rfl rfl D_C (by exact w_116 hw) (q := 0) rfl (x := w64 (Int.tdiv (O0 0 12) v3)) (u := vJ (w64 (Int.tdiv (O0 0 12) v3))) (fs_den) rfl rfl ?_
  refine Go.lconst (pc2 := 46) (i := 0) d_k_finishDisk_45 rfl (by decide) ?_
  by_cases hc : 0 < w64 (Int.tdiv (O0 0 12) v3)
  · replace hf := ifp hc hf
    refine Go.lcmpT (pc3 := 47) (pc2 := 55) d_k_finishDisk_46 d_k_finishDisk_47 rfl hc (by decide) (by decide) ?_
    exact tj_k_finishDisk_55 hw hf
  · replace hf := ifn hc hf
    refine Go.lcmpF (pc3 := 47) (pc2 := 50) d_k_finishDisk_46 d_k_finishDisk_47 rfl hc rfl ?_
    refine Go.aloadN (pc2 := 51) d_k_finishDisk_50 rfl rfl ?_
    refine Go.lconst (pc2 := 52) (i := 1) d_k_finishDisk_51 rfl (by decide) ?_
    refine Go.putf (pc2 := 55) (cw_ok hw) d_k_finishDisk_52 rfl rfl D_C (by exact w_116 hw) (by exact Or.inl (w_117 hw)) (by exact w_1 hw) (q := 0) rfl (x := 1) (x' := 1) (fs_den) rfl rfl (os2 := [(b0, 4, (upd (upd O0 0 6 (w64 (Int.tdiv (O0 0 12) v3))) 0 6 1))]) rfl ?_
    exact tj_k_finishDisk_55 hw hf
set_option maxRecDepth 65536 in
set_option maxHeartbeats 4000000 in
theorem th_k_finishDisk {l : Launch} {Z : State} {a0 : Array Value} (hw : ∀ d ∈ tables_1, d.before a0 Z = true) {n0 : Nat} {P : Heap → Prop} {F : Nat} {b0 sz : Nat} {Oz0 : Mo} {O0 : Mo} (hf : k_finishDisk F O0 = some Oz0) :
    Meth l Z D n0 P (⟨"MinCircle", "finishDisk", "()V"⟩ : MethodName) prog_1_method_32_code 5 none R_k_finishDisk [vR b0] [(b0, 4, O0)] sz (QM Z D n0 P none [(b0, 4, Oz0)] sz) := by
  refine Meth.of (plainFor_of_name pn_cls) (Nat.le_of_ble_eq_true rfl) ?_
  show G_k_finishDisk l Z n0 P 0 [some (vR b0), none, none, none, none] [] [(b0, 4, O0)] sz 0 0 (QM Z D n0 P none [(b0, 4, Oz0)] sz)
  unfold k_finishDisk at hf
  refine Go.aloadN (pc2 := 1) d_k_finishDisk_0 rfl rfl ?_
  refine Go.aloadN (pc2 := 2) d_k_finishDisk_1 rfl rfl ?_
  refine Go.getf (pc2 := 5) d_k_finishDisk_2 rfl rfl D_C (by exact w_77 hw) (q := 0) rfl (x := O0 0 10) (u := vJ (O0 0 10)) (fs_tnx) rfl rfl ?_
  refine Go.aloadN (pc2 := 6) d_k_finishDisk_5 rfl rfl ?_
  refine Go.getf (pc2 := 9) d_k_finishDisk_6 rfl rfl D_C (by exact w_79 hw) (q := 0) rfl (x := O0 0 11) (u := vJ (O0 0 11)) (fs_tny) rfl rfl ?_
  refine bind_in hf ?_
  clear hf
  intro r h_r hf
  refine Go.callp (pc2 := 12) (as := [vJ (O0 0 10), vJ (O0 0 11)]) (S := []) (w := (some (vJ r))) (os2 := [(b0, 4, O0)]) (sz2 := sz) (S2 := [vJ r]) (rm := R_k_gcd) d_k_finishDisk_9 rfl rfl (by exact w_108 hw) (by exact w_110 hw) (by exact w_109 hw) (by exact w_111 hw) rfl (by exact w_2 hw) (by exact w_1 hw) (q := 0) rfl (by decide) pd_k_gcd (by decide) (Nat.le_of_ble_eq_true rfl) (by decide) (by decide) (nc := 0) (ns := 0) rfl rfl rfl (cu2 := 0) rfl (su2 := 0) rfl rfl (Pays.one (q := 0) rfl rfl (fun P2 hP2 => th_k_gcd hw h_r)) rfl ?_
  refine Go.lstoreN (pc2 := 13) (L2 := [some (vR b0), some (vJ r), none, none, none]) d_k_finishDisk_12 rfl (Nat.le_of_ble_eq_true rfl) rfl ?_
  refine Go.aloadN (pc2 := 14) d_k_finishDisk_13 rfl rfl ?_
  refine Go.lloadN (pc2 := 15) d_k_finishDisk_14 rfl rfl ?_
  refine Go.aloadN (pc2 := 16) d_k_finishDisk_15 rfl rfl ?_
  refine Go.getf (pc2 := 19) d_k_finishDisk_16 rfl rfl D_C (by exact w_35 hw) (q := 0) rfl (x := O0 0 12) (u := vJ (O0 0 12)) (fs_td) rfl rfl ?_
  refine bind_in hf ?_
  clear hf
  intro r_1 h_r_1 hf
  refine Go.callp (pc2 := 22) (as := [vJ r, vJ (O0 0 12)]) (S := []) (w := (some (vJ r_1))) (os2 := [(b0, 4, O0)]) (sz2 := sz) (S2 := [vJ r_1]) (rm := R_k_gcd) d_k_finishDisk_19 rfl rfl (by exact w_108 hw) (by exact w_110 hw) (by exact w_109 hw) (by exact w_111 hw) rfl (by exact w_2 hw) (by exact w_1 hw) (q := 0) rfl (by decide) pd_k_gcd (by decide) (Nat.le_of_ble_eq_true rfl) (by decide) (by decide) (nc := 0) (ns := 0) rfl rfl rfl (cu2 := 0) rfl (su2 := 0) rfl rfl (Pays.one (q := 0) rfl rfl (fun P2 hP2 => th_k_gcd hw h_r_1)) rfl ?_
  refine Go.lstoreN (pc2 := 23) (L2 := [some (vR b0), some (vJ r), none, some (vJ r_1), none]) d_k_finishDisk_22 rfl (Nat.le_of_ble_eq_true rfl) rfl ?_
  refine Go.lloadN (pc2 := 24) d_k_finishDisk_23 rfl rfl ?_
  refine Go.lconst (pc2 := 25) (i := 0) d_k_finishDisk_24 rfl (by decide) ?_
  by_cases hc : 0 < r_1
  · replace hf := ifp hc hf
    refine Go.lcmpT (pc3 := 26) (pc2 := 31) d_k_finishDisk_25 d_k_finishDisk_26 rfl hc (by decide) (by decide) ?_
    exact Go.mask [true, false, true, true, true] (tj_k_finishDisk_31 hw hf)
  · replace hf := ifn hc hf
    refine Go.lcmpF (pc3 := 26) (pc2 := 29) d_k_finishDisk_25 d_k_finishDisk_26 rfl hc rfl ?_
    refine Go.lconst (pc2 := 30) (i := 1) d_k_finishDisk_29 rfl (by decide) ?_
    refine Go.lstoreN (pc2 := 31) (L2 := [some (vR b0), some (vJ r), none, some (vJ 1), none]) d_k_finishDisk_30 rfl (Nat.le_of_ble_eq_true rfl) rfl ?_
    exact Go.mask [true, false, true, true, true] (tj_k_finishDisk_31 hw hf)
set_option maxRecDepth 65536 in
set_option maxHeartbeats 4000000 in
theorem th_k_solve {l : Launch} {Z : State} {a0 : Array Value} (hw : ∀ d ∈ tables_1, d.before a0 Z = true) {n0 : Nat} {P : Heap → Prop} {F : Nat} {b0 sz : Nat} {rr : Int} {Oz0 : Mo} {O0 : Mo} (hf : k_solve F O0 = some ((rr, Oz0))) :
    Meth l Z D n0 P (⟨"MinCircle", "solve", "()I"⟩ : MethodName) prog_1_method_5_code 1 (some .int) R_k_solve [vR b0] [(b0, 4, O0)] sz (QM Z D n0 P (some (vI rr)) [(b0, 4, Oz0)] sz) := by
  refine Meth.of (plainFor_of_name pn_cls) (Nat.le_of_ble_eq_true rfl) ?_
  show G_k_solve l Z n0 P 0 [some (vR b0)] [] [(b0, 4, O0)] sz 0 0 (QM Z D n0 P (some (vI rr)) [(b0, 4, Oz0)] sz)
  unfold k_solve at hf
  refine Go.aloadN (pc2 := 1) d_k_solve_0 rfl rfl ?_
  refine Go.getf (pc2 := 4) d_k_solve_1 rfl rfl D_C (by exact w_31 hw) (q := 0) rfl (x := O0 0 2) (u := vI (O0 0 2)) (fs_n) rfl rfl ?_
  by_cases hc : 0 < O0 0 2
  · replace hf := ifp hc hf
    refine Go.ifT (pc2 := 9) d_k_solve_4 hc (by decide) (by decide) ?_
    refine Go.aloadN (pc2 := 10) d_k_solve_9 rfl rfl ?_
    refine Go.getf (pc2 := 13) d_k_solve_10 rfl rfl D_C (by exact w_33 hw) (q := 0) rfl (x := O0 0 3) (u := vI (O0 0 3)) (fs_solved) rfl rfl ?_
    by_cases hc : O0 0 3 = 0
    · replace hf := ifp hc hf
      refine Go.ifT (pc2 := 21) d_k_solve_13 hc (by decide) (by decide) ?_
      refine Go.aloadN (pc2 := 22) d_k_solve_21 rfl rfl ?_
      refine bind_in hf ?_
      clear hf
      intro r h_r hf
      refine Go.callp (pc2 := 25) (as := []) (S := []) (w := none) (os2 := [(b0, 4, r)]) (sz2 := sz) (S2 := []) (rm := R_k_shuffle) d_k_solve_22 rfl rfl (by exact w_59 hw) (by exact w_61 hw) (by exact w_60 hw) (by exact w_62 hw) rfl (by exact w_2 hw) (by exact w_1 hw) (q := 0) rfl (by decide) pd_k_shuffle (by decide) (Nat.le_of_ble_eq_true rfl) (by decide) (by decide) (nc := 0) (ns := 0) rfl rfl rfl (cu2 := 0) rfl (su2 := 0) rfl rfl (Pays.one (q := 0) rfl rfl (fun P2 hP2 => th_k_shuffle hw h_r)) rfl ?_
      refine Go.aloadN (pc2 := 26) d_k_solve_25 rfl rfl ?_
      refine bind_in hf ?_
      clear hf
      intro r_1 h_r_1 hf
      refine Go.callp (pc2 := 29) (as := []) (S := []) (w := none) (os2 := [(b0, 4, r_1)]) (sz2 := sz) (S2 := []) (rm := R_k_runIncremental) d_k_solve_26 rfl rfl (by exact w_69 hw) (by exact w_71 hw) (by exact w_70 hw) (by exact w_72 hw) rfl (by exact w_2 hw) (by exact w_1 hw) (q := 0) rfl (by decide) pd_k_runIncremental (by decide) (Nat.le_of_ble_eq_true rfl) (by decide) (by decide) (nc := 0) (ns := 0) rfl rfl rfl (cu2 := 0) rfl (su2 := 0) rfl rfl (Pays.one (q := 0) rfl rfl (fun P2 hP2 => th_k_runIncremental hw h_r_1)) rfl ?_
      refine Go.aloadN (pc2 := 30) d_k_solve_29 rfl rfl ?_
      refine bind_in hf ?_
      clear hf
      intro r_2 h_r_2 hf
      refine Go.callp (pc2 := 33) (as := []) (S := []) (w := none) (os2 := [(b0, 4, r_2)]) (sz2 := sz) (S2 := []) (rm := R_k_finishDisk) d_k_solve_30 rfl rfl (by exact w_104 hw) (by exact w_106 hw) (by exact w_105 hw) (by exact w_107 hw) rfl (by exact w_2 hw) (by exact w_1 hw) (q := 0) rfl (by decide) pd_k_finishDisk (by decide) (Nat.le_of_ble_eq_true rfl) (by decide) (by decide) (nc := 0) (ns := 0) rfl rfl rfl (cu2 := 0) rfl (su2 := 0) rfl rfl (Pays.one (q := 0) rfl rfl (fun P2 hP2 => th_k_finishDisk hw h_r_2)) rfl ?_
      refine Go.aloadN (pc2 := 34) d_k_solve_33 rfl rfl ?_
      refine Go.iconst (pc2 := 35) d_k_solve_34 rfl (by decide) ?_
      refine Go.putf (pc2 := 38) (cw_ok hw) d_k_solve_35 rfl rfl D_C (by exact w_33 hw) (by exact Or.inl (w_34 hw)) (by exact w_1 hw) (q := 0) rfl (x := 1) (x' := 1) (fs_solved) rfl rfl (os2 := [(b0, 4, (upd r_2 0 3 1))]) rfl ?_
      refine Go.aloadN (pc2 := 39) d_k_solve_38 rfl rfl ?_
      refine Go.getf (pc2 := 42) d_k_solve_39 rfl rfl D_C (by exact w_132 hw) (q := 0) rfl (x := r_2 0 9) (u := vI (r_2 0 9)) (fs_bCount) rfl rfl ?_
      cases hf
      exact Go.reti d_k_solve_42 rfl (Nat.le_of_ble_eq_true rfl) (Nat.le_of_ble_eq_true rfl) (fun _ H => ⟨rfl, H⟩)
    · replace hf := ifn hc hf
      refine Go.ifF (pc2 := 16) d_k_solve_13 hc rfl ?_
      refine Go.aloadN (pc2 := 17) d_k_solve_16 rfl rfl ?_
      refine Go.getf (pc2 := 20) d_k_solve_17 rfl rfl D_C (by exact w_132 hw) (q := 0) rfl (x := O0 0 9) (u := vI (O0 0 9)) (fs_bCount) rfl rfl ?_
      cases hf
      exact Go.reti d_k_solve_20 rfl (Nat.le_of_ble_eq_true rfl) (Nat.le_of_ble_eq_true rfl) (fun _ H => ⟨rfl, H⟩)
  · replace hf := ifn hc hf
    refine Go.ifF (pc2 := 7) d_k_solve_4 hc rfl ?_
    refine Go.iconst (pc2 := 8) d_k_solve_7 rfl (by decide) ?_
    cases hf
    exact Go.reti d_k_solve_8 rfl (Nat.le_of_ble_eq_true rfl) (Nat.le_of_ble_eq_true rfl) (fun _ H => ⟨rfl, H⟩)
set_option maxRecDepth 65536 in
set_option maxHeartbeats 4000000 in
theorem th_k_removeLast {l : Launch} {Z : State} {a0 : Array Value} (hw : ∀ d ∈ tables_1, d.before a0 Z = true) {n0 : Nat} {P : Heap → Prop} {F : Nat} {b0 sz : Nat} {rr : Int} {Oz0 : Mo} {O0 : Mo} (hf : k_removeLast F O0 = some ((rr, Oz0))) :
    Meth l Z D n0 P (⟨"MinCircle", "removeLast", "()Z"⟩ : MethodName) prog_1_method_3_code 1 (some .boolean) R_k_removeLast [vR b0] [(b0, 4, O0)] sz (QM Z D n0 P (some (vI rr)) [(b0, 4, Oz0)] sz) := by
  refine Meth.of (plainFor_of_name pn_cls) (Nat.le_of_ble_eq_true rfl) ?_
  show G_k_removeLast l Z n0 P 0 [some (vR b0)] [] [(b0, 4, O0)] sz 0 0 (QM Z D n0 P (some (vI rr)) [(b0, 4, Oz0)] sz)
  unfold k_removeLast at hf
  refine Go.aloadN (pc2 := 1) d_k_removeLast_0 rfl rfl ?_
  refine Go.getf (pc2 := 4) d_k_removeLast_1 rfl rfl D_C (by exact w_31 hw) (q := 0) rfl (x := O0 0 2) (u := vI (O0 0 2)) (fs_n) rfl rfl ?_
  by_cases hc : 0 < O0 0 2
  · replace hf := ifp hc hf
    refine Go.ifT (pc2 := 9) d_k_removeLast_4 hc (by decide) (by decide) ?_
    refine Go.aloadN (pc2 := 10) d_k_removeLast_9 rfl rfl ?_
    refine Go.aloadN (pc2 := 11) d_k_removeLast_10 rfl rfl ?_
    refine Go.getf (pc2 := 14) d_k_removeLast_11 rfl rfl D_C (by exact w_31 hw) (q := 0) rfl (x := O0 0 2) (u := vI (O0 0 2)) (fs_n) rfl rfl ?_
    refine Go.iconst (pc2 := 15) d_k_removeLast_14 rfl (by decide) ?_
    refine Go.isub (pc2 := 16) d_k_removeLast_15 rfl ?_
    refine Go.putf (pc2 := 19) (cw_ok hw) d_k_removeLast_16 rfl rfl D_C (by exact w_31 hw) (by exact Or.inl (w_32 hw)) (by exact w_1 hw) (q := 0) rfl (x := w32 ((O0 0 2) - 1)) (x' := w32 ((O0 0 2) - 1)) (fs_n) rfl rfl (os2 := [(b0, 4, (upd O0 0 2 (w32 ((O0 0 2) - 1))))]) rfl ?_
    refine Go.aloadN (pc2 := 20) d_k_removeLast_19 rfl rfl ?_
    refine Go.iconst (pc2 := 21) d_k_removeLast_20 rfl (by decide) ?_
    refine Go.putf (pc2 := 24) (cw_ok hw) d_k_removeLast_21 rfl rfl D_C (by exact w_33 hw) (by exact Or.inl (w_34 hw)) (by exact w_1 hw) (q := 0) rfl (x := 0) (x' := 0) (fs_solved) rfl rfl (os2 := [(b0, 4, (upd (upd O0 0 2 (w32 ((O0 0 2) - 1))) 0 3 0))]) rfl ?_
    refine Go.iconst (pc2 := 25) d_k_removeLast_24 rfl (by decide) ?_
    cases hf
    exact Go.retz d_k_removeLast_25 rfl rfl (Nat.le_of_ble_eq_true rfl) (Nat.le_of_ble_eq_true rfl) (fun _ H => ⟨rfl, H⟩)
  · replace hf := ifn hc hf
    refine Go.ifF (pc2 := 7) d_k_removeLast_4 hc rfl ?_
    refine Go.iconst (pc2 := 8) d_k_removeLast_7 rfl (by decide) ?_
    cases hf
    exact Go.retz d_k_removeLast_8 rfl rfl (Nat.le_of_ble_eq_true rfl) (Nat.le_of_ble_eq_true rfl) (fun _ H => ⟨rfl, H⟩)
set_option maxRecDepth 65536 in
set_option maxHeartbeats 4000000 in
theorem th_k_clear {l : Launch} {Z : State} {a0 : Array Value} (hw : ∀ d ∈ tables_1, d.before a0 Z = true) {n0 : Nat} {P : Heap → Prop} {F : Nat} {b0 sz : Nat} {Oz0 : Mo} {O0 : Mo} (hf : k_clear F O0 = some Oz0) :
    Meth l Z D n0 P (⟨"MinCircle", "clear", "()V"⟩ : MethodName) prog_1_method_4_code 1 none R_k_clear [vR b0] [(b0, 4, O0)] sz (QM Z D n0 P none [(b0, 4, Oz0)] sz) := by
  refine Meth.of (plainFor_of_name pn_cls) (Nat.le_of_ble_eq_true rfl) ?_
  show G_k_clear l Z n0 P 0 [some (vR b0)] [] [(b0, 4, O0)] sz 0 0 (QM Z D n0 P none [(b0, 4, Oz0)] sz)
  unfold k_clear at hf
  refine Go.aloadN (pc2 := 1) d_k_clear_0 rfl rfl ?_
  refine Go.iconst (pc2 := 2) d_k_clear_1 rfl (by decide) ?_
  refine Go.putf (pc2 := 5) (cw_ok hw) d_k_clear_2 rfl rfl D_C (by exact w_31 hw) (by exact Or.inl (w_32 hw)) (by exact w_1 hw) (q := 0) rfl (x := 0) (x' := 0) (fs_n) rfl rfl (os2 := [(b0, 4, (upd O0 0 2 0))]) rfl ?_
  refine Go.aloadN (pc2 := 6) d_k_clear_5 rfl rfl ?_
  refine Go.iconst (pc2 := 7) d_k_clear_6 rfl (by decide) ?_
  refine Go.putf (pc2 := 10) (cw_ok hw) d_k_clear_7 rfl rfl D_C (by exact w_33 hw) (by exact Or.inl (w_34 hw)) (by exact w_1 hw) (q := 0) rfl (x := 0) (x' := 0) (fs_solved) rfl rfl (os2 := [(b0, 4, (upd (upd O0 0 2 0) 0 3 0))]) rfl ?_
  cases hf
  exact Go.retv d_k_clear_10 rfl (Nat.le_of_ble_eq_true rfl) (Nat.le_of_ble_eq_true rfl) (fun _ H => ⟨rfl, H⟩)
set_option maxRecDepth 65536 in
set_option maxHeartbeats 4000000 in
theorem th_k_isSolved {l : Launch} {Z : State} {a0 : Array Value} (hw : ∀ d ∈ tables_1, d.before a0 Z = true) {n0 : Nat} {P : Heap → Prop} {b0 sz : Nat} {rr : Int} {O0 : Mo} (hf : k_isSolved O0 = rr) :
    Meth l Z D n0 P (⟨"MinCircle", "isSolved", "()Z"⟩ : MethodName) prog_1_method_9_code 1 (some .boolean) R_k_isSolved [vR b0] [(b0, 4, O0)] sz (QM Z D n0 P (some (vI rr)) [(b0, 4, O0)] sz) := by
  refine Meth.of (plainFor_of_name pn_cls) (Nat.le_of_ble_eq_true rfl) ?_
  show G_k_isSolved l Z n0 P 0 [some (vR b0)] [] [(b0, 4, O0)] sz 0 0 (QM Z D n0 P (some (vI rr)) [(b0, 4, O0)] sz)
  unfold k_isSolved at hf
  refine Go.aloadN (pc2 := 1) d_k_isSolved_0 rfl rfl ?_
  refine Go.getf (pc2 := 4) d_k_isSolved_1 rfl rfl D_C (by exact w_33 hw) (q := 0) rfl (x := O0 0 3) (u := vI (O0 0 3)) (fs_solved) rfl rfl ?_
  cases hf
  exact Go.retz d_k_isSolved_4 rfl rfl (Nat.le_of_ble_eq_true rfl) (Nat.le_of_ble_eq_true rfl) (fun _ H => ⟨rfl, H⟩)
set_option maxRecDepth 65536 in
set_option maxHeartbeats 4000000 in
theorem th_k_centreDen {l : Launch} {Z : State} {a0 : Array Value} (hw : ∀ d ∈ tables_1, d.before a0 Z = true) {n0 : Nat} {P : Heap → Prop} {b0 sz : Nat} {rr : Int} {O0 : Mo} (hf : k_centreDen O0 = rr) :
    Meth l Z D n0 P (⟨"MinCircle", "centreDen", "()J"⟩ : MethodName) prog_1_method_12_code 1 (some .long) R_k_centreDen [vR b0] [(b0, 4, O0)] sz (QM Z D n0 P (some (vJ rr)) [(b0, 4, O0)] sz) := by
  refine Meth.of (plainFor_of_name pn_cls) (Nat.le_of_ble_eq_true rfl) ?_
  show G_k_centreDen l Z n0 P 0 [some (vR b0)] [] [(b0, 4, O0)] sz 0 0 (QM Z D n0 P (some (vJ rr)) [(b0, 4, O0)] sz)
  unfold k_centreDen at hf
  refine Go.aloadN (pc2 := 1) d_k_centreDen_0 rfl rfl ?_
  refine Go.getf (pc2 := 4) d_k_centreDen_1 rfl rfl D_C (by exact w_33 hw) (q := 0) rfl (x := O0 0 3) (u := vI (O0 0 3)) (fs_solved) rfl rfl ?_
  by_cases hc : O0 0 3 = 0
  · replace hf := ifp hc hf
    refine Go.ifT (pc2 := 14) d_k_centreDen_4 hc (by decide) (by decide) ?_
    refine Go.lconst (pc2 := 15) (i := 0) d_k_centreDen_14 rfl (by decide) ?_
    cases hf
    exact Go.retj d_k_centreDen_15 rfl (Nat.le_of_ble_eq_true rfl) (Nat.le_of_ble_eq_true rfl) (fun _ H => ⟨rfl, H⟩)
  · replace hf := ifn hc hf
    refine Go.ifF (pc2 := 7) d_k_centreDen_4 hc rfl ?_
    refine Go.aloadN (pc2 := 8) d_k_centreDen_7 rfl rfl ?_
    refine Go.getf (pc2 := 11) d_k_centreDen_8 rfl rfl D_C (by exact w_116 hw) (q := 0) rfl (x := O0 0 6) (u := vJ (O0 0 6)) (fs_den) rfl rfl ?_
    refine Go.goto (pc2 := 15) d_k_centreDen_11 (by decide) (by decide) ?_
    cases hf
    exact Go.retj d_k_centreDen_15 rfl (Nat.le_of_ble_eq_true rfl) (Nat.le_of_ble_eq_true rfl) (fun _ H => ⟨rfl, H⟩)
set_option maxRecDepth 65536 in
set_option maxHeartbeats 4000000 in
theorem th_k_centreXNum {l : Launch} {Z : State} {a0 : Array Value} (hw : ∀ d ∈ tables_1, d.before a0 Z = true) {n0 : Nat} {P : Heap → Prop} {b0 sz : Nat} {rr : Int} {O0 : Mo} (hf : k_centreXNum O0 = rr) :
    Meth l Z D n0 P (⟨"MinCircle", "centreXNum", "()J"⟩ : MethodName) prog_1_method_10_code 1 (some .long) R_k_centreXNum [vR b0] [(b0, 4, O0)] sz (QM Z D n0 P (some (vJ rr)) [(b0, 4, O0)] sz) := by
  refine Meth.of (plainFor_of_name pn_cls) (Nat.le_of_ble_eq_true rfl) ?_
  show G_k_centreXNum l Z n0 P 0 [some (vR b0)] [] [(b0, 4, O0)] sz 0 0 (QM Z D n0 P (some (vJ rr)) [(b0, 4, O0)] sz)
  unfold k_centreXNum at hf
  refine Go.aloadN (pc2 := 1) d_k_centreXNum_0 rfl rfl ?_
  refine Go.getf (pc2 := 4) d_k_centreXNum_1 rfl rfl D_C (by exact w_33 hw) (q := 0) rfl (x := O0 0 3) (u := vI (O0 0 3)) (fs_solved) rfl rfl ?_
  by_cases hc : O0 0 3 = 0
  · replace hf := ifp hc hf
    refine Go.ifT (pc2 := 14) d_k_centreXNum_4 hc (by decide) (by decide) ?_
    refine Go.lconst (pc2 := 15) (i := 0) d_k_centreXNum_14 rfl (by decide) ?_
    cases hf
    exact Go.retj d_k_centreXNum_15 rfl (Nat.le_of_ble_eq_true rfl) (Nat.le_of_ble_eq_true rfl) (fun _ H => ⟨rfl, H⟩)
  · replace hf := ifn hc hf
    refine Go.ifF (pc2 := 7) d_k_centreXNum_4 hc rfl ?_
    refine Go.aloadN (pc2 := 8) d_k_centreXNum_7 rfl rfl ?_
    refine Go.getf (pc2 := 11) d_k_centreXNum_8 rfl rfl D_C (by exact w_118 hw) (q := 0) rfl (x := O0 0 4) (u := vJ (O0 0 4)) (fs_cxNum) rfl rfl ?_
    refine Go.goto (pc2 := 15) d_k_centreXNum_11 (by decide) (by decide) ?_
    cases hf
    exact Go.retj d_k_centreXNum_15 rfl (Nat.le_of_ble_eq_true rfl) (Nat.le_of_ble_eq_true rfl) (fun _ H => ⟨rfl, H⟩)
set_option maxRecDepth 65536 in
set_option maxHeartbeats 4000000 in
theorem th_k_centreYNum {l : Launch} {Z : State} {a0 : Array Value} (hw : ∀ d ∈ tables_1, d.before a0 Z = true) {n0 : Nat} {P : Heap → Prop} {b0 sz : Nat} {rr : Int} {O0 : Mo} (hf : k_centreYNum O0 = rr) :
    Meth l Z D n0 P (⟨"MinCircle", "centreYNum", "()J"⟩ : MethodName) prog_1_method_11_code 1 (some .long) R_k_centreYNum [vR b0] [(b0, 4, O0)] sz (QM Z D n0 P (some (vJ rr)) [(b0, 4, O0)] sz) := by
  refine Meth.of (plainFor_of_name pn_cls) (Nat.le_of_ble_eq_true rfl) ?_
  show G_k_centreYNum l Z n0 P 0 [some (vR b0)] [] [(b0, 4, O0)] sz 0 0 (QM Z D n0 P (some (vJ rr)) [(b0, 4, O0)] sz)
  unfold k_centreYNum at hf
  refine Go.aloadN (pc2 := 1) d_k_centreYNum_0 rfl rfl ?_
  refine Go.getf (pc2 := 4) d_k_centreYNum_1 rfl rfl D_C (by exact w_33 hw) (q := 0) rfl (x := O0 0 3) (u := vI (O0 0 3)) (fs_solved) rfl rfl ?_
  by_cases hc : O0 0 3 = 0
  · replace hf := ifp hc hf
    refine Go.ifT (pc2 := 14) d_k_centreYNum_4 hc (by decide) (by decide) ?_
    refine Go.lconst (pc2 := 15) (i := 0) d_k_centreYNum_14 rfl (by decide) ?_
    cases hf
    exact Go.retj d_k_centreYNum_15 rfl (Nat.le_of_ble_eq_true rfl) (Nat.le_of_ble_eq_true rfl) (fun _ H => ⟨rfl, H⟩)
  · replace hf := ifn hc hf
    refine Go.ifF (pc2 := 7) d_k_centreYNum_4 hc rfl ?_
    refine Go.aloadN (pc2 := 8) d_k_centreYNum_7 rfl rfl ?_
    refine Go.getf (pc2 := 11) d_k_centreYNum_8 rfl rfl D_C (by exact w_120 hw) (q := 0) rfl (x := O0 0 5) (u := vJ (O0 0 5)) (fs_cyNum) rfl rfl ?_
    refine Go.goto (pc2 := 15) d_k_centreYNum_11 (by decide) (by decide) ?_
    cases hf
    exact Go.retj d_k_centreYNum_15 rfl (Nat.le_of_ble_eq_true rfl) (Nat.le_of_ble_eq_true rfl) (fun _ H => ⟨rfl, H⟩)
set_option maxRecDepth 65536 in
set_option maxHeartbeats 4000000 in
theorem th_k_radiusSqNum {l : Launch} {Z : State} {a0 : Array Value} (hw : ∀ d ∈ tables_1, d.before a0 Z = true) {n0 : Nat} {P : Heap → Prop} {b0 sz : Nat} {rr : Int} {O0 : Mo} (hf : k_radiusSqNum O0 = rr) :
    Meth l Z D n0 P (⟨"MinCircle", "radiusSqNum", "()J"⟩ : MethodName) prog_1_method_13_code 1 (some .long) R_k_radiusSqNum [vR b0] [(b0, 4, O0)] sz (QM Z D n0 P (some (vJ rr)) [(b0, 4, O0)] sz) := by
  refine Meth.of (plainFor_of_name pn_cls) (Nat.le_of_ble_eq_true rfl) ?_
  show G_k_radiusSqNum l Z n0 P 0 [some (vR b0)] [] [(b0, 4, O0)] sz 0 0 (QM Z D n0 P (some (vJ rr)) [(b0, 4, O0)] sz)
  unfold k_radiusSqNum at hf
  refine Go.aloadN (pc2 := 1) d_k_radiusSqNum_0 rfl rfl ?_
  refine Go.getf (pc2 := 4) d_k_radiusSqNum_1 rfl rfl D_C (by exact w_33 hw) (q := 0) rfl (x := O0 0 3) (u := vI (O0 0 3)) (fs_solved) rfl rfl ?_
  by_cases hc : O0 0 3 = 0
  · replace hf := ifp hc hf
    refine Go.ifT (pc2 := 14) d_k_radiusSqNum_4 hc (by decide) (by decide) ?_
    refine Go.lconst (pc2 := 15) (i := 0) d_k_radiusSqNum_14 rfl (by decide) ?_
    cases hf
    exact Go.retj d_k_radiusSqNum_15 rfl (Nat.le_of_ble_eq_true rfl) (Nat.le_of_ble_eq_true rfl) (fun _ H => ⟨rfl, H⟩)
  · replace hf := ifn hc hf
    refine Go.ifF (pc2 := 7) d_k_radiusSqNum_4 hc rfl ?_
    refine Go.aloadN (pc2 := 8) d_k_radiusSqNum_7 rfl rfl ?_
    refine Go.getf (pc2 := 11) d_k_radiusSqNum_8 rfl rfl D_C (by exact w_130 hw) (q := 0) rfl (x := O0 0 7) (u := vJ (O0 0 7)) (fs_rNum) rfl rfl ?_
    refine Go.goto (pc2 := 15) d_k_radiusSqNum_11 (by decide) (by decide) ?_
    cases hf
    exact Go.retj d_k_radiusSqNum_15 rfl (Nat.le_of_ble_eq_true rfl) (Nat.le_of_ble_eq_true rfl) (fun _ H => ⟨rfl, H⟩)
set_option maxRecDepth 65536 in
set_option maxHeartbeats 4000000 in
theorem th_k_count {l : Launch} {Z : State} {a0 : Array Value} (hw : ∀ d ∈ tables_1, d.before a0 Z = true) {n0 : Nat} {P : Heap → Prop} {b0 sz : Nat} {rr : Int} {O0 : Mo} (hf : k_count O0 = rr) :
    Meth l Z D n0 P (⟨"MinCircle", "count", "()I"⟩ : MethodName) prog_1_method_6_code 1 (some .int) R_k_count [vR b0] [(b0, 4, O0)] sz (QM Z D n0 P (some (vI rr)) [(b0, 4, O0)] sz) := by
  refine Meth.of (plainFor_of_name pn_cls) (Nat.le_of_ble_eq_true rfl) ?_
  show G_k_count l Z n0 P 0 [some (vR b0)] [] [(b0, 4, O0)] sz 0 0 (QM Z D n0 P (some (vI rr)) [(b0, 4, O0)] sz)
  unfold k_count at hf
  refine Go.aloadN (pc2 := 1) d_k_count_0 rfl rfl ?_
  refine Go.getf (pc2 := 4) d_k_count_1 rfl rfl D_C (by exact w_31 hw) (q := 0) rfl (x := O0 0 2) (u := vI (O0 0 2)) (fs_n) rfl rfl ?_
  cases hf
  exact Go.reti d_k_count_4 rfl (Nat.le_of_ble_eq_true rfl) (Nat.le_of_ble_eq_true rfl) (fun _ H => ⟨rfl, H⟩)
set_option maxRecDepth 65536 in
set_option maxHeartbeats 4000000 in
theorem th_k_pointX {l : Launch} {Z : State} {a0 : Array Value} (hw : ∀ d ∈ tables_1, d.before a0 Z = true) {n0 : Nat} {P : Heap → Prop} {F : Nat} {b0 sz : Nat} {rr : Int} {O0 : Mo} {v1 : Int} (hf : k_pointX F O0 v1 = some rr) :
    Meth l Z D n0 P (⟨"MinCircle", "pointX", "(I)I"⟩ : MethodName) prog_1_method_7_code 2 (some .int) R_k_pointX [vR b0, vI v1] [(b0, 4, O0)] sz (QM Z D n0 P (some (vI rr)) [(b0, 4, O0)] sz) := by
  refine Meth.of (plainFor_of_name pn_cls) (Nat.le_of_ble_eq_true rfl) ?_
  show G_k_pointX l Z n0 P 0 [some (vR b0), some (vI v1)] [] [(b0, 4, O0)] sz 0 0 (QM Z D n0 P (some (vI rr)) [(b0, 4, O0)] sz)
  unfold k_pointX at hf
  refine Go.iloadN (pc2 := 1) d_k_pointX_0 rfl rfl ?_
  by_cases hc : v1 < 0
  · replace hf := ifp hc hf
    refine Go.ifT (pc2 := 12) d_k_pointX_1 hc (by decide) (by decide) ?_
    refine Go.iconst (pc2 := 13) d_k_pointX_12 rfl (by decide) ?_
    cases hf
    exact Go.reti d_k_pointX_13 rfl (Nat.le_of_ble_eq_true rfl) (Nat.le_of_ble_eq_true rfl) (fun _ H => ⟨rfl, H⟩)
  · replace hf := ifn hc hf
    refine Go.ifF (pc2 := 4) d_k_pointX_1 hc rfl ?_
    refine Go.iloadN (pc2 := 5) d_k_pointX_4 rfl rfl ?_
    refine Go.aloadN (pc2 := 6) d_k_pointX_5 rfl rfl ?_
    refine Go.getf (pc2 := 9) d_k_pointX_6 rfl rfl D_C (by exact w_31 hw) (q := 0) rfl (x := O0 0 2) (u := vI (O0 0 2)) (fs_n) rfl rfl ?_
    by_cases hc : v1 < O0 0 2
    · replace hf := ifp hc hf
      refine Go.icmpT (pc2 := 14) d_k_pointX_9 hc (by decide) (by decide) ?_
      refine Go.aloadN (pc2 := 15) d_k_pointX_14 rfl rfl ?_
      refine Go.geta (pc2 := 18) d_k_pointX_15 rfl rfl D_C (by exact w_17 hw) (q := 0) rfl (j := 0) rfl (Nat.le_of_ble_eq_true rfl) rfl ?_
      refine Go.iloadN (pc2 := 19) d_k_pointX_18 rfl rfl ?_
      have hb := okb hf
      replace hf := ifp hb hf
      refine Go.iald (pc2 := 20) d_k_pointX_19 rfl (q := 0) rfl (j := 0) rfl (Nat.le_of_ble_eq_true rfl) rfl hb (z := O0 1 v1.toNat) rfl ?_
      cases hf
      exact Go.reti d_k_pointX_20 rfl (Nat.le_of_ble_eq_true rfl) (Nat.le_of_ble_eq_true rfl) (fun _ H => ⟨rfl, H⟩)
    · replace hf := ifn hc hf
      refine Go.icmpF (pc2 := 12) d_k_pointX_9 hc rfl ?_
      refine Go.iconst (pc2 := 13) d_k_pointX_12 rfl (by decide) ?_
      cases hf
      exact Go.reti d_k_pointX_13 rfl (Nat.le_of_ble_eq_true rfl) (Nat.le_of_ble_eq_true rfl) (fun _ H => ⟨rfl, H⟩)
set_option maxRecDepth 65536 in
set_option maxHeartbeats 4000000 in
theorem th_k_pointY {l : Launch} {Z : State} {a0 : Array Value} (hw : ∀ d ∈ tables_1, d.before a0 Z = true) {n0 : Nat} {P : Heap → Prop} {F : Nat} {b0 sz : Nat} {rr : Int} {O0 : Mo} {v1 : Int} (hf : k_pointY F O0 v1 = some rr) :
    Meth l Z D n0 P (⟨"MinCircle", "pointY", "(I)I"⟩ : MethodName) prog_1_method_8_code 2 (some .int) R_k_pointY [vR b0, vI v1] [(b0, 4, O0)] sz (QM Z D n0 P (some (vI rr)) [(b0, 4, O0)] sz) := by
  refine Meth.of (plainFor_of_name pn_cls) (Nat.le_of_ble_eq_true rfl) ?_
  show G_k_pointY l Z n0 P 0 [some (vR b0), some (vI v1)] [] [(b0, 4, O0)] sz 0 0 (QM Z D n0 P (some (vI rr)) [(b0, 4, O0)] sz)
  unfold k_pointY at hf
  refine Go.iloadN (pc2 := 1) d_k_pointY_0 rfl rfl ?_
  by_cases hc : v1 < 0
  · replace hf := ifp hc hf
    refine Go.ifT (pc2 := 12) d_k_pointY_1 hc (by decide) (by decide) ?_
    refine Go.iconst (pc2 := 13) d_k_pointY_12 rfl (by decide) ?_
    cases hf
    exact Go.reti d_k_pointY_13 rfl (Nat.le_of_ble_eq_true rfl) (Nat.le_of_ble_eq_true rfl) (fun _ H => ⟨rfl, H⟩)
  · replace hf := ifn hc hf
    refine Go.ifF (pc2 := 4) d_k_pointY_1 hc rfl ?_
    refine Go.iloadN (pc2 := 5) d_k_pointY_4 rfl rfl ?_
    refine Go.aloadN (pc2 := 6) d_k_pointY_5 rfl rfl ?_
    refine Go.getf (pc2 := 9) d_k_pointY_6 rfl rfl D_C (by exact w_31 hw) (q := 0) rfl (x := O0 0 2) (u := vI (O0 0 2)) (fs_n) rfl rfl ?_
    by_cases hc : v1 < O0 0 2
    · replace hf := ifp hc hf
      refine Go.icmpT (pc2 := 14) d_k_pointY_9 hc (by decide) (by decide) ?_
      refine Go.aloadN (pc2 := 15) d_k_pointY_14 rfl rfl ?_
      refine Go.geta (pc2 := 18) d_k_pointY_15 rfl rfl D_C (by exact w_19 hw) (q := 0) rfl (j := 1) rfl (Nat.le_of_ble_eq_true rfl) rfl ?_
      refine Go.iloadN (pc2 := 19) d_k_pointY_18 rfl rfl ?_
      have hb := okb hf
      replace hf := ifp hb hf
      refine Go.iald (pc2 := 20) d_k_pointY_19 rfl (q := 0) rfl (j := 1) rfl (Nat.le_of_ble_eq_true rfl) rfl hb (z := O0 2 v1.toNat) rfl ?_
      cases hf
      exact Go.reti d_k_pointY_20 rfl (Nat.le_of_ble_eq_true rfl) (Nat.le_of_ble_eq_true rfl) (fun _ H => ⟨rfl, H⟩)
    · replace hf := ifn hc hf
      refine Go.icmpF (pc2 := 12) d_k_pointY_9 hc rfl ?_
      refine Go.iconst (pc2 := 13) d_k_pointY_12 rfl (by decide) ?_
      cases hf
      exact Go.reti d_k_pointY_13 rfl (Nat.le_of_ble_eq_true rfl) (Nat.le_of_ble_eq_true rfl) (fun _ H => ⟨rfl, H⟩)
set_option maxRecDepth 65536 in
set_option maxHeartbeats 4000000 in
theorem th_k_locate {l : Launch} {Z : State} {a0 : Array Value} (hw : ∀ d ∈ tables_1, d.before a0 Z = true) {n0 : Nat} {P : Heap → Prop} {b0 sz : Nat} {rr : Int} {O0 : Mo} {v1 v2 : Int} (hf : k_locate O0 v1 v2 = rr) :
    Meth l Z D n0 P (⟨"MinCircle", "locate", "(II)I"⟩ : MethodName) prog_1_method_17_code 5 (some .int) R_k_locate [vR b0, vI v1, vI v2] [(b0, 4, O0)] sz (QM Z D n0 P (some (vI rr)) [(b0, 4, O0)] sz) := by
  refine Meth.of (plainFor_of_name pn_cls) (Nat.le_of_ble_eq_true rfl) ?_
  show G_k_locate l Z n0 P 0 [some (vR b0), some (vI v1), some (vI v2), none, none] [] [(b0, 4, O0)] sz 0 0 (QM Z D n0 P (some (vI rr)) [(b0, 4, O0)] sz)
  unfold k_locate at hf
  refine Go.aloadN (pc2 := 1) d_k_locate_0 rfl rfl ?_
  refine Go.getf (pc2 := 4) d_k_locate_1 rfl rfl D_C (by exact w_33 hw) (q := 0) rfl (x := O0 0 3) (u := vI (O0 0 3)) (fs_solved) rfl rfl ?_
  by_cases hc : O0 0 3 = 0
  · replace hf := ifp hc hf
    refine Go.ifF (pc2 := 7) d_k_locate_4 (fun q => q hc) rfl ?_
    refine Go.iconst (pc2 := 8) d_k_locate_7 rfl (by decide) ?_
    cases hf
    exact Go.reti d_k_locate_8 rfl (Nat.le_of_ble_eq_true rfl) (Nat.le_of_ble_eq_true rfl) (fun _ H => ⟨rfl, H⟩)
  · replace hf := ifn hc hf
    refine Go.ifT (pc2 := 9) d_k_locate_4 hc (by decide) (by decide) ?_
    refine Go.aloadN (pc2 := 10) d_k_locate_9 rfl rfl ?_
    refine Go.iloadN (pc2 := 11) d_k_locate_10 rfl rfl ?_
    refine Go.iloadN (pc2 := 12) d_k_locate_11 rfl rfl ?_
    refine Go.callp (pc2 := 15) (as := [vI v1, vI v2]) (S := []) (w := (some (vI (k_inRange v1 v2)))) (os2 := [(b0, 4, O0)]) (sz2 := sz) (S2 := [vI (k_inRange v1 v2)]) (rm := R_k_inRange) d_k_locate_12 rfl rfl (by exact w_42 hw) (by exact w_44 hw) (by exact w_43 hw) (by exact w_45 hw) rfl (by exact w_2 hw) (by exact w_1 hw) (q := 0) rfl (by decide) pd_k_inRange (by decide) (Nat.le_of_ble_eq_true rfl) (by decide) (by decide) (nc := 0) (ns := 0) rfl rfl rfl (cu2 := 0) rfl (su2 := 0) rfl rfl (Pays.one (q := 0) rfl rfl (fun P2 hP2 => th_k_inRange hw rfl)) rfl ?_
    by_cases hc : k_inRange v1 v2 = 0
    · replace hf := ifp hc hf
      refine Go.ifF (pc2 := 18) d_k_locate_15 (fun q => q hc) rfl ?_
      refine Go.iconst (pc2 := 19) d_k_locate_18 rfl (by decide) ?_
      cases hf
      exact Go.reti d_k_locate_19 rfl (Nat.le_of_ble_eq_true rfl) (Nat.le_of_ble_eq_true rfl) (fun _ H => ⟨rfl, H⟩)
    · replace hf := ifn hc hf
      refine Go.ifT (pc2 := 20) d_k_locate_15 hc (by decide) (by decide) ?_
      refine Go.aloadN (pc2 := 21) d_k_locate_20 rfl rfl ?_
      refine Go.iloadN (pc2 := 22) d_k_locate_21 rfl rfl ?_
      refine Go.iloadN (pc2 := 23) d_k_locate_22 rfl rfl ?_
      refine Go.callp (pc2 := 26) (as := [vI v1, vI v2]) (S := []) (w := (some (vJ (k_pwFinal O0 v1 v2)))) (os2 := [(b0, 4, O0)]) (sz2 := sz) (S2 := [vJ (k_pwFinal O0 v1 v2)]) (rm := R_k_pwFinal) d_k_locate_23 rfl rfl (by exact w_126 hw) (by exact w_128 hw) (by exact w_127 hw) (by exact w_129 hw) rfl (by exact w_2 hw) (by exact w_1 hw) (q := 0) rfl (by decide) pd_k_pwFinal (by decide) (Nat.le_of_ble_eq_true rfl) (by decide) (by decide) (nc := 0) (ns := 0) rfl rfl rfl (cu2 := 0) rfl (su2 := 0) rfl rfl (Pays.one (q := 0) rfl rfl (fun P2 hP2 => th_k_pwFinal hw rfl)) rfl ?_
      refine Go.lstoreN (pc2 := 27) (L2 := [some (vR b0), some (vI v1), some (vI v2), some (vJ (k_pwFinal O0 v1 v2)), none]) d_k_locate_26 rfl (Nat.le_of_ble_eq_true rfl) rfl ?_
      refine Go.lloadN (pc2 := 28) d_k_locate_27 rfl rfl ?_
      refine Go.aloadN (pc2 := 29) d_k_locate_28 rfl rfl ?_
      refine Go.getf (pc2 := 32) d_k_locate_29 rfl rfl D_C (by exact w_130 hw) (q := 0) rfl (x := O0 0 7) (u := vJ (O0 0 7)) (fs_rNum) rfl rfl ?_
      by_cases hc : k_pwFinal O0 v1 v2 < O0 0 7
      · replace hf := ifp hc hf
        refine Go.lcmpF (pc3 := 33) (pc2 := 36) d_k_locate_32 d_k_locate_33 rfl (Int.not_le.mpr hc) rfl ?_
        refine Go.iconst (pc2 := 37) d_k_locate_36 rfl (by decide) ?_
        cases hf
        exact Go.reti d_k_locate_37 rfl (Nat.le_of_ble_eq_true rfl) (Nat.le_of_ble_eq_true rfl) (fun _ H => ⟨rfl, H⟩)
      · replace hf := ifn hc hf
        refine Go.lcmpT (pc3 := 33) (pc2 := 38) d_k_locate_32 d_k_locate_33 rfl (Int.not_lt.mp hc) (by decide) (by decide) ?_
        refine Go.lloadN (pc2 := 39) d_k_locate_38 rfl rfl ?_
        refine Go.aloadN (pc2 := 40) d_k_locate_39 rfl rfl ?_
        refine Go.getf (pc2 := 43) d_k_locate_40 rfl rfl D_C (by exact w_130 hw) (q := 0) rfl (x := O0 0 7) (u := vJ (O0 0 7)) (fs_rNum) rfl rfl ?_
        by_cases hc : k_pwFinal O0 v1 v2 = O0 0 7
        · replace hf := ifp hc hf
          refine Go.lcmpF (pc3 := 44) (pc2 := 47) d_k_locate_43 d_k_locate_44 rfl (fun q => q hc) rfl ?_
          refine Go.iconst (pc2 := 48) d_k_locate_47 rfl (by decide) ?_
          cases hf
          exact Go.reti d_k_locate_48 rfl (Nat.le_of_ble_eq_true rfl) (Nat.le_of_ble_eq_true rfl) (fun _ H => ⟨rfl, H⟩)
        · replace hf := ifn hc hf
          refine Go.lcmpT (pc3 := 44) (pc2 := 49) d_k_locate_43 d_k_locate_44 rfl hc (by decide) (by decide) ?_
          refine Go.iconst (pc2 := 50) d_k_locate_49 rfl (by decide) ?_
          cases hf
          exact Go.reti d_k_locate_50 rfl (Nat.le_of_ble_eq_true rfl) (Nat.le_of_ble_eq_true rfl) (fun _ H => ⟨rfl, H⟩)
set_option maxRecDepth 65536 in
set_option maxHeartbeats 4000000 in
theorem th_k_onBoundary {l : Launch} {Z : State} {a0 : Array Value} (hw : ∀ d ∈ tables_1, d.before a0 Z = true) {n0 : Nat} {P : Heap → Prop} {F : Nat} {b0 sz : Nat} {rr : Int} {O0 : Mo} {v1 : Int} (hf : k_onBoundary F O0 v1 = some rr) :
    Meth l Z D n0 P (⟨"MinCircle", "onBoundary", "(I)Z"⟩ : MethodName) prog_1_method_16_code 2 (some .boolean) R_k_onBoundary [vR b0, vI v1] [(b0, 4, O0)] sz (QM Z D n0 P (some (vI rr)) [(b0, 4, O0)] sz) := by
  refine Meth.of (plainFor_of_name pn_cls) (Nat.le_of_ble_eq_true rfl) ?_
  show G_k_onBoundary l Z n0 P 0 [some (vR b0), some (vI v1)] [] [(b0, 4, O0)] sz 0 0 (QM Z D n0 P (some (vI rr)) [(b0, 4, O0)] sz)
  unfold k_onBoundary at hf
  refine Go.aloadN (pc2 := 1) d_k_onBoundary_0 rfl rfl ?_
  refine Go.getf (pc2 := 4) d_k_onBoundary_1 rfl rfl D_C (by exact w_33 hw) (q := 0) rfl (x := O0 0 3) (u := vI (O0 0 3)) (fs_solved) rfl rfl ?_
  by_cases hc : O0 0 3 = 0
  · replace hf := ifp hc hf
    refine Go.ifT (pc2 := 19) d_k_onBoundary_4 hc (by decide) (by decide) ?_
    refine Go.iconst (pc2 := 20) d_k_onBoundary_19 rfl (by decide) ?_
    cases hf
    exact Go.retz d_k_onBoundary_20 rfl rfl (Nat.le_of_ble_eq_true rfl) (Nat.le_of_ble_eq_true rfl) (fun _ H => ⟨rfl, H⟩)
  · replace hf := ifn hc hf
    refine Go.ifF (pc2 := 7) d_k_onBoundary_4 hc rfl ?_
    refine Go.iloadN (pc2 := 8) d_k_onBoundary_7 rfl rfl ?_
    by_cases hc : v1 < 0
    · replace hf := ifp hc hf
      refine Go.ifT (pc2 := 19) d_k_onBoundary_8 hc (by decide) (by decide) ?_
      refine Go.iconst (pc2 := 20) d_k_onBoundary_19 rfl (by decide) ?_
      cases hf
      exact Go.retz d_k_onBoundary_20 rfl rfl (Nat.le_of_ble_eq_true rfl) (Nat.le_of_ble_eq_true rfl) (fun _ H => ⟨rfl, H⟩)
    · replace hf := ifn hc hf
      refine Go.ifF (pc2 := 11) d_k_onBoundary_8 hc rfl ?_
      refine Go.iloadN (pc2 := 12) d_k_onBoundary_11 rfl rfl ?_
      refine Go.aloadN (pc2 := 13) d_k_onBoundary_12 rfl rfl ?_
      refine Go.getf (pc2 := 16) d_k_onBoundary_13 rfl rfl D_C (by exact w_31 hw) (q := 0) rfl (x := O0 0 2) (u := vI (O0 0 2)) (fs_n) rfl rfl ?_
      by_cases hc : v1 < O0 0 2
      · replace hf := ifp hc hf
        refine Go.icmpT (pc2 := 21) d_k_onBoundary_16 hc (by decide) (by decide) ?_
        refine Go.aloadN (pc2 := 22) d_k_onBoundary_21 rfl rfl ?_
        refine Go.geta (pc2 := 25) d_k_onBoundary_22 rfl rfl D_C (by exact w_24 hw) (q := 0) rfl (j := 3) rfl (Nat.le_of_ble_eq_true rfl) rfl ?_
        refine Go.iloadN (pc2 := 26) d_k_onBoundary_25 rfl rfl ?_
        have hb := okb hf
        replace hf := ifp hb hf
        refine Go.zald (pc2 := 27) d_k_onBoundary_26 rfl (q := 0) rfl (j := 3) rfl (Nat.le_of_ble_eq_true rfl) rfl hb (z := O0 4 v1.toNat) rfl ?_
        cases hf
        exact Go.retz d_k_onBoundary_27 rfl rfl (Nat.le_of_ble_eq_true rfl) (Nat.le_of_ble_eq_true rfl) (fun _ H => ⟨rfl, H⟩)
      · replace hf := ifn hc hf
        refine Go.icmpF (pc2 := 19) d_k_onBoundary_16 hc rfl ?_
        refine Go.iconst (pc2 := 20) d_k_onBoundary_19 rfl (by decide) ?_
        cases hf
        exact Go.retz d_k_onBoundary_20 rfl rfl (Nat.le_of_ble_eq_true rfl) (Nat.le_of_ble_eq_true rfl) (fun _ H => ⟨rfl, H⟩)
set_option maxRecDepth 65536 in
set_option maxHeartbeats 4000000 in
theorem th_k_boundaryCount {l : Launch} {Z : State} {a0 : Array Value} (hw : ∀ d ∈ tables_1, d.before a0 Z = true) {n0 : Nat} {P : Heap → Prop} {b0 sz : Nat} {rr : Int} {O0 : Mo} (hf : k_boundaryCount O0 = rr) :
    Meth l Z D n0 P (⟨"MinCircle", "boundaryCount", "()I"⟩ : MethodName) prog_1_method_15_code 1 (some .int) R_k_boundaryCount [vR b0] [(b0, 4, O0)] sz (QM Z D n0 P (some (vI rr)) [(b0, 4, O0)] sz) := by
  refine Meth.of (plainFor_of_name pn_cls) (Nat.le_of_ble_eq_true rfl) ?_
  show G_k_boundaryCount l Z n0 P 0 [some (vR b0)] [] [(b0, 4, O0)] sz 0 0 (QM Z D n0 P (some (vI rr)) [(b0, 4, O0)] sz)
  unfold k_boundaryCount at hf
  refine Go.aloadN (pc2 := 1) d_k_boundaryCount_0 rfl rfl ?_
  refine Go.getf (pc2 := 4) d_k_boundaryCount_1 rfl rfl D_C (by exact w_33 hw) (q := 0) rfl (x := O0 0 3) (u := vI (O0 0 3)) (fs_solved) rfl rfl ?_
  by_cases hc : O0 0 3 = 0
  · replace hf := ifp hc hf
    refine Go.ifT (pc2 := 14) d_k_boundaryCount_4 hc (by decide) (by decide) ?_
    refine Go.iconst (pc2 := 15) d_k_boundaryCount_14 rfl (by decide) ?_
    cases hf
    exact Go.reti d_k_boundaryCount_15 rfl (Nat.le_of_ble_eq_true rfl) (Nat.le_of_ble_eq_true rfl) (fun _ H => ⟨rfl, H⟩)
  · replace hf := ifn hc hf
    refine Go.ifF (pc2 := 7) d_k_boundaryCount_4 hc rfl ?_
    refine Go.aloadN (pc2 := 8) d_k_boundaryCount_7 rfl rfl ?_
    refine Go.getf (pc2 := 11) d_k_boundaryCount_8 rfl rfl D_C (by exact w_132 hw) (q := 0) rfl (x := O0 0 9) (u := vI (O0 0 9)) (fs_bCount) rfl rfl ?_
    refine Go.goto (pc2 := 15) d_k_boundaryCount_11 (by decide) (by decide) ?_
    cases hf
    exact Go.reti d_k_boundaryCount_15 rfl (Nat.le_of_ble_eq_true rfl) (Nat.le_of_ble_eq_true rfl) (fun _ H => ⟨rfl, H⟩)
set_option maxRecDepth 65536 in
set_option maxHeartbeats 4000000 in
theorem ti_u_check_108 {l : Launch} {Z : State} {a0 : Array Value} (hw : ∀ d ∈ tables_1, d.before a0 Z = true) {n0 : Nat} {P : Heap → Prop} {F : Nat} {b0 sz : Nat} {rr : Int} {c58_1 c58_3 c58_5 c58_9 : Int} {O0 : Mo} {v10 v11 s0 : Int} {x : (Int × Int) ⊕ (Int ⊕ Int)} (hf : i_u_check_108 F O0 c58_1 c58_3 c58_5 c58_9 v10 v11 s0 = some x) (K : Sum.elim (fun s => G_u_check l Z n0 P 58 [some (vR b0), some (vJ c58_1), none, some (vJ c58_3), none, some (vJ c58_5), none, none, none, some (vI c58_9), some (vI s.1), some (vI s.2), none, none, none, none, none, none, none, none, none, none, none, none, none, none] [] [(b0, 4, O0)] sz 0 0 (QM Z D n0 P (some (vI rr)) [(b0, 4, O0)] sz)) (Sum.elim (fun rz => G_u_check l Z n0 P 137 [some (vR b0), some (vJ c58_1), none, some (vJ c58_3), none, some (vJ c58_5), none, none, none, some (vI c58_9), some (vI rz), none, none, none, none, none, none, none, none, none, none, none, none, none, none, none] [] [(b0, 4, O0)] sz 0 0 (QM Z D n0 P (some (vI rr)) [(b0, 4, O0)] sz)) (fun rz => rz = rr)) x) :
    G_u_check l Z n0 P 108 [some (vR b0), some (vJ c58_1), none, some (vJ c58_3), none, some (vJ c58_5), none, none, none, some (vI c58_9), some (vI v10), some (vI v11), none, none, none, none, none, none, none, none, none, none, none, none, none, none] [vI s0] [(b0, 4, O0)] sz 0 0 (QM Z D n0 P (some (vI rr)) [(b0, 4, O0)] sz) := by
  unfold i_u_check_108 at hf
  refine Go.istore (pc2 := 110) (L2 := [some (vR b0), some (vJ c58_1), none, some (vJ c58_3), none, some (vJ c58_5), none, none, none, some (vI c58_9), some (vI v10), some (vI v11), none, some (vI s0), none, none, none, none, none, none, none, none, none, none, none, none]) d_u_check_108 rfl (Nat.le_of_ble_eq_true rfl) rfl ?_
  refine Go.aloadN (pc2 := 111) d_u_check_110 rfl rfl ?_
  refine Go.iload (pc2 := 113) d_u_check_111 rfl rfl ?_
  refine bind_in hf ?_
  clear hf
  intro r h_r hf
  refine Go.callv (pc2 := 116) (as := [vI v11]) (S := []) (w := (some (vI r))) (os2 := [(b0, 4, O0)]) (sz2 := sz) (S2 := [vI r]) (rm := R_k_onBoundary) d_u_check_113 rfl rfl (by exact w_180 hw) (by exact w_181 hw) D_C (by exact w_183 hw) (by exact w_182 hw) (by exact w_184 hw) rfl (by exact w_2 hw) (q := 0) rfl (by decide) pd_k_onBoundary (by decide) (Nat.le_of_ble_eq_true rfl) (by decide) (by decide) (nc := 0) (ns := 0) rfl rfl rfl (cu2 := 0) rfl (su2 := 0) rfl rfl (Pays.one (q := 0) rfl rfl (fun P2 hP2 => th_k_onBoundary hw h_r)) rfl ?_
  refine Go.iload (pc2 := 118) d_u_check_116 rfl rfl ?_
  by_cases hc : r = s0
  · replace hf := ifp hc hf
    refine Go.icmpT (pc2 := 123) d_u_check_118 hc (by decide) (by decide) ?_
    refine Go.iload (pc2 := 125) d_u_check_123 rfl rfl ?_
    by_cases hc : s0 = 0
    · replace hf := ifp hc hf
      refine Go.ifT (pc2 := 131) d_u_check_125 hc (by decide) (by decide) ?_
      refine Go.iinc (pc2 := 134) (L2 := [some (vR b0), some (vJ c58_1), none, some (vJ c58_3), none, some (vJ c58_5), none, none, none, some (vI c58_9), some (vI v10), some (vI (w32 (v11 + 1))), none, some (vI s0), none, none, none, none, none, none, none, none, none, none, none, none]) d_u_check_131 rfl rfl rfl ?_
      refine Go.goto (pc2 := 58) d_u_check_134 (by decide) (by decide) ?_
      cases hf
      exact Go.mask [true, true, true, true, true, true, true, true, true, true, true, true, true, false, true, true, true, true, true, true, true, true, true, true, true, true] K
    · replace hf := ifn hc hf
      refine Go.ifF (pc2 := 128) d_u_check_125 hc rfl ?_
      refine Go.iinc (pc2 := 131) (L2 := [some (vR b0), some (vJ c58_1), none, some (vJ c58_3), none, some (vJ c58_5), none, none, none, some (vI c58_9), some (vI (w32 (v10 + 1))), some (vI v11), none, some (vI s0), none, none, none, none, none, none, none, none, none, none, none, none]) d_u_check_128 rfl rfl rfl ?_
      refine Go.iinc (pc2 := 134) (L2 := [some (vR b0), some (vJ c58_1), none, some (vJ c58_3), none, some (vJ c58_5), none, none, none, some (vI c58_9), some (vI (w32 (v10 + 1))), some (vI (w32 (v11 + 1))), none, some (vI s0), none, none, none, none, none, none, none, none, none, none, none, none]) d_u_check_131 rfl rfl rfl ?_
      refine Go.goto (pc2 := 58) d_u_check_134 (by decide) (by decide) ?_
      cases hf
      exact Go.mask [true, true, true, true, true, true, true, true, true, true, true, true, true, false, true, true, true, true, true, true, true, true, true, true, true, true] K
  · replace hf := ifn hc hf
    refine Go.icmpF (pc2 := 121) d_u_check_118 hc rfl ?_
    refine Go.iconst (pc2 := 122) d_u_check_121 rfl (by decide) ?_
    cases hf
    replace K : 0 = rr := K
    cases K
    exact Go.retz d_u_check_122 rfl rfl (Nat.le_of_ble_eq_true rfl) (Nat.le_of_ble_eq_true rfl) (fun _ H => ⟨rfl, H⟩)
set_option maxRecDepth 65536 in
set_option maxHeartbeats 4000000 in
theorem ti_u_check_97 {l : Launch} {Z : State} {a0 : Array Value} (hw : ∀ d ∈ tables_1, d.before a0 Z = true) {n0 : Nat} {P : Heap → Prop} {F : Nat} {b0 sz : Nat} {rr : Int} {c58_1 c58_3 c58_5 c58_9 : Int} {O0 : Mo} {v10 v11 v12 : Int} {x : (Int × Int) ⊕ (Int ⊕ Int)} (hf : i_u_check_97 F O0 c58_1 c58_3 c58_5 c58_9 v10 v11 v12 = some x) (K : Sum.elim (fun s => G_u_check l Z n0 P 58 [some (vR b0), some (vJ c58_1), none, some (vJ c58_3), none, some (vJ c58_5), none, none, none, some (vI c58_9), some (vI s.1), some (vI s.2), none, none, none, none, none, none, none, none, none, none, none, none, none, none] [] [(b0, 4, O0)] sz 0 0 (QM Z D n0 P (some (vI rr)) [(b0, 4, O0)] sz)) (Sum.elim (fun rz => G_u_check l Z n0 P 137 [some (vR b0), some (vJ c58_1), none, some (vJ c58_3), none, some (vJ c58_5), none, none, none, some (vI c58_9), some (vI rz), none, none, none, none, none, none, none, none, none, none, none, none, none, none, none] [] [(b0, 4, O0)] sz 0 0 (QM Z D n0 P (some (vI rr)) [(b0, 4, O0)] sz)) (fun rz => rz = rr)) x) :
    G_u_check l Z n0 P 97 [some (vR b0), some (vJ c58_1), none, some (vJ c58_3), none, some (vJ c58_5), none, none, none, some (vI c58_9), some (vI v10), some (vI v11), some (vI v12), none, none, none, none, none, none, none, none, none, none, none, none, none] [] [(b0, 4, O0)] sz 0 0 (QM Z D n0 P (some (vI rr)) [(b0, 4, O0)] sz) := by
  unfold i_u_check_97 at hf
  refine Go.iload (pc2 := 99) d_u_check_97 rfl rfl ?_
  refine Go.iconst (pc2 := 100) d_u_check_99 rfl (by decide) ?_
  by_cases hc : v12 = 2
  · replace hf := ifp hc hf
    refine Go.icmpF (pc2 := 103) d_u_check_100 (fun q => q hc) rfl ?_
    refine Go.iconst (pc2 := 104) d_u_check_103 rfl (by decide) ?_
    refine Go.goto (pc2 := 108) d_u_check_104 (by decide) (by decide) ?_
    exact Go.mask [true, true, true, true, true, true, true, true, true, true, true, true, false, true, true, true, true, true, true, true, true, true, true, true, true, true] (ti_u_check_108 hw hf K)
  · replace hf := ifn hc hf
    refine Go.icmpT (pc2 := 107) d_u_check_100 hc (by decide) (by decide) ?_
    refine Go.iconst (pc2 := 108) d_u_check_107 rfl (by decide) ?_
    exact Go.mask [true, true, true, true, true, true, true, true, true, true, true, true, false, true, true, true, true, true, true, true, true, true, true, true, true, true] (ti_u_check_108 hw hf K)
set_option maxRecDepth 65536 in
set_option maxHeartbeats 4000000 in
theorem tb_u_check_58 {l : Launch} {Z : State} {a0 : Array Value} (hw : ∀ d ∈ tables_1, d.before a0 Z = true) {n0 : Nat} {P : Heap → Prop} {F : Nat} {b0 sz : Nat} {rr : Int} {c58_1 c58_3 c58_5 c58_9 : Int} {O0 : Mo} {v10 v11 : Int} {x : (Int × Int) ⊕ (Int ⊕ Int)} (hf : b_u_check_58 F O0 c58_1 c58_3 c58_5 c58_9 v10 v11 = some x) (K : Sum.elim (fun s => G_u_check l Z n0 P 58 [some (vR b0), some (vJ c58_1), none, some (vJ c58_3), none, some (vJ c58_5), none, none, none, some (vI c58_9), some (vI s.1), some (vI s.2), none, none, none, none, none, none, none, none, none, none, none, none, none, none] [] [(b0, 4, O0)] sz 0 0 (QM Z D n0 P (some (vI rr)) [(b0, 4, O0)] sz)) (Sum.elim (fun rz => G_u_check l Z n0 P 137 [some (vR b0), some (vJ c58_1), none, some (vJ c58_3), none, some (vJ c58_5), none, none, none, some (vI c58_9), some (vI rz), none, none, none, none, none, none, none, none, none, none, none, none, none, none, none] [] [(b0, 4, O0)] sz 0 0 (QM Z D n0 P (some (vI rr)) [(b0, 4, O0)] sz)) (fun rz => rz = rr)) x) :
    G_u_check l Z n0 P 58 [some (vR b0), some (vJ c58_1), none, some (vJ c58_3), none, some (vJ c58_5), none, none, none, some (vI c58_9), some (vI v10), some (vI v11), none, none, none, none, none, none, none, none, none, none, none, none, none, none] [] [(b0, 4, O0)] sz 0 0 (QM Z D n0 P (some (vI rr)) [(b0, 4, O0)] sz) := by
  unfold b_u_check_58 at hf
  refine Go.iload (pc2 := 60) d_u_check_58 rfl rfl ?_
  refine Go.iload (pc2 := 62) d_u_check_60 rfl rfl ?_
  by_cases hc : v11 < c58_9
  · replace hf := ifp hc hf
    refine Go.icmpF (pc2 := 65) d_u_check_62 (Int.not_le.mpr hc) rfl ?_
    refine Go.aloadN (pc2 := 66) d_u_check_65 rfl rfl ?_
    refine Go.aloadN (pc2 := 67) d_u_check_66 rfl rfl ?_
    refine Go.iload (pc2 := 69) d_u_check_67 rfl rfl ?_
    refine bind_in hf ?_
    clear hf
    intro r_1 h_r_1 hf
    refine Go.callv (pc2 := 72) (as := [vI v11]) (S := [vR b0]) (w := (some (vI r_1))) (os2 := [(b0, 4, O0)]) (sz2 := sz) (S2 := [vI r_1, vR b0]) (rm := R_k_pointX) d_u_check_69 rfl rfl (by exact w_165 hw) (by exact w_166 hw) D_C (by exact w_168 hw) (by exact w_167 hw) (by exact w_169 hw) rfl (by exact w_2 hw) (q := 0) rfl (by decide) pd_k_pointX (by decide) (Nat.le_of_ble_eq_true rfl) (by decide) (by decide) (nc := 0) (ns := 0) rfl rfl rfl (cu2 := 0) rfl (su2 := 0) rfl rfl (Pays.one (q := 0) rfl rfl (fun P2 hP2 => th_k_pointX hw h_r_1)) rfl ?_
    refine Go.aloadN (pc2 := 73) d_u_check_72 rfl rfl ?_
    refine Go.iload (pc2 := 75) d_u_check_73 rfl rfl ?_
    refine bind_in hf ?_
    clear hf
    intro r_2 h_r_2 hf
    refine Go.callv (pc2 := 78) (as := [vI v11]) (S := [vI r_1, vR b0]) (w := (some (vI r_2))) (os2 := [(b0, 4, O0)]) (sz2 := sz) (S2 := [vI r_2, vI r_1, vR b0]) (rm := R_k_pointY) d_u_check_75 rfl rfl (by exact w_170 hw) (by exact w_171 hw) D_C (by exact w_173 hw) (by exact w_172 hw) (by exact w_174 hw) rfl (by exact w_2 hw) (q := 0) rfl (by decide) pd_k_pointY (by decide) (Nat.le_of_ble_eq_true rfl) (by decide) (by decide) (nc := 0) (ns := 0) rfl rfl rfl (cu2 := 0) rfl (su2 := 0) rfl rfl (Pays.one (q := 0) rfl rfl (fun P2 hP2 => th_k_pointY hw h_r_2)) rfl ?_
    refine Go.callv (pc2 := 81) (as := [vI r_1, vI r_2]) (S := []) (w := (some (vI (k_locate O0 r_1 r_2)))) (os2 := [(b0, 4, O0)]) (sz2 := sz) (S2 := [vI (k_locate O0 r_1 r_2)]) (rm := R_k_locate) d_u_check_78 rfl rfl (by exact w_175 hw) (by exact w_176 hw) D_C (by exact w_178 hw) (by exact w_177 hw) (by exact w_179 hw) rfl (by exact w_2 hw) (q := 0) rfl (by decide) pd_k_locate (by decide) (Nat.le_of_ble_eq_true rfl) (by decide) (by decide) (nc := 0) (ns := 0) rfl rfl rfl (cu2 := 0) rfl (su2 := 0) rfl rfl (Pays.one (q := 0) rfl rfl (fun P2 hP2 => th_k_locate hw rfl)) rfl ?_
    refine Go.istore (pc2 := 83) (L2 := [some (vR b0), some (vJ c58_1), none, some (vJ c58_3), none, some (vJ c58_5), none, none, none, some (vI c58_9), some (vI v10), some (vI v11), some (vI (k_locate O0 r_1 r_2)), none, none, none, none, none, none, none, none, none, none, none, none, none]) d_u_check_81 rfl (Nat.le_of_ble_eq_true rfl) rfl ?_
    refine Go.iload (pc2 := 85) d_u_check_83 rfl rfl ?_
    refine Go.iconst (pc2 := 86) d_u_check_85 rfl (by decide) ?_
    by_cases hc : k_locate O0 r_1 r_2 = 1
    · replace hf := ifp hc hf
      refine Go.icmpT (pc2 := 97) d_u_check_86 hc (by decide) (by decide) ?_
      exact ti_u_check_97 hw hf K
    · replace hf := ifn hc hf
      refine Go.icmpF (pc2 := 89) d_u_check_86 hc rfl ?_
      refine Go.iload (pc2 := 91) d_u_check_89 rfl rfl ?_
      refine Go.iconst (pc2 := 92) d_u_check_91 rfl (by decide) ?_
      by_cases hc : k_locate O0 r_1 r_2 = 2
      · replace hf := ifp hc hf
        refine Go.icmpT (pc2 := 97) d_u_check_92 hc (by decide) (by decide) ?_
        exact ti_u_check_97 hw hf K
      · replace hf := ifn hc hf
        refine Go.icmpF (pc2 := 95) d_u_check_92 hc rfl ?_
        refine Go.iconst (pc2 := 96) d_u_check_95 rfl (by decide) ?_
        cases hf
        replace K : 0 = rr := K
        cases K
        exact Go.retz d_u_check_96 rfl rfl (Nat.le_of_ble_eq_true rfl) (Nat.le_of_ble_eq_true rfl) (fun _ H => ⟨rfl, H⟩)
  · replace hf := ifn hc hf
    refine Go.icmpT (pc2 := 137) d_u_check_62 (Int.not_lt.mp hc) (by decide) (by decide) ?_
    cases hf
    exact Go.mask [true, true, true, true, true, true, true, true, true, true, true, false, true, true, true, true, true, true, true, true, true, true, true, true, true, true] K
set_option maxRecDepth 65536 in
set_option maxHeartbeats 4000000 in
theorem tb_u_check_226 {l : Launch} {Z : State} {a0 : Array Value} (hw : ∀ d ∈ tables_1, d.before a0 Z = true) {n0 : Nat} {P : Heap → Prop} {F : Nat} {b0 sz : Nat} {rr : Int} {c226_1 c226_3 c226_5 c226_9 c226_11 c226_12 c226_14 c226_16 : Int} {O0 : Mo} {v17 : Int} {x : Int ⊕ (Unit ⊕ (Unit ⊕ Unit))} (hf : b_u_check_226 F O0 c226_1 c226_3 c226_5 c226_9 c226_11 c226_12 c226_14 c226_16 v17 = some x) (K : Sum.elim (fun s => G_u_check l Z n0 P 226 [some (vR b0), some (vJ c226_1), none, some (vJ c226_3), none, some (vJ c226_5), none, none, none, some (vI c226_9), none, some (vI c226_11), some (vJ c226_12), none, some (vJ c226_14), none, some (vI c226_16), some (vI s), none, none, none, none, none, none, none, none] [] [(b0, 4, O0)] sz 0 0 (QM Z D n0 P (some (vI rr)) [(b0, 4, O0)] sz)) (Sum.elim (fun rz => G_u_check l Z n0 P 335 [some (vR b0), some (vJ c226_1), none, some (vJ c226_3), none, some (vJ c226_5), none, none, none, some (vI c226_9), none, some (vI c226_11), none, none, none, none, some (vI c226_16), none, none, none, none, none, none, none, none, none] [] [(b0, 4, O0)] sz 0 0 (QM Z D n0 P (some (vI rr)) [(b0, 4, O0)] sz)) (Sum.elim (fun rz => G_u_check l Z n0 P 294 [some (vR b0), some (vJ c226_1), none, some (vJ c226_3), none, some (vJ c226_5), none, none, none, some (vI c226_9), none, some (vI c226_11), none, none, none, none, none, none, none, none, none, none, none, none, none, none] [] [(b0, 4, O0)] sz 0 0 (QM Z D n0 P (some (vI rr)) [(b0, 4, O0)] sz)) (fun rz => G_u_check l Z n0 P 323 [some (vR b0), some (vJ c226_1), none, some (vJ c226_3), none, some (vJ c226_5), none, none, none, some (vI c226_9), none, some (vI c226_11), none, none, none, none, none, none, none, none, none, none, none, none, none, none] [] [(b0, 4, O0)] sz 0 0 (QM Z D n0 P (some (vI rr)) [(b0, 4, O0)] sz)))) x) :
    G_u_check l Z n0 P 226 [some (vR b0), some (vJ c226_1), none, some (vJ c226_3), none, some (vJ c226_5), none, none, none, some (vI c226_9), none, some (vI c226_11), some (vJ c226_12), none, some (vJ c226_14), none, some (vI c226_16), some (vI v17), none, none, none, none, none, none, none, none] [] [(b0, 4, O0)] sz 0 0 (QM Z D n0 P (some (vI rr)) [(b0, 4, O0)] sz) := by
  unfold b_u_check_226 at hf
  refine Go.iload (pc2 := 228) d_u_check_226 rfl rfl ?_
  refine Go.iload (pc2 := 230) d_u_check_228 rfl rfl ?_
  by_cases hc : v17 < c226_9
  · replace hf := ifp hc hf
    refine Go.icmpF (pc2 := 233) d_u_check_230 (Int.not_le.mpr hc) rfl ?_
    refine Go.aloadN (pc2 := 234) d_u_check_233 rfl rfl ?_
    refine Go.iload (pc2 := 236) d_u_check_234 rfl rfl ?_
    refine bind_in hf ?_
    clear hf
    intro r_1 h_r_1 hf
    refine Go.callv (pc2 := 239) (as := [vI v17]) (S := []) (w := (some (vI r_1))) (os2 := [(b0, 4, O0)]) (sz2 := sz) (S2 := [vI r_1]) (rm := R_k_onBoundary) d_u_check_236 rfl rfl (by exact w_180 hw) (by exact w_181 hw) D_C (by exact w_183 hw) (by exact w_182 hw) (by exact w_184 hw) rfl (by exact w_2 hw) (q := 0) rfl (by decide) pd_k_onBoundary (by decide) (Nat.le_of_ble_eq_true rfl) (by decide) (by decide) (nc := 0) (ns := 0) rfl rfl rfl (cu2 := 0) rfl (su2 := 0) rfl rfl (Pays.one (q := 0) rfl rfl (fun P2 hP2 => th_k_onBoundary hw h_r_1)) rfl ?_
    by_cases hc : r_1 = 0
    · replace hf := ifp hc hf
      refine Go.ifF (pc2 := 242) d_u_check_239 (fun q => q hc) rfl ?_
      refine Go.goto (pc2 := 329) d_u_check_242 (by decide) (by decide) ?_
      refine Go.iinc (pc2 := 332) (L2 := [some (vR b0), some (vJ c226_1), none, some (vJ c226_3), none, some (vJ c226_5), none, none, none, some (vI c226_9), none, some (vI c226_11), some (vJ c226_12), none, some (vJ c226_14), none, some (vI c226_16), some (vI (w32 (v17 + 1))), none, none, none, none, none, none, none, none]) d_u_check_329 rfl rfl rfl ?_
      refine Go.goto (pc2 := 226) d_u_check_332 (by decide) (by decide) ?_
      cases hf
      exact K
    · replace hf := ifn hc hf
      refine Go.ifT (pc2 := 245) d_u_check_239 hc (by decide) (by decide) ?_
      refine Go.aloadN (pc2 := 246) d_u_check_245 rfl rfl ?_
      refine Go.iload (pc2 := 248) d_u_check_246 rfl rfl ?_
      refine bind_in hf ?_
      clear hf
      intro r_2 h_r_2 hf
      refine Go.callv (pc2 := 251) (as := [vI v17]) (S := []) (w := (some (vI r_2))) (os2 := [(b0, 4, O0)]) (sz2 := sz) (S2 := [vI r_2]) (rm := R_k_pointX) d_u_check_248 rfl rfl (by exact w_165 hw) (by exact w_166 hw) D_C (by exact w_168 hw) (by exact w_167 hw) (by exact w_169 hw) rfl (by exact w_2 hw) (q := 0) rfl (by decide) pd_k_pointX (by decide) (Nat.le_of_ble_eq_true rfl) (by decide) (by decide) (nc := 0) (ns := 0) rfl rfl rfl (cu2 := 0) rfl (su2 := 0) rfl rfl (Pays.one (q := 0) rfl rfl (fun P2 hP2 => th_k_pointX hw h_r_2)) rfl ?_
      refine Go.i2l (pc2 := 252) d_u_check_251 rfl ?_
      refine Go.lloadN (pc2 := 253) d_u_check_252 rfl rfl ?_
      refine Go.lmul (pc2 := 254) d_u_check_253 rfl ?_
      refine Go.lloadN (pc2 := 255) d_u_check_254 rfl rfl ?_
      refine Go.lsub (pc2 := 256) d_u_check_255 rfl ?_
      refine Go.lstore (pc2 := 258) (L2 := [some (vR b0), some (vJ c226_1), none, some (vJ c226_3), none, some (vJ c226_5), none, none, none, some (vI c226_9), none, some (vI c226_11), some (vJ c226_12), none, some (vJ c226_14), none, some (vI c226_16), some (vI v17), some (vJ (w64 ((w64 (r_2 * c226_1)) - c226_3))), none, none, none, none, none, none, none]) d_u_check_256 rfl (Nat.le_of_ble_eq_true rfl) rfl ?_
      refine lt_in hf (G := fun v18 => G_u_check l Z n0 P 258 [some (vR b0), some (vJ c226_1), none, some (vJ c226_3), none, some (vJ c226_5), none, none, none, some (vI c226_9), none, some (vI c226_11), some (vJ c226_12), none, some (vJ c226_14), none, some (vI c226_16), some (vI v17), some (vJ v18), none, none, none, none, none, none, none] [] [(b0, 4, O0)] sz 0 0 (QM Z D n0 P (some (vI rr)) [(b0, 4, O0)] sz)) ?_
      clear hf
      intro v18 hf
      refine Go.aloadN (pc2 := 259) d_u_check_258 rfl rfl ?_
      refine Go.iload (pc2 := 261) d_u_check_259 rfl rfl ?_
      refine bind_in hf ?_
      clear hf
      intro r_3 h_r_3 hf
      refine Go.callv (pc2 := 264) (as := [vI v17]) (S := []) (w := (some (vI r_3))) (os2 := [(b0, 4, O0)]) (sz2 := sz) (S2 := [vI r_3]) (rm := R_k_pointY) d_u_check_261 rfl rfl (by exact w_170 hw) (by exact w_171 hw) D_C (by exact w_173 hw) (by exact w_172 hw) (by exact w_174 hw) rfl (by exact w_2 hw) (q := 0) rfl (by decide) pd_k_pointY (by decide) (Nat.le_of_ble_eq_true rfl) (by decide) (by decide) (nc := 0) (ns := 0) rfl rfl rfl (cu2 := 0) rfl (su2 := 0) rfl rfl (Pays.one (q := 0) rfl rfl (fun P2 hP2 => th_k_pointY hw h_r_3)) rfl ?_
      refine Go.i2l (pc2 := 265) d_u_check_264 rfl ?_
      refine Go.lloadN (pc2 := 266) d_u_check_265 rfl rfl ?_
      refine Go.lmul (pc2 := 267) d_u_check_266 rfl ?_
      refine Go.lload (pc2 := 269) d_u_check_267 rfl rfl ?_
      refine Go.lsub (pc2 := 270) d_u_check_269 rfl ?_
      refine Go.lstore (pc2 := 272) (L2 := [some (vR b0), some (vJ c226_1), none, some (vJ c226_3), none, some (vJ c226_5), none, none, none, some (vI c226_9), none, some (vI c226_11), some (vJ c226_12), none, some (vJ c226_14), none, some (vI c226_16), some (vI v17), some (vJ v18), none, some (vJ (w64 ((w64 (r_3 * c226_1)) - c226_5))), none, none, none, none, none]) d_u_check_270 rfl (Nat.le_of_ble_eq_true rfl) rfl ?_
      refine lt_in hf (G := fun v20 => G_u_check l Z n0 P 272 [some (vR b0), some (vJ c226_1), none, some (vJ c226_3), none, some (vJ c226_5), none, none, none, some (vI c226_9), none, some (vI c226_11), some (vJ c226_12), none, some (vJ c226_14), none, some (vI c226_16), some (vI v17), some (vJ v18), none, some (vJ v20), none, none, none, none, none] [] [(b0, 4, O0)] sz 0 0 (QM Z D n0 P (some (vI rr)) [(b0, 4, O0)] sz)) ?_
      clear hf
      intro v20 hf
      refine Go.lload (pc2 := 274) d_u_check_272 rfl rfl ?_
      refine Go.lload (pc2 := 276) d_u_check_274 rfl rfl ?_
      refine Go.lmul (pc2 := 277) d_u_check_276 rfl ?_
      refine Go.lstore (pc2 := 279) (L2 := [some (vR b0), some (vJ c226_1), none, some (vJ c226_3), none, some (vJ c226_5), none, none, none, some (vI c226_9), none, some (vI c226_11), some (vJ c226_12), none, some (vJ c226_14), none, some (vI c226_16), some (vI v17), some (vJ v18), none, some (vJ v20), none, some (vJ (w64 (c226_12 * v20))), none, none, none]) d_u_check_277 rfl (Nat.le_of_ble_eq_true rfl) rfl ?_
      refine Go.lload (pc2 := 281) d_u_check_279 rfl rfl ?_
      refine Go.lload (pc2 := 283) d_u_check_281 rfl rfl ?_
      refine Go.lmul (pc2 := 284) d_u_check_283 rfl ?_
      refine Go.lstore (pc2 := 286) (L2 := [some (vR b0), some (vJ c226_1), none, some (vJ c226_3), none, some (vJ c226_5), none, none, none, some (vI c226_9), none, some (vI c226_11), some (vJ c226_12), none, some (vJ c226_14), none, some (vI c226_16), some (vI v17), some (vJ v18), none, some (vJ v20), none, some (vJ (w64 (c226_12 * v20))), none, some (vJ (w64 (c226_14 * v18))), none]) d_u_check_284 rfl (Nat.le_of_ble_eq_true rfl) rfl ?_
      refine Go.lload (pc2 := 288) d_u_check_286 rfl rfl ?_
      refine Go.lload (pc2 := 290) d_u_check_288 rfl rfl ?_
      by_cases hc : w64 (c226_12 * v20) < w64 (c226_14 * v18)
      · replace hf := ifp hc hf
        refine Go.lcmpF (pc3 := 291) (pc2 := 294) d_u_check_290 d_u_check_291 rfl (Int.not_le.mpr hc) rfl ?_
        cases hf
        exact Go.mask [true, true, true, true, true, true, true, true, true, true, true, true, false, true, false, true, false, false, false, true, false, true, false, true, false, true] K
      · replace hf := ifn hc hf
        refine Go.lcmpT (pc3 := 291) (pc2 := 300) d_u_check_290 d_u_check_291 rfl (Int.not_lt.mp hc) (by decide) (by decide) ?_
        refine Go.lload (pc2 := 302) d_u_check_300 rfl rfl ?_
        refine Go.lload (pc2 := 304) d_u_check_302 rfl rfl ?_
        by_cases hc : w64 (c226_12 * v20) = w64 (c226_14 * v18)
        · replace hf := ifp hc hf
          refine Go.lcmpF (pc3 := 305) (pc2 := 308) d_u_check_304 d_u_check_305 rfl (fun q => q hc) rfl ?_
          refine Go.lload (pc2 := 310) d_u_check_308 rfl rfl ?_
          refine Go.lload (pc2 := 312) d_u_check_310 rfl rfl ?_
          refine Go.lmul (pc2 := 313) d_u_check_312 rfl ?_
          refine Go.lload (pc2 := 315) d_u_check_313 rfl rfl ?_
          refine Go.lload (pc2 := 317) d_u_check_315 rfl rfl ?_
          refine Go.lmul (pc2 := 318) d_u_check_317 rfl ?_
          refine Go.lneg (pc2 := 319) d_u_check_318 rfl ?_
          by_cases hc : w64 (-(w64 (c226_14 * v20))) < w64 (c226_12 * v18)
          · replace hf := ifp hc hf
            refine Go.lcmpT (pc3 := 320) (pc2 := 329) d_u_check_319 d_u_check_320 rfl hc (by decide) (by decide) ?_
            refine Go.iinc (pc2 := 332) (L2 := [some (vR b0), some (vJ c226_1), none, some (vJ c226_3), none, some (vJ c226_5), none, none, none, some (vI c226_9), none, some (vI c226_11), some (vJ c226_12), none, some (vJ c226_14), none, some (vI c226_16), some (vI (w32 (v17 + 1))), some (vJ v18), none, some (vJ v20), none, some (vJ (w64 (c226_12 * v20))), none, some (vJ (w64 (c226_14 * v18))), none]) d_u_check_329 rfl rfl rfl ?_
            refine Go.goto (pc2 := 226) d_u_check_332 (by decide) (by decide) ?_
            cases hf
            exact Go.mask [true, true, true, true, true, true, true, true, true, true, true, true, true, true, true, true, true, true, false, true, false, true, false, true, false, true] K
          · replace hf := ifn hc hf
            refine Go.lcmpF (pc3 := 320) (pc2 := 323) d_u_check_319 d_u_check_320 rfl hc rfl ?_
            cases hf
            exact Go.mask [true, true, true, true, true, true, true, true, true, true, true, true, false, true, false, true, false, false, false, true, false, true, false, true, false, true] K
        · replace hf := ifn hc hf
          refine Go.lcmpT (pc3 := 305) (pc2 := 329) d_u_check_304 d_u_check_305 rfl hc (by decide) (by decide) ?_
          refine Go.iinc (pc2 := 332) (L2 := [some (vR b0), some (vJ c226_1), none, some (vJ c226_3), none, some (vJ c226_5), none, none, none, some (vI c226_9), none, some (vI c226_11), some (vJ c226_12), none, some (vJ c226_14), none, some (vI c226_16), some (vI (w32 (v17 + 1))), some (vJ v18), none, some (vJ v20), none, some (vJ (w64 (c226_12 * v20))), none, some (vJ (w64 (c226_14 * v18))), none]) d_u_check_329 rfl rfl rfl ?_
          refine Go.goto (pc2 := 226) d_u_check_332 (by decide) (by decide) ?_
          cases hf
          exact Go.mask [true, true, true, true, true, true, true, true, true, true, true, true, true, true, true, true, true, true, false, true, false, true, false, true, false, true] K
  · replace hf := ifn hc hf
    refine Go.icmpT (pc2 := 335) d_u_check_230 (Int.not_lt.mp hc) (by decide) (by decide) ?_
    cases hf
    exact Go.mask [true, true, true, true, true, true, true, true, true, true, true, true, false, true, false, true, true, false, true, true, true, true, true, true, true, true] K
set_option maxRecDepth 65536 in
set_option maxHeartbeats 4000000 in
theorem ti_u_check_335 {l : Launch} {Z : State} {a0 : Array Value} (hw : ∀ d ∈ tables_1, d.before a0 Z = true) {n0 : Nat} {P : Heap → Prop} {F : Nat} {b0 sz : Nat} {rr : Int} {c157_1 c157_3 c157_5 c157_9 : Int} {O0 : Mo} {v11 v16 : Int} {x : Int ⊕ (Unit ⊕ Int)} (hf : i_u_check_335 F O0 c157_1 c157_3 c157_5 c157_9 v11 v16 = some x) (K : Sum.elim (fun s => G_u_check l Z n0 P 157 [some (vR b0), some (vJ c157_1), none, some (vJ c157_3), none, some (vJ c157_5), none, none, none, some (vI c157_9), none, some (vI s), none, none, none, none, none, none, none, none, none, none, none, none, none, none] [] [(b0, 4, O0)] sz 0 0 (QM Z D n0 P (some (vI rr)) [(b0, 4, O0)] sz)) (Sum.elim (fun rz => G_u_check l Z n0 P 340 [none, none, none, none, none, none, none, none, none, none, none, none, none, none, none, none, none, none, none, none, none, none, none, none, none, none] [] [(b0, 4, O0)] sz 0 0 (QM Z D n0 P (some (vI rr)) [(b0, 4, O0)] sz)) (fun rz => rz = rr)) x) :
    G_u_check l Z n0 P 335 [some (vR b0), some (vJ c157_1), none, some (vJ c157_3), none, some (vJ c157_5), none, none, none, some (vI c157_9), none, some (vI v11), none, none, none, none, some (vI v16), none, none, none, none, none, none, none, none, none] [] [(b0, 4, O0)] sz 0 0 (QM Z D n0 P (some (vI rr)) [(b0, 4, O0)] sz) := by
  unfold i_u_check_335 at hf
  refine Go.iload (pc2 := 337) d_u_check_335 rfl rfl ?_
  by_cases hc : v16 = 0
  · replace hf := ifp hc hf
    refine Go.ifT (pc2 := 342) d_u_check_337 hc (by decide) (by decide) ?_
    refine Go.iinc (pc2 := 345) (L2 := [some (vR b0), some (vJ c157_1), none, some (vJ c157_3), none, some (vJ c157_5), none, none, none, some (vI c157_9), none, some (vI (w32 (v11 + 1))), none, none, none, none, some (vI v16), none, none, none, none, none, none, none, none, none]) d_u_check_342 rfl rfl rfl ?_
    refine Go.goto (pc2 := 157) d_u_check_345 (by decide) (by decide) ?_
    cases hf
    exact Go.mask [true, true, true, true, true, true, true, true, true, true, true, true, true, true, true, true, false, true, true, true, true, true, true, true, true, true] K
  · replace hf := ifn hc hf
    refine Go.ifF (pc2 := 340) d_u_check_337 hc rfl ?_
    cases hf
    exact Go.mask [false, false, true, false, true, false, true, true, true, false, true, false, true, true, true, true, false, true, true, true, true, true, true, true, true, true] K
set_option maxRecDepth 65536 in
set_option maxHeartbeats 4000000 in
theorem ti_u_check_220 {l : Launch} {Z : State} {a0 : Array Value} (hw : ∀ d ∈ tables_1, d.before a0 Z = true) {n0 : Nat} {P : Heap → Prop} {F : Nat} {b0 sz : Nat} {rr : Int} {c157_1 c157_3 c157_5 c157_9 : Int} {O0 : Mo} {v11 v12 v14 : Int} {x : Int ⊕ (Unit ⊕ Int)} (hf : i_u_check_220 F O0 c157_1 c157_3 c157_5 c157_9 v11 v12 v14 = some x) (K : Sum.elim (fun s => G_u_check l Z n0 P 157 [some (vR b0), some (vJ c157_1), none, some (vJ c157_3), none, some (vJ c157_5), none, none, none, some (vI c157_9), none, some (vI s), none, none, none, none, none, none, none, none, none, none, none, none, none, none] [] [(b0, 4, O0)] sz 0 0 (QM Z D n0 P (some (vI rr)) [(b0, 4, O0)] sz)) (Sum.elim (fun rz => G_u_check l Z n0 P 340 [none, none, none, none, none, none, none, none, none, none, none, none, none, none, none, none, none, none, none, none, none, none, none, none, none, none] [] [(b0, 4, O0)] sz 0 0 (QM Z D n0 P (some (vI rr)) [(b0, 4, O0)] sz)) (fun rz => rz = rr)) x) :
    G_u_check l Z n0 P 220 [some (vR b0), some (vJ c157_1), none, some (vJ c157_3), none, some (vJ c157_5), none, none, none, some (vI c157_9), none, some (vI v11), some (vJ v12), none, some (vJ v14), none, none, none, none, none, none, none, none, none, none, none] [] [(b0, 4, O0)] sz 0 0 (QM Z D n0 P (some (vI rr)) [(b0, 4, O0)] sz) := by
  unfold i_u_check_220 at hf
  refine Go.iconst (pc2 := 221) d_u_check_220 rfl (by decide) ?_
  refine Go.istore (pc2 := 223) (L2 := [some (vR b0), some (vJ c157_1), none, some (vJ c157_3), none, some (vJ c157_5), none, none, none, some (vI c157_9), none, some (vI v11), some (vJ v12), none, some (vJ v14), none, some (vI 1), none, none, none, none, none, none, none, none, none]) d_u_check_221 rfl (Nat.le_of_ble_eq_true rfl) rfl ?_
  refine Go.iconst (pc2 := 224) d_u_check_223 rfl (by decide) ?_
  refine Go.istore (pc2 := 226) (L2 := [some (vR b0), some (vJ c157_1), none, some (vJ c157_3), none, some (vJ c157_5), none, none, none, some (vI c157_9), none, some (vI v11), some (vJ v12), none, some (vJ v14), none, some (vI 1), some (vI 0), none, none, none, none, none, none, none, none]) d_u_check_224 rfl (Nat.le_of_ble_eq_true rfl) rfl ?_
  refine loop_go hf (Gs := fun s => G_u_check l Z n0 P 226 [some (vR b0), some (vJ c157_1), none, some (vJ c157_3), none, some (vJ c157_5), none, none, none, some (vI c157_9), none, some (vI v11), some (vJ v12), none, some (vJ v14), none, some (vI 1), some (vI s), none, none, none, none, none, none, none, none] [] [(b0, 4, O0)] sz 0 0 (QM Z D n0 P (some (vI rr)) [(b0, 4, O0)] sz)) (Gr := (Sum.elim (fun rz => G_u_check l Z n0 P 335 [some (vR b0), some (vJ c157_1), none, some (vJ c157_3), none, some (vJ c157_5), none, none, none, some (vI c157_9), none, some (vI v11), none, none, none, none, some (vI 1), none, none, none, none, none, none, none, none, none] [] [(b0, 4, O0)] sz 0 0 (QM Z D n0 P (some (vI rr)) [(b0, 4, O0)] sz)) (Sum.elim (fun rz => G_u_check l Z n0 P 294 [some (vR b0), some (vJ c157_1), none, some (vJ c157_3), none, some (vJ c157_5), none, none, none, some (vI c157_9), none, some (vI v11), none, none, none, none, none, none, none, none, none, none, none, none, none, none] [] [(b0, 4, O0)] sz 0 0 (QM Z D n0 P (some (vI rr)) [(b0, 4, O0)] sz)) (fun rz => G_u_check l Z n0 P 323 [some (vR b0), some (vJ c157_1), none, some (vJ c157_3), none, some (vJ c157_5), none, none, none, some (vI c157_9), none, some (vI v11), none, none, none, none, none, none, none, none, none, none, none, none, none, none] [] [(b0, 4, O0)] sz 0 0 (QM Z D n0 P (some (vI rr)) [(b0, 4, O0)] sz))))) (fun s x hx K => tb_u_check_226 (F := F) (O0 := O0) (c226_1 := c157_1) (c226_3 := c157_3) (c226_5 := c157_5) (c226_9 := c157_9) (c226_11 := v11) (c226_12 := v12) (c226_14 := v14) (c226_16 := 1) (v17 := s) (x := x) hw hx K) ?_
  clear hf
  intro r hf
  rcases r with r_1 | r_2
  · dsimp only [Sum.elim_inl] at hf ⊢
    exact ti_u_check_335 hw hf K
  · dsimp only [Sum.elim_inr] at hf ⊢
    rcases r_2 with r_3 | r_4
    · dsimp only [Sum.elim_inl] at hf ⊢
      refine Go.iconst (pc2 := 295) d_u_check_294 rfl (by decide) ?_
      refine Go.istore (pc2 := 297) (L2 := [some (vR b0), some (vJ c157_1), none, some (vJ c157_3), none, some (vJ c157_5), none, none, none, some (vI c157_9), none, some (vI v11), none, none, none, none, some (vI 0), none, none, none, none, none, none, none, none, none]) d_u_check_295 rfl (Nat.le_of_ble_eq_true rfl) rfl ?_
      refine Go.goto (pc2 := 335) d_u_check_297 (by decide) (by decide) ?_
      exact ti_u_check_335 hw hf K
    · dsimp only [Sum.elim_inr] at hf ⊢
      refine Go.iconst (pc2 := 324) d_u_check_323 rfl (by decide) ?_
      refine Go.istore (pc2 := 326) (L2 := [some (vR b0), some (vJ c157_1), none, some (vJ c157_3), none, some (vJ c157_5), none, none, none, some (vI c157_9), none, some (vI v11), none, none, none, none, some (vI 0), none, none, none, none, none, none, none, none, none]) d_u_check_324 rfl (Nat.le_of_ble_eq_true rfl) rfl ?_
      refine Go.goto (pc2 := 335) d_u_check_326 (by decide) (by decide) ?_
      exact ti_u_check_335 hw hf K
set_option maxRecDepth 65536 in
set_option maxHeartbeats 4000000 in
theorem tb_u_check_157 {l : Launch} {Z : State} {a0 : Array Value} (hw : ∀ d ∈ tables_1, d.before a0 Z = true) {n0 : Nat} {P : Heap → Prop} {F : Nat} {b0 sz : Nat} {rr : Int} {c157_1 c157_3 c157_5 c157_9 : Int} {O0 : Mo} {v11 : Int} {x : Int ⊕ (Unit ⊕ Int)} (hf : b_u_check_157 F O0 c157_1 c157_3 c157_5 c157_9 v11 = some x) (K : Sum.elim (fun s => G_u_check l Z n0 P 157 [some (vR b0), some (vJ c157_1), none, some (vJ c157_3), none, some (vJ c157_5), none, none, none, some (vI c157_9), none, some (vI s), none, none, none, none, none, none, none, none, none, none, none, none, none, none] [] [(b0, 4, O0)] sz 0 0 (QM Z D n0 P (some (vI rr)) [(b0, 4, O0)] sz)) (Sum.elim (fun rz => G_u_check l Z n0 P 340 [none, none, none, none, none, none, none, none, none, none, none, none, none, none, none, none, none, none, none, none, none, none, none, none, none, none] [] [(b0, 4, O0)] sz 0 0 (QM Z D n0 P (some (vI rr)) [(b0, 4, O0)] sz)) (fun rz => rz = rr)) x) :
    G_u_check l Z n0 P 157 [some (vR b0), some (vJ c157_1), none, some (vJ c157_3), none, some (vJ c157_5), none, none, none, some (vI c157_9), none, some (vI v11), none, none, none, none, none, none, none, none, none, none, none, none, none, none] [] [(b0, 4, O0)] sz 0 0 (QM Z D n0 P (some (vI rr)) [(b0, 4, O0)] sz) := by
  unfold b_u_check_157 at hf
  refine Go.iload (pc2 := 159) d_u_check_157 rfl rfl ?_
  refine Go.iload (pc2 := 161) d_u_check_159 rfl rfl ?_
  by_cases hc : v11 < c157_9
  · replace hf := ifp hc hf
    refine Go.icmpF (pc2 := 164) d_u_check_161 (Int.not_le.mpr hc) rfl ?_
    refine Go.aloadN (pc2 := 165) d_u_check_164 rfl rfl ?_
    refine Go.iload (pc2 := 167) d_u_check_165 rfl rfl ?_
    refine bind_in hf ?_
    clear hf
    intro r_1 h_r_1 hf
    refine Go.callv (pc2 := 170) (as := [vI v11]) (S := []) (w := (some (vI r_1))) (os2 := [(b0, 4, O0)]) (sz2 := sz) (S2 := [vI r_1]) (rm := R_k_onBoundary) d_u_check_167 rfl rfl (by exact w_180 hw) (by exact w_181 hw) D_C (by exact w_183 hw) (by exact w_182 hw) (by exact w_184 hw) rfl (by exact w_2 hw) (q := 0) rfl (by decide) pd_k_onBoundary (by decide) (Nat.le_of_ble_eq_true rfl) (by decide) (by decide) (nc := 0) (ns := 0) rfl rfl rfl (cu2 := 0) rfl (su2 := 0) rfl rfl (Pays.one (q := 0) rfl rfl (fun P2 hP2 => th_k_onBoundary hw h_r_1)) rfl ?_
    by_cases hc : r_1 = 0
    · replace hf := ifp hc hf
      refine Go.ifF (pc2 := 173) d_u_check_170 (fun q => q hc) rfl ?_
      refine Go.goto (pc2 := 342) d_u_check_173 (by decide) (by decide) ?_
      refine Go.iinc (pc2 := 345) (L2 := [some (vR b0), some (vJ c157_1), none, some (vJ c157_3), none, some (vJ c157_5), none, none, none, some (vI c157_9), none, some (vI (w32 (v11 + 1))), none, none, none, none, none, none, none, none, none, none, none, none, none, none]) d_u_check_342 rfl rfl rfl ?_
      refine Go.goto (pc2 := 157) d_u_check_345 (by decide) (by decide) ?_
      cases hf
      exact K
    · replace hf := ifn hc hf
      refine Go.ifT (pc2 := 176) d_u_check_170 hc (by decide) (by decide) ?_
      refine Go.aloadN (pc2 := 177) d_u_check_176 rfl rfl ?_
      refine Go.iload (pc2 := 179) d_u_check_177 rfl rfl ?_
      refine bind_in hf ?_
      clear hf
      intro r_2 h_r_2 hf
      refine Go.callv (pc2 := 182) (as := [vI v11]) (S := []) (w := (some (vI r_2))) (os2 := [(b0, 4, O0)]) (sz2 := sz) (S2 := [vI r_2]) (rm := R_k_pointX) d_u_check_179 rfl rfl (by exact w_165 hw) (by exact w_166 hw) D_C (by exact w_168 hw) (by exact w_167 hw) (by exact w_169 hw) rfl (by exact w_2 hw) (q := 0) rfl (by decide) pd_k_pointX (by decide) (Nat.le_of_ble_eq_true rfl) (by decide) (by decide) (nc := 0) (ns := 0) rfl rfl rfl (cu2 := 0) rfl (su2 := 0) rfl rfl (Pays.one (q := 0) rfl rfl (fun P2 hP2 => th_k_pointX hw h_r_2)) rfl ?_
      refine Go.i2l (pc2 := 183) d_u_check_182 rfl ?_
      refine Go.lloadN (pc2 := 184) d_u_check_183 rfl rfl ?_
      refine Go.lmul (pc2 := 185) d_u_check_184 rfl ?_
      refine Go.lloadN (pc2 := 186) d_u_check_185 rfl rfl ?_
      refine Go.lsub (pc2 := 187) d_u_check_186 rfl ?_
      refine Go.lstore (pc2 := 189) (L2 := [some (vR b0), some (vJ c157_1), none, some (vJ c157_3), none, some (vJ c157_5), none, none, none, some (vI c157_9), none, some (vI v11), some (vJ (w64 ((w64 (r_2 * c157_1)) - c157_3))), none, none, none, none, none, none, none, none, none, none, none, none, none]) d_u_check_187 rfl (Nat.le_of_ble_eq_true rfl) rfl ?_
      refine lt_in hf (G := fun v12 => G_u_check l Z n0 P 189 [some (vR b0), some (vJ c157_1), none, some (vJ c157_3), none, some (vJ c157_5), none, none, none, some (vI c157_9), none, some (vI v11), some (vJ v12), none, none, none, none, none, none, none, none, none, none, none, none, none] [] [(b0, 4, O0)] sz 0 0 (QM Z D n0 P (some (vI rr)) [(b0, 4, O0)] sz)) ?_
      clear hf
      intro v12 hf
      refine Go.aloadN (pc2 := 190) d_u_check_189 rfl rfl ?_
      refine Go.iload (pc2 := 192) d_u_check_190 rfl rfl ?_
      refine bind_in hf ?_
      clear hf
      intro r_3 h_r_3 hf
      refine Go.callv (pc2 := 195) (as := [vI v11]) (S := []) (w := (some (vI r_3))) (os2 := [(b0, 4, O0)]) (sz2 := sz) (S2 := [vI r_3]) (rm := R_k_pointY) d_u_check_192 rfl rfl (by exact w_170 hw) (by exact w_171 hw) D_C (by exact w_173 hw) (by exact w_172 hw) (by exact w_174 hw) rfl (by exact w_2 hw) (q := 0) rfl (by decide) pd_k_pointY (by decide) (Nat.le_of_ble_eq_true rfl) (by decide) (by decide) (nc := 0) (ns := 0) rfl rfl rfl (cu2 := 0) rfl (su2 := 0) rfl rfl (Pays.one (q := 0) rfl rfl (fun P2 hP2 => th_k_pointY hw h_r_3)) rfl ?_
      refine Go.i2l (pc2 := 196) d_u_check_195 rfl ?_
      refine Go.lloadN (pc2 := 197) d_u_check_196 rfl rfl ?_
      refine Go.lmul (pc2 := 198) d_u_check_197 rfl ?_
      refine Go.lload (pc2 := 200) d_u_check_198 rfl rfl ?_
      refine Go.lsub (pc2 := 201) d_u_check_200 rfl ?_
      refine Go.lstore (pc2 := 203) (L2 := [some (vR b0), some (vJ c157_1), none, some (vJ c157_3), none, some (vJ c157_5), none, none, none, some (vI c157_9), none, some (vI v11), some (vJ v12), none, some (vJ (w64 ((w64 (r_3 * c157_1)) - c157_5))), none, none, none, none, none, none, none, none, none, none, none]) d_u_check_201 rfl (Nat.le_of_ble_eq_true rfl) rfl ?_
      refine lt_in hf (G := fun v14 => G_u_check l Z n0 P 203 [some (vR b0), some (vJ c157_1), none, some (vJ c157_3), none, some (vJ c157_5), none, none, none, some (vI c157_9), none, some (vI v11), some (vJ v12), none, some (vJ v14), none, none, none, none, none, none, none, none, none, none, none] [] [(b0, 4, O0)] sz 0 0 (QM Z D n0 P (some (vI rr)) [(b0, 4, O0)] sz)) ?_
      clear hf
      intro v14 hf
      refine Go.lload (pc2 := 205) d_u_check_203 rfl rfl ?_
      refine Go.lconst (pc2 := 206) (i := 0) d_u_check_205 rfl (by decide) ?_
      by_cases hc : v12 = 0
      · replace hf := ifp hc hf
        refine Go.lcmpF (pc3 := 207) (pc2 := 210) d_u_check_206 d_u_check_207 rfl (fun q => q hc) rfl ?_
        refine Go.lload (pc2 := 212) d_u_check_210 rfl rfl ?_
        refine Go.lconst (pc2 := 213) (i := 0) d_u_check_212 rfl (by decide) ?_
        by_cases hc : v14 = 0
        · replace hf := ifp hc hf
          refine Go.lcmpF (pc3 := 214) (pc2 := 217) d_u_check_213 d_u_check_214 rfl (fun q => q hc) rfl ?_
          refine Go.goto (pc2 := 342) d_u_check_217 (by decide) (by decide) ?_
          refine Go.iinc (pc2 := 345) (L2 := [some (vR b0), some (vJ c157_1), none, some (vJ c157_3), none, some (vJ c157_5), none, none, none, some (vI c157_9), none, some (vI (w32 (v11 + 1))), some (vJ v12), none, some (vJ v14), none, none, none, none, none, none, none, none, none, none, none]) d_u_check_342 rfl rfl rfl ?_
          refine Go.goto (pc2 := 157) d_u_check_345 (by decide) (by decide) ?_
          cases hf
          exact Go.mask [true, true, true, true, true, true, true, true, true, true, true, true, false, true, false, true, true, true, true, true, true, true, true, true, true, true] K
        · replace hf := ifn hc hf
          refine Go.lcmpT (pc3 := 214) (pc2 := 220) d_u_check_213 d_u_check_214 rfl hc (by decide) (by decide) ?_
          exact ti_u_check_220 hw hf K
      · replace hf := ifn hc hf
        refine Go.lcmpT (pc3 := 207) (pc2 := 220) d_u_check_206 d_u_check_207 rfl hc (by decide) (by decide) ?_
        exact ti_u_check_220 hw hf K
  · replace hf := ifn hc hf
    refine Go.icmpT (pc2 := 348) d_u_check_161 (Int.not_lt.mp hc) (by decide) (by decide) ?_
    refine Go.iconst (pc2 := 349) d_u_check_348 rfl (by decide) ?_
    cases hf
    replace K : 1 = rr := K
    cases K
    exact Go.retz d_u_check_349 rfl rfl (Nat.le_of_ble_eq_true rfl) (Nat.le_of_ble_eq_true rfl) (fun _ H => ⟨rfl, H⟩)
set_option maxRecDepth 65536 in
set_option maxHeartbeats 4000000 in
theorem th_u_check {l : Launch} {Z : State} {a0 : Array Value} (hw : ∀ d ∈ tables_1, d.before a0 Z = true) {n0 : Nat} {P : Heap → Prop} {F : Nat} {b0 sz : Nat} {rr : Int} {O0 : Mo} (hf : u_check F O0 = some rr) :
    Meth l Z D n0 P (⟨"MinCircleOwnLaw", "check", "(LMinCircle;)Z"⟩ : MethodName) method_4_code 26 (some .boolean) R_u_check [vR b0] [(b0, 4, O0)] sz (QM Z D n0 P (some (vI rr)) [(b0, 4, O0)] sz) := by
  refine Meth.of (plainFor_of_name pn_law) (Nat.le_of_ble_eq_true rfl) ?_
  show G_u_check l Z n0 P 0 [some (vR b0), none, none, none, none, none, none, none, none, none, none, none, none, none, none, none, none, none, none, none, none, none, none, none, none, none] [] [(b0, 4, O0)] sz 0 0 (QM Z D n0 P (some (vI rr)) [(b0, 4, O0)] sz)
  unfold u_check at hf
  refine Go.aloadN (pc2 := 1) d_u_check_0 rfl rfl ?_
  refine Go.callv (pc2 := 4) (as := []) (S := []) (w := (some (vI (k_isSolved O0)))) (os2 := [(b0, 4, O0)]) (sz2 := sz) (S2 := [vI (k_isSolved O0)]) (rm := R_k_isSolved) d_u_check_1 rfl rfl (by exact w_49 hw) (by exact w_50 hw) D_C (by exact w_52 hw) (by exact w_51 hw) (by exact w_53 hw) rfl (by exact w_2 hw) (q := 0) rfl (by decide) pd_k_isSolved (by decide) (Nat.le_of_ble_eq_true rfl) (by decide) (by decide) (nc := 0) (ns := 0) rfl rfl rfl (cu2 := 0) rfl (su2 := 0) rfl rfl (Pays.one (q := 0) rfl rfl (fun P2 hP2 => th_k_isSolved hw rfl)) rfl ?_
  by_cases hc : k_isSolved O0 = 0
  · replace hf := ifp hc hf
    refine Go.ifF (pc2 := 7) d_u_check_4 (fun q => q hc) rfl ?_
    refine Go.iconst (pc2 := 8) d_u_check_7 rfl (by decide) ?_
    cases hf
    exact Go.retz d_u_check_8 rfl rfl (Nat.le_of_ble_eq_true rfl) (Nat.le_of_ble_eq_true rfl) (fun _ H => ⟨rfl, H⟩)
  · replace hf := ifn hc hf
    refine Go.ifT (pc2 := 9) d_u_check_4 hc (by decide) (by decide) ?_
    refine Go.aloadN (pc2 := 10) d_u_check_9 rfl rfl ?_
    refine Go.callv (pc2 := 13) (as := []) (S := []) (w := (some (vJ (k_centreDen O0)))) (os2 := [(b0, 4, O0)]) (sz2 := sz) (S2 := [vJ (k_centreDen O0)]) (rm := R_k_centreDen) d_u_check_10 rfl rfl (by exact w_140 hw) (by exact w_141 hw) D_C (by exact w_143 hw) (by exact w_142 hw) (by exact w_144 hw) rfl (by exact w_2 hw) (q := 0) rfl (by decide) pd_k_centreDen (by decide) (Nat.le_of_ble_eq_true rfl) (by decide) (by decide) (nc := 0) (ns := 0) rfl rfl rfl (cu2 := 0) rfl (su2 := 0) rfl rfl (Pays.one (q := 0) rfl rfl (fun P2 hP2 => th_k_centreDen hw rfl)) rfl ?_
    refine Go.lstoreN (pc2 := 14) (L2 := [some (vR b0), some (vJ (k_centreDen O0)), none, none, none, none, none, none, none, none, none, none, none, none, none, none, none, none, none, none, none, none, none, none, none, none]) d_u_check_13 rfl (Nat.le_of_ble_eq_true rfl) rfl ?_
    refine Go.aloadN (pc2 := 15) d_u_check_14 rfl rfl ?_
    refine Go.callv (pc2 := 18) (as := []) (S := []) (w := (some (vJ (k_centreXNum O0)))) (os2 := [(b0, 4, O0)]) (sz2 := sz) (S2 := [vJ (k_centreXNum O0)]) (rm := R_k_centreXNum) d_u_check_15 rfl rfl (by exact w_145 hw) (by exact w_146 hw) D_C (by exact w_148 hw) (by exact w_147 hw) (by exact w_149 hw) rfl (by exact w_2 hw) (q := 0) rfl (by decide) pd_k_centreXNum (by decide) (Nat.le_of_ble_eq_true rfl) (by decide) (by decide) (nc := 0) (ns := 0) rfl rfl rfl (cu2 := 0) rfl (su2 := 0) rfl rfl (Pays.one (q := 0) rfl rfl (fun P2 hP2 => th_k_centreXNum hw rfl)) rfl ?_
    refine Go.lstoreN (pc2 := 19) (L2 := [some (vR b0), some (vJ (k_centreDen O0)), none, some (vJ (k_centreXNum O0)), none, none, none, none, none, none, none, none, none, none, none, none, none, none, none, none, none, none, none, none, none, none]) d_u_check_18 rfl (Nat.le_of_ble_eq_true rfl) rfl ?_
    refine Go.aloadN (pc2 := 20) d_u_check_19 rfl rfl ?_
    refine Go.callv (pc2 := 23) (as := []) (S := []) (w := (some (vJ (k_centreYNum O0)))) (os2 := [(b0, 4, O0)]) (sz2 := sz) (S2 := [vJ (k_centreYNum O0)]) (rm := R_k_centreYNum) d_u_check_20 rfl rfl (by exact w_150 hw) (by exact w_151 hw) D_C (by exact w_153 hw) (by exact w_152 hw) (by exact w_154 hw) rfl (by exact w_2 hw) (q := 0) rfl (by decide) pd_k_centreYNum (by decide) (Nat.le_of_ble_eq_true rfl) (by decide) (by decide) (nc := 0) (ns := 0) rfl rfl rfl (cu2 := 0) rfl (su2 := 0) rfl rfl (Pays.one (q := 0) rfl rfl (fun P2 hP2 => th_k_centreYNum hw rfl)) rfl ?_
    refine Go.lstore (pc2 := 25) (L2 := [some (vR b0), some (vJ (k_centreDen O0)), none, some (vJ (k_centreXNum O0)), none, some (vJ (k_centreYNum O0)), none, none, none, none, none, none, none, none, none, none, none, none, none, none, none, none, none, none, none, none]) d_u_check_23 rfl (Nat.le_of_ble_eq_true rfl) rfl ?_
    refine Go.aloadN (pc2 := 26) d_u_check_25 rfl rfl ?_
    refine Go.callv (pc2 := 29) (as := []) (S := []) (w := (some (vJ (k_radiusSqNum O0)))) (os2 := [(b0, 4, O0)]) (sz2 := sz) (S2 := [vJ (k_radiusSqNum O0)]) (rm := R_k_radiusSqNum) d_u_check_26 rfl rfl (by exact w_155 hw) (by exact w_156 hw) D_C (by exact w_158 hw) (by exact w_157 hw) (by exact w_159 hw) rfl (by exact w_2 hw) (q := 0) rfl (by decide) pd_k_radiusSqNum (by decide) (Nat.le_of_ble_eq_true rfl) (by decide) (by decide) (nc := 0) (ns := 0) rfl rfl rfl (cu2 := 0) rfl (su2 := 0) rfl rfl (Pays.one (q := 0) rfl rfl (fun P2 hP2 => th_k_radiusSqNum hw rfl)) rfl ?_
    refine Go.lstore (pc2 := 31) (L2 := [some (vR b0), some (vJ (k_centreDen O0)), none, some (vJ (k_centreXNum O0)), none, some (vJ (k_centreYNum O0)), none, some (vJ (k_radiusSqNum O0)), none, none, none, none, none, none, none, none, none, none, none, none, none, none, none, none, none, none]) d_u_check_29 rfl (Nat.le_of_ble_eq_true rfl) rfl ?_
    refine Go.lloadN (pc2 := 32) d_u_check_31 rfl rfl ?_
    refine Go.lconst (pc2 := 33) (i := 1) d_u_check_32 rfl (by decide) ?_
    by_cases hc : k_centreDen O0 < 1
    · replace hf := ifp hc hf
      refine Go.lcmpT (pc3 := 34) (pc2 := 44) d_u_check_33 d_u_check_34 rfl hc (by decide) (by decide) ?_
      refine Go.iconst (pc2 := 45) d_u_check_44 rfl (by decide) ?_
      cases hf
      exact Go.retz d_u_check_45 rfl rfl (Nat.le_of_ble_eq_true rfl) (Nat.le_of_ble_eq_true rfl) (fun _ H => ⟨rfl, H⟩)
    · replace hf := ifn hc hf
      refine Go.lcmpF (pc3 := 34) (pc2 := 37) d_u_check_33 d_u_check_34 rfl hc rfl ?_
      refine Go.lload (pc2 := 39) d_u_check_37 rfl rfl ?_
      refine Go.lconst (pc2 := 40) (i := 0) d_u_check_39 rfl (by decide) ?_
      by_cases hc : k_radiusSqNum O0 < 0
      · replace hf := ifp hc hf
        refine Go.lcmpF (pc3 := 41) (pc2 := 44) d_u_check_40 d_u_check_41 rfl (Int.not_le.mpr hc) rfl ?_
        refine Go.iconst (pc2 := 45) d_u_check_44 rfl (by decide) ?_
        cases hf
        exact Go.retz d_u_check_45 rfl rfl (Nat.le_of_ble_eq_true rfl) (Nat.le_of_ble_eq_true rfl) (fun _ H => ⟨rfl, H⟩)
      · replace hf := ifn hc hf
        refine Go.lcmpT (pc3 := 41) (pc2 := 46) d_u_check_40 d_u_check_41 rfl (Int.not_lt.mp hc) (by decide) (by decide) ?_
        refine Go.aloadN (pc2 := 47) d_u_check_46 rfl rfl ?_
        refine Go.callv (pc2 := 50) (as := []) (S := []) (w := (some (vI (k_count O0)))) (os2 := [(b0, 4, O0)]) (sz2 := sz) (S2 := [vI (k_count O0)]) (rm := R_k_count) d_u_check_47 rfl rfl (by exact w_160 hw) (by exact w_161 hw) D_C (by exact w_163 hw) (by exact w_162 hw) (by exact w_164 hw) rfl (by exact w_2 hw) (q := 0) rfl (by decide) pd_k_count (by decide) (Nat.le_of_ble_eq_true rfl) (by decide) (by decide) (nc := 0) (ns := 0) rfl rfl rfl (cu2 := 0) rfl (su2 := 0) rfl rfl (Pays.one (q := 0) rfl rfl (fun P2 hP2 => th_k_count hw rfl)) rfl ?_
        refine Go.istore (pc2 := 52) (L2 := [some (vR b0), some (vJ (k_centreDen O0)), none, some (vJ (k_centreXNum O0)), none, some (vJ (k_centreYNum O0)), none, some (vJ (k_radiusSqNum O0)), none, some (vI (k_count O0)), none, none, none, none, none, none, none, none, none, none, none, none, none, none, none, none]) d_u_check_50 rfl (Nat.le_of_ble_eq_true rfl) rfl ?_
        refine Go.iconst (pc2 := 53) d_u_check_52 rfl (by decide) ?_
        refine Go.istore (pc2 := 55) (L2 := [some (vR b0), some (vJ (k_centreDen O0)), none, some (vJ (k_centreXNum O0)), none, some (vJ (k_centreYNum O0)), none, some (vJ (k_radiusSqNum O0)), none, some (vI (k_count O0)), some (vI 0), none, none, none, none, none, none, none, none, none, none, none, none, none, none, none]) d_u_check_53 rfl (Nat.le_of_ble_eq_true rfl) rfl ?_
        refine Go.iconst (pc2 := 56) d_u_check_55 rfl (by decide) ?_
        refine Go.istore (pc2 := 58) (L2 := [some (vR b0), some (vJ (k_centreDen O0)), none, some (vJ (k_centreXNum O0)), none, some (vJ (k_centreYNum O0)), none, some (vJ (k_radiusSqNum O0)), none, some (vI (k_count O0)), some (vI 0), some (vI 0), none, none, none, none, none, none, none, none, none, none, none, none, none, none]) d_u_check_56 rfl (Nat.le_of_ble_eq_true rfl) rfl ?_
        refine Go.mask [true, true, true, true, true, true, true, false, true, true, true, true, true, true, true, true, true, true, true, true, true, true, true, true, true, true] ?_
        refine loop_go hf (Gs := fun s => G_u_check l Z n0 P 58 [some (vR b0), some (vJ (k_centreDen O0)), none, some (vJ (k_centreXNum O0)), none, some (vJ (k_centreYNum O0)), none, none, none, some (vI (k_count O0)), some (vI s.1), some (vI s.2), none, none, none, none, none, none, none, none, none, none, none, none, none, none] [] [(b0, 4, O0)] sz 0 0 (QM Z D n0 P (some (vI rr)) [(b0, 4, O0)] sz)) (Gr := (Sum.elim (fun rz => G_u_check l Z n0 P 137 [some (vR b0), some (vJ (k_centreDen O0)), none, some (vJ (k_centreXNum O0)), none, some (vJ (k_centreYNum O0)), none, none, none, some (vI (k_count O0)), some (vI rz), none, none, none, none, none, none, none, none, none, none, none, none, none, none, none] [] [(b0, 4, O0)] sz 0 0 (QM Z D n0 P (some (vI rr)) [(b0, 4, O0)] sz)) (fun rz => rz = rr))) (fun s x hx K => tb_u_check_58 (F := F) (O0 := O0) (c58_1 := k_centreDen O0) (c58_3 := k_centreXNum O0) (c58_5 := k_centreYNum O0) (c58_9 := k_count O0) (v10 := s.1) (v11 := s.2) (x := x) hw hx K) ?_
        clear hf
        intro r hf
        rcases r with r_1 | r_2
        · dsimp only [Sum.elim_inl] at hf ⊢
          refine Go.iload (pc2 := 139) d_u_check_137 rfl rfl ?_
          refine Go.iconst (pc2 := 140) d_u_check_139 rfl (by decide) ?_
          by_cases hc : r_1 < 1
          · replace hf := ifp hc hf
            refine Go.icmpT (pc2 := 152) d_u_check_140 hc (by decide) (by decide) ?_
            refine Go.iconst (pc2 := 153) d_u_check_152 rfl (by decide) ?_
            cases hf
            exact Go.retz d_u_check_153 rfl rfl (Nat.le_of_ble_eq_true rfl) (Nat.le_of_ble_eq_true rfl) (fun _ H => ⟨rfl, H⟩)
          · replace hf := ifn hc hf
            refine Go.icmpF (pc2 := 143) d_u_check_140 hc rfl ?_
            refine Go.aloadN (pc2 := 144) d_u_check_143 rfl rfl ?_
            refine Go.callv (pc2 := 147) (as := []) (S := []) (w := (some (vI (k_boundaryCount O0)))) (os2 := [(b0, 4, O0)]) (sz2 := sz) (S2 := [vI (k_boundaryCount O0)]) (rm := R_k_boundaryCount) d_u_check_144 rfl rfl (by exact w_185 hw) (by exact w_186 hw) D_C (by exact w_188 hw) (by exact w_187 hw) (by exact w_189 hw) rfl (by exact w_2 hw) (q := 0) rfl (by decide) pd_k_boundaryCount (by decide) (Nat.le_of_ble_eq_true rfl) (by decide) (by decide) (nc := 0) (ns := 0) rfl rfl rfl (cu2 := 0) rfl (su2 := 0) rfl rfl (Pays.one (q := 0) rfl rfl (fun P2 hP2 => th_k_boundaryCount hw rfl)) rfl ?_
            refine Go.iload (pc2 := 149) d_u_check_147 rfl rfl ?_
            by_cases hc : k_boundaryCount O0 = r_1
            · replace hf := ifp hc hf
              refine Go.icmpT (pc2 := 154) d_u_check_149 hc (by decide) (by decide) ?_
              refine Go.iconst (pc2 := 155) d_u_check_154 rfl (by decide) ?_
              refine Go.istore (pc2 := 157) (L2 := [some (vR b0), some (vJ (k_centreDen O0)), none, some (vJ (k_centreXNum O0)), none, some (vJ (k_centreYNum O0)), none, none, none, some (vI (k_count O0)), some (vI r_1), some (vI 0), none, none, none, none, none, none, none, none, none, none, none, none, none, none]) d_u_check_155 rfl (Nat.le_of_ble_eq_true rfl) rfl ?_
              refine Go.mask [true, true, true, true, true, true, true, true, true, true, false, true, true, true, true, true, true, true, true, true, true, true, true, true, true, true] ?_
              refine loop_go hf (Gs := fun s => G_u_check l Z n0 P 157 [some (vR b0), some (vJ (k_centreDen O0)), none, some (vJ (k_centreXNum O0)), none, some (vJ (k_centreYNum O0)), none, none, none, some (vI (k_count O0)), none, some (vI s), none, none, none, none, none, none, none, none, none, none, none, none, none, none] [] [(b0, 4, O0)] sz 0 0 (QM Z D n0 P (some (vI rr)) [(b0, 4, O0)] sz)) (Gr := (Sum.elim (fun rz => G_u_check l Z n0 P 340 [none, none, none, none, none, none, none, none, none, none, none, none, none, none, none, none, none, none, none, none, none, none, none, none, none, none] [] [(b0, 4, O0)] sz 0 0 (QM Z D n0 P (some (vI rr)) [(b0, 4, O0)] sz)) (fun rz => rz = rr))) (fun s x hx K => tb_u_check_157 (F := F) (O0 := O0) (c157_1 := k_centreDen O0) (c157_3 := k_centreXNum O0) (c157_5 := k_centreYNum O0) (c157_9 := k_count O0) (v11 := s) (x := x) hw hx K) ?_
              clear hf
              intro r_3 hf
              rcases r_3 with r_4 | r_5
              · dsimp only [Sum.elim_inl] at hf ⊢
                refine Go.iconst (pc2 := 341) d_u_check_340 rfl (by decide) ?_
                cases hf
                exact Go.retz d_u_check_341 rfl rfl (Nat.le_of_ble_eq_true rfl) (Nat.le_of_ble_eq_true rfl) (fun _ H => ⟨rfl, H⟩)
              · dsimp only [Sum.elim_inr] at hf ⊢
                cases hf
                rfl
            · replace hf := ifn hc hf
              refine Go.icmpF (pc2 := 152) d_u_check_149 hc rfl ?_
              refine Go.iconst (pc2 := 153) d_u_check_152 rfl (by decide) ?_
              cases hf
              exact Go.retz d_u_check_153 rfl rfl (Nat.le_of_ble_eq_true rfl) (Nat.le_of_ble_eq_true rfl) (fun _ H => ⟨rfl, H⟩)
        · dsimp only [Sum.elim_inr] at hf ⊢
          cases hf
          rfl
set_option maxRecDepth 65536 in
set_option maxHeartbeats 4000000 in
theorem ti_u_law_191 {l : Launch} {Z : State} {a0 : Array Value} (hw : ∀ d ∈ tables_1, d.before a0 Z = true) {n0 : Nat} {P : Heap → Prop} (hst : ∀ b, n0 ≤ b → StB D b P) {sa : Nat} {xs : List Int} (hP : ∀ h, P h → Scr Z sa xs h) (hxl : xs.length < 2147483648) {F : Nat} {rr : Int} {O0 : Mo} {v3 : Int} {x : (Int × Mo) ⊕ (Mo ⊕ Int)} (hf : i_u_law_191 F O0 xs v3 = some x) (K : Sum.elim (fun s => G_u_law l Z n0 P 30 [none, some (vR sa), some (vR n0), some (vI s.1), none, none, none] [] [(n0, 4, s.2)] ((n0 + 5)) 5 146 (QL rr)) (Sum.elim (fun rz => G_u_law l Z n0 P 206 [none, none, some (vR n0), none, none, none, none] [] [(n0, 4, rz)] ((n0 + 5)) 5 146 (QL rr)) (fun rz => rz = rr)) x) :
    G_u_law l Z n0 P 191 [none, some (vR sa), some (vR n0), some (vI v3), none, none, none] [] [(n0, 4, O0)] ((n0 + 5)) 5 146 (QL rr) := by
  unfold i_u_law_191 at hf
  refine Go.aloadN (pc2 := 192) at_191 rfl rfl ?_
  refine bind_in hf ?_
  clear hf
  intro r h_r hf
  refine Go.calls (pc2 := 195) (as := [vR n0]) (S := []) (w := (some (vI r))) (os2 := [(n0, 4, O0)]) (sz2 := (n0 + 5)) (S2 := [vI r]) (rm := R_u_check) at_192 rfl xc (by exact w_46 hw) (by exact w_47 hw) (by exact w_48 hw) rfl (by exact w_5 hw) (by decide) pd_u_check (by decide) (Nat.le_of_ble_eq_true rfl) (by decide) (by decide) (nc := 0) (ns := 0) rfl rfl rfl (cu2 := 5) rfl (su2 := 146) rfl rfl (Pays.one (q := 0) rfl rfl (fun P2 hP2 => th_u_check hw h_r)) rfl ?_
  by_cases hc : r = 0
  · replace hf := ifp hc hf
    refine Go.ifF (pc2 := 198) at_195 (fun q => q hc) rfl ?_
    refine Go.iconst (pc2 := 199) at_198 rfl (by decide) ?_
    cases hf
    replace K : 0 = rr := K
    cases K
    exact Go.retz at_199 rfl rfl (Nat.le_of_ble_eq_true rfl) (Nat.le_of_ble_eq_true rfl) (fun _ _ => rfl)
  · replace hf := ifn hc hf
    refine Go.ifT (pc2 := 200) at_195 hc (by decide) (by decide) ?_
    refine Go.iinc (pc2 := 203) (L2 := [none, some (vR sa), some (vR n0), some (vI (w32 (v3 + 3))), none, none, none]) at_200 rfl rfl rfl ?_
    refine Go.goto (pc2 := 30) at_203 (by decide) (by decide) ?_
    cases hf
    exact K
set_option maxRecDepth 65536 in
set_option maxHeartbeats 4000000 in
theorem tb_u_law_30 {l : Launch} {Z : State} {a0 : Array Value} (hw : ∀ d ∈ tables_1, d.before a0 Z = true) {n0 : Nat} {P : Heap → Prop} (hst : ∀ b, n0 ≤ b → StB D b P) {sa : Nat} {xs : List Int} (hP : ∀ h, P h → Scr Z sa xs h) (hxl : xs.length < 2147483648) {F : Nat} {rr : Int} {v3 : Int} {O0 : Mo} {x : (Int × Mo) ⊕ (Mo ⊕ Int)} (hf : b_u_law_30 F xs v3 O0 = some x) (K : Sum.elim (fun s => G_u_law l Z n0 P 30 [none, some (vR sa), some (vR n0), some (vI s.1), none, none, none] [] [(n0, 4, s.2)] ((n0 + 5)) 5 146 (QL rr)) (Sum.elim (fun rz => G_u_law l Z n0 P 206 [none, none, some (vR n0), none, none, none, none] [] [(n0, 4, rz)] ((n0 + 5)) 5 146 (QL rr)) (fun rz => rz = rr)) x) :
    G_u_law l Z n0 P 30 [none, some (vR sa), some (vR n0), some (vI v3), none, none, none] [] [(n0, 4, O0)] ((n0 + 5)) 5 146 (QL rr) := by
  unfold b_u_law_30 at hf
  refine Go.iloadN (pc2 := 31) at_30 rfl rfl ?_
  refine Go.aloadN (pc2 := 32) at_31 rfl rfl ?_
  refine Go.alen (pc2 := 33) at_32 rfl hP hxl ?_
  by_cases hc : v3 < (xs.length : Int)
  · replace hf := ifp hc hf
    refine Go.icmpF (pc2 := 36) at_33 (Int.not_le.mpr hc) rfl ?_
    refine Go.aloadN (pc2 := 37) at_36 rfl rfl ?_
    refine Go.iloadN (pc2 := 38) at_37 rfl rfl ?_
    refine bind_in hf ?_
    clear hf
    intro r_1 h_r_1 hf
    refine Go.calls (pc2 := 41) (as := [vR sa, vI v3]) (S := []) (w := (some (vI r_1))) (os2 := [(n0, 4, O0)]) (sz2 := (n0 + 5)) (S2 := [vI r_1]) (rm := R_u_cell) at_38 rfl xc (by exact w_3 hw) (by exact w_4 hw) (by exact w_6 hw) rfl (by exact w_5 hw) (by decide) pd_u_cell (by decide) (Nat.le_of_ble_eq_true rfl) (by decide) (by decide) (nc := 0) (ns := 0) rfl rfl rfl (cu2 := 5) rfl (su2 := 146) rfl rfl (Pays.zero (fun P2 hP2 => th_u_cell hw (fun h q => hP h (hP2 h q)) hxl h_r_1)) rfl ?_
    refine Go.bipush (pc2 := 43) at_41 rfl (by decide) ?_
    refine bind_in hf ?_
    clear hf
    intro r_2 h_r_2 hf
    refine Go.calls (pc2 := 46) (as := [vI r_1, vI 16]) (S := []) (w := (some (vI r_2))) (os2 := [(n0, 4, O0)]) (sz2 := (n0 + 5)) (S2 := [vI r_2]) (rm := R_u_pos) at_43 rfl xc (by exact w_7 hw) (by exact w_8 hw) (by exact w_9 hw) rfl (by exact w_5 hw) (by decide) pd_u_pos (by decide) (Nat.le_of_ble_eq_true rfl) (by decide) (by decide) (nc := 0) (ns := 0) rfl rfl rfl (cu2 := 5) rfl (su2 := 146) rfl rfl (Pays.zero (fun P2 hP2 => th_u_pos hw h_r_2)) rfl ?_
    refine Go.istore (pc2 := 48) (L2 := [none, some (vR sa), some (vR n0), some (vI v3), some (vI r_2), none, none]) at_46 rfl (Nat.le_of_ble_eq_true rfl) rfl ?_
    refine Go.aloadN (pc2 := 49) at_48 rfl rfl ?_
    refine Go.iloadN (pc2 := 50) at_49 rfl rfl ?_
    refine Go.iconst (pc2 := 51) at_50 rfl (by decide) ?_
    refine Go.iadd (pc2 := 52) at_51 rfl ?_
    refine bind_in hf ?_
    clear hf
    intro r_3 h_r_3 hf
    refine Go.calls (pc2 := 55) (as := [vR sa, vI (w32 (v3 + 1))]) (S := []) (w := (some (vI r_3))) (os2 := [(n0, 4, O0)]) (sz2 := (n0 + 5)) (S2 := [vI r_3]) (rm := R_u_cell) at_52 rfl xc (by exact w_3 hw) (by exact w_4 hw) (by exact w_6 hw) rfl (by exact w_5 hw) (by decide) pd_u_cell (by decide) (Nat.le_of_ble_eq_true rfl) (by decide) (by decide) (nc := 0) (ns := 0) rfl rfl rfl (cu2 := 5) rfl (su2 := 146) rfl rfl (Pays.zero (fun P2 hP2 => th_u_cell hw (fun h q => hP h (hP2 h q)) hxl h_r_3)) rfl ?_
    refine Go.istore (pc2 := 57) (L2 := [none, some (vR sa), some (vR n0), some (vI v3), some (vI r_2), some (vI r_3), none]) at_55 rfl (Nat.le_of_ble_eq_true rfl) rfl ?_
    refine Go.aloadN (pc2 := 58) at_57 rfl rfl ?_
    refine Go.iloadN (pc2 := 59) at_58 rfl rfl ?_
    refine Go.iconst (pc2 := 60) at_59 rfl (by decide) ?_
    refine Go.iadd (pc2 := 61) at_60 rfl ?_
    refine bind_in hf ?_
    clear hf
    intro r_4 h_r_4 hf
    refine Go.calls (pc2 := 64) (as := [vR sa, vI (w32 (v3 + 2))]) (S := []) (w := (some (vI r_4))) (os2 := [(n0, 4, O0)]) (sz2 := (n0 + 5)) (S2 := [vI r_4]) (rm := R_u_cell) at_61 rfl xc (by exact w_3 hw) (by exact w_4 hw) (by exact w_6 hw) rfl (by exact w_5 hw) (by decide) pd_u_cell (by decide) (Nat.le_of_ble_eq_true rfl) (by decide) (by decide) (nc := 0) (ns := 0) rfl rfl rfl (cu2 := 5) rfl (su2 := 146) rfl rfl (Pays.zero (fun P2 hP2 => th_u_cell hw (fun h q => hP h (hP2 h q)) hxl h_r_4)) rfl ?_
    refine Go.istore (pc2 := 66) (L2 := [none, some (vR sa), some (vR n0), some (vI v3), some (vI r_2), some (vI r_3), some (vI r_4)]) at_64 rfl (Nat.le_of_ble_eq_true rfl) rfl ?_
    refine Go.iload (pc2 := 68) at_66 rfl rfl ?_
    refine Go.iconst (pc2 := 69) at_68 rfl (by decide) ?_
    by_cases hc : r_2 < 4
    · replace hf := ifp hc hf
      refine Go.icmpF (pc2 := 72) at_69 (Int.not_le.mpr hc) rfl ?_
      refine Go.aloadN (pc2 := 73) at_72 rfl rfl ?_
      refine Go.iload (pc2 := 75) at_73 rfl rfl ?_
      refine Go.bipush (pc2 := 77) at_75 rfl (by decide) ?_
      refine bind_in hf ?_
      clear hf
      intro r_5 h_r_5 hf
      refine Go.calls (pc2 := 80) (as := [vI r_3, vI 9]) (S := [vR n0]) (w := (some (vI r_5))) (os2 := [(n0, 4, O0)]) (sz2 := (n0 + 5)) (S2 := [vI r_5, vR n0]) (rm := R_u_pos) at_77 rfl xc (by exact w_7 hw) (by exact w_8 hw) (by exact w_9 hw) rfl (by exact w_5 hw) (by decide) pd_u_pos (by decide) (Nat.le_of_ble_eq_true rfl) (by decide) (by decide) (nc := 0) (ns := 0) rfl rfl rfl (cu2 := 5) rfl (su2 := 146) rfl rfl (Pays.zero (fun P2 hP2 => th_u_pos hw h_r_5)) rfl ?_
      refine Go.iconst (pc2 := 81) at_80 rfl (by decide) ?_
      refine Go.isub (pc2 := 82) at_81 rfl ?_
      refine Go.iload (pc2 := 84) at_82 rfl rfl ?_
      refine Go.bipush (pc2 := 86) at_84 rfl (by decide) ?_
      refine bind_in hf ?_
      clear hf
      intro r_6 h_r_6 hf
      refine Go.calls (pc2 := 89) (as := [vI r_4, vI 9]) (S := [vI (w32 (r_5 - 4)), vR n0]) (w := (some (vI r_6))) (os2 := [(n0, 4, O0)]) (sz2 := (n0 + 5)) (S2 := [vI r_6, vI (w32 (r_5 - 4)), vR n0]) (rm := R_u_pos) at_86 rfl xc (by exact w_7 hw) (by exact w_8 hw) (by exact w_9 hw) rfl (by exact w_5 hw) (by decide) pd_u_pos (by decide) (Nat.le_of_ble_eq_true rfl) (by decide) (by decide) (nc := 0) (ns := 0) rfl rfl rfl (cu2 := 5) rfl (su2 := 146) rfl rfl (Pays.zero (fun P2 hP2 => th_u_pos hw h_r_6)) rfl ?_
      refine Go.iconst (pc2 := 90) at_89 rfl (by decide) ?_
      refine Go.isub (pc2 := 91) at_90 rfl ?_
      refine bind_in hf ?_
      clear hf
      intro r_7 h_r_7 hf
      refine Go.callv (pc2 := 94) (as := [vI (w32 (r_5 - 4)), vI (w32 (r_6 - 4))]) (S := []) (w := (some (vI r_7.1))) (os2 := [(n0, 4, r_7.2)]) (sz2 := (n0 + 5)) (S2 := [vI r_7.1]) (rm := R_k_addPoint) at_91 rfl xc (by exact w_37 hw) (by exact w_38 hw) D_C (by exact w_40 hw) (by exact w_39 hw) (by exact w_41 hw) rfl (by exact w_2 hw) (q := 0) rfl (by decide) pd_k_addPoint (by decide) (Nat.le_of_ble_eq_true rfl) (by decide) (by decide) (nc := 0) (ns := 0) rfl rfl rfl (cu2 := 5) rfl (su2 := 146) rfl rfl (Pays.one (q := 0) rfl rfl (fun P2 hP2 => th_k_addPoint hw h_r_7)) rfl ?_
      refine Go.pop (pc2 := 95) at_94 rfl rfl ?_
      refine Go.goto (pc2 := 191) at_95 (by decide) (by decide) ?_
      exact Go.mask [true, true, true, true, false, false, false] (ti_u_law_191 hw hst hP hxl hf K)
    · replace hf := ifn hc hf
      refine Go.icmpT (pc2 := 98) at_69 (Int.not_lt.mp hc) (by decide) (by decide) ?_
      refine Go.iload (pc2 := 100) at_98 rfl rfl ?_
      refine Go.bipush (pc2 := 102) at_100 rfl (by decide) ?_
      by_cases hc : r_2 < 8
      · replace hf := ifp hc hf
        refine Go.icmpF (pc2 := 105) at_102 (Int.not_le.mpr hc) rfl ?_
        refine Go.aloadN (pc2 := 106) at_105 rfl rfl ?_
        refine Go.iload (pc2 := 108) at_106 rfl rfl ?_
        refine Go.sipush (pc2 := 111) at_108 rfl (by decide) ?_
        refine bind_in hf ?_
        clear hf
        intro r_8 h_r_8 hf
        refine Go.calls (pc2 := 114) (as := [vI r_3, vI 511]) (S := [vR n0]) (w := (some (vI r_8))) (os2 := [(n0, 4, O0)]) (sz2 := (n0 + 5)) (S2 := [vI r_8, vR n0]) (rm := R_u_pos) at_111 rfl xc (by exact w_7 hw) (by exact w_8 hw) (by exact w_9 hw) rfl (by exact w_5 hw) (by decide) pd_u_pos (by decide) (Nat.le_of_ble_eq_true rfl) (by decide) (by decide) (nc := 0) (ns := 0) rfl rfl rfl (cu2 := 5) rfl (su2 := 146) rfl rfl (Pays.zero (fun P2 hP2 => th_u_pos hw h_r_8)) rfl ?_
        refine Go.sipush (pc2 := 117) at_114 rfl (by decide) ?_
        refine Go.isub (pc2 := 118) at_117 rfl ?_
        refine Go.iload (pc2 := 120) at_118 rfl rfl ?_
        refine Go.sipush (pc2 := 123) at_120 rfl (by decide) ?_
        refine bind_in hf ?_
        clear hf
        intro r_9 h_r_9 hf
        refine Go.calls (pc2 := 126) (as := [vI r_4, vI 511]) (S := [vI (w32 (r_8 - 255)), vR n0]) (w := (some (vI r_9))) (os2 := [(n0, 4, O0)]) (sz2 := (n0 + 5)) (S2 := [vI r_9, vI (w32 (r_8 - 255)), vR n0]) (rm := R_u_pos) at_123 rfl xc (by exact w_7 hw) (by exact w_8 hw) (by exact w_9 hw) rfl (by exact w_5 hw) (by decide) pd_u_pos (by decide) (Nat.le_of_ble_eq_true rfl) (by decide) (by decide) (nc := 0) (ns := 0) rfl rfl rfl (cu2 := 5) rfl (su2 := 146) rfl rfl (Pays.zero (fun P2 hP2 => th_u_pos hw h_r_9)) rfl ?_
        refine Go.sipush (pc2 := 129) at_126 rfl (by decide) ?_
        refine Go.isub (pc2 := 130) at_129 rfl ?_
        refine bind_in hf ?_
        clear hf
        intro r_10 h_r_10 hf
        refine Go.callv (pc2 := 133) (as := [vI (w32 (r_8 - 255)), vI (w32 (r_9 - 255))]) (S := []) (w := (some (vI r_10.1))) (os2 := [(n0, 4, r_10.2)]) (sz2 := (n0 + 5)) (S2 := [vI r_10.1]) (rm := R_k_addPoint) at_130 rfl xc (by exact w_37 hw) (by exact w_38 hw) D_C (by exact w_40 hw) (by exact w_39 hw) (by exact w_41 hw) rfl (by exact w_2 hw) (q := 0) rfl (by decide) pd_k_addPoint (by decide) (Nat.le_of_ble_eq_true rfl) (by decide) (by decide) (nc := 0) (ns := 0) rfl rfl rfl (cu2 := 5) rfl (su2 := 146) rfl rfl (Pays.one (q := 0) rfl rfl (fun P2 hP2 => th_k_addPoint hw h_r_10)) rfl ?_
        refine Go.pop (pc2 := 134) at_133 rfl rfl ?_
        refine Go.goto (pc2 := 191) at_134 (by decide) (by decide) ?_
        exact Go.mask [true, true, true, true, false, false, false] (ti_u_law_191 hw hst hP hxl hf K)
      · replace hf := ifn hc hf
        refine Go.icmpT (pc2 := 137) at_102 (Int.not_lt.mp hc) (by decide) (by decide) ?_
        refine Go.iload (pc2 := 139) at_137 rfl rfl ?_
        refine Go.bipush (pc2 := 141) at_139 rfl (by decide) ?_
        by_cases hc : r_2 < 12
        · replace hf := ifp hc hf
          refine Go.icmpF (pc2 := 144) at_141 (Int.not_le.mpr hc) rfl ?_
          refine Go.aloadN (pc2 := 145) at_144 rfl rfl ?_
          refine bind_in hf ?_
          clear hf
          intro r_11 h_r_11 hf
          refine Go.callv (pc2 := 148) (as := []) (S := []) (w := (some (vI r_11.1))) (os2 := [(n0, 4, r_11.2)]) (sz2 := (n0 + 5)) (S2 := [vI r_11.1]) (rm := R_k_solve) at_145 rfl xc (by exact w_54 hw) (by exact w_55 hw) D_C (by exact w_57 hw) (by exact w_56 hw) (by exact w_58 hw) rfl (by exact w_2 hw) (q := 0) rfl (by decide) pd_k_solve (by decide) (Nat.le_of_ble_eq_true rfl) (by decide) (by decide) (nc := 0) (ns := 0) rfl rfl rfl (cu2 := 5) rfl (su2 := 146) rfl rfl (Pays.one (q := 0) rfl rfl (fun P2 hP2 => th_k_solve hw h_r_11)) rfl ?_
          refine Go.pop (pc2 := 149) at_148 rfl rfl ?_
          refine Go.goto (pc2 := 191) at_149 (by decide) (by decide) ?_
          exact Go.mask [true, true, true, true, false, false, false] (ti_u_law_191 hw hst hP hxl hf K)
        · replace hf := ifn hc hf
          refine Go.icmpT (pc2 := 152) at_141 (Int.not_lt.mp hc) (by decide) (by decide) ?_
          refine Go.iload (pc2 := 154) at_152 rfl rfl ?_
          refine Go.bipush (pc2 := 156) at_154 rfl (by decide) ?_
          by_cases hc : r_2 < 14
          · replace hf := ifp hc hf
            refine Go.icmpF (pc2 := 159) at_156 (Int.not_le.mpr hc) rfl ?_
            refine Go.aloadN (pc2 := 160) at_159 rfl rfl ?_
            refine bind_in hf ?_
            clear hf
            intro r_12 h_r_12 hf
            refine Go.callv (pc2 := 163) (as := []) (S := []) (w := (some (vI r_12.1))) (os2 := [(n0, 4, r_12.2)]) (sz2 := (n0 + 5)) (S2 := [vI r_12.1]) (rm := R_k_removeLast) at_160 rfl xc (by exact w_190 hw) (by exact w_191 hw) D_C (by exact w_193 hw) (by exact w_192 hw) (by exact w_194 hw) rfl (by exact w_2 hw) (q := 0) rfl (by decide) pd_k_removeLast (by decide) (Nat.le_of_ble_eq_true rfl) (by decide) (by decide) (nc := 0) (ns := 0) rfl rfl rfl (cu2 := 5) rfl (su2 := 146) rfl rfl (Pays.one (q := 0) rfl rfl (fun P2 hP2 => th_k_removeLast hw h_r_12)) rfl ?_
            refine Go.pop (pc2 := 164) at_163 rfl rfl ?_
            refine Go.goto (pc2 := 191) at_164 (by decide) (by decide) ?_
            exact Go.mask [true, true, true, true, false, false, false] (ti_u_law_191 hw hst hP hxl hf K)
          · replace hf := ifn hc hf
            refine Go.icmpT (pc2 := 167) at_156 (Int.not_lt.mp hc) (by decide) (by decide) ?_
            refine Go.iload (pc2 := 169) at_167 rfl rfl ?_
            refine Go.bipush (pc2 := 171) at_169 rfl (by decide) ?_
            by_cases hc : r_2 = 14
            · replace hf := ifp hc hf
              refine Go.icmpF (pc2 := 174) at_171 (fun q => q hc) rfl ?_
              refine Go.aloadN (pc2 := 175) at_174 rfl rfl ?_
              refine bind_in hf ?_
              clear hf
              intro r_13 h_r_13 hf
              refine Go.callv (pc2 := 178) (as := []) (S := []) (w := (some (vI r_13.1))) (os2 := [(n0, 4, r_13.2)]) (sz2 := (n0 + 5)) (S2 := [vI r_13.1]) (rm := R_k_solve) at_175 rfl xc (by exact w_54 hw) (by exact w_55 hw) D_C (by exact w_57 hw) (by exact w_56 hw) (by exact w_58 hw) rfl (by exact w_2 hw) (q := 0) rfl (by decide) pd_k_solve (by decide) (Nat.le_of_ble_eq_true rfl) (by decide) (by decide) (nc := 0) (ns := 0) rfl rfl rfl (cu2 := 5) rfl (su2 := 146) rfl rfl (Pays.one (q := 0) rfl rfl (fun P2 hP2 => th_k_solve hw h_r_13)) rfl ?_
              refine Go.pop (pc2 := 179) at_178 rfl rfl ?_
              refine Go.aloadN (pc2 := 180) at_179 rfl rfl ?_
              refine bind_in hf ?_
              clear hf
              intro r_14 h_r_14 hf
              refine Go.callv (pc2 := 183) (as := []) (S := []) (w := (some (vI r_14.1))) (os2 := [(n0, 4, r_14.2)]) (sz2 := (n0 + 5)) (S2 := [vI r_14.1]) (rm := R_k_solve) at_180 rfl xc (by exact w_54 hw) (by exact w_55 hw) D_C (by exact w_57 hw) (by exact w_56 hw) (by exact w_58 hw) rfl (by exact w_2 hw) (q := 0) rfl (by decide) pd_k_solve (by decide) (Nat.le_of_ble_eq_true rfl) (by decide) (by decide) (nc := 0) (ns := 0) rfl rfl rfl (cu2 := 5) rfl (su2 := 146) rfl rfl (Pays.one (q := 0) rfl rfl (fun P2 hP2 => th_k_solve hw h_r_14)) rfl ?_
              refine Go.pop (pc2 := 184) at_183 rfl rfl ?_
              refine Go.goto (pc2 := 191) at_184 (by decide) (by decide) ?_
              exact Go.mask [true, true, true, true, false, false, false] (ti_u_law_191 hw hst hP hxl hf K)
            · replace hf := ifn hc hf
              refine Go.icmpT (pc2 := 187) at_171 hc (by decide) (by decide) ?_
              refine Go.aloadN (pc2 := 188) at_187 rfl rfl ?_
              refine bind_in hf ?_
              clear hf
              intro r_15 h_r_15 hf
              refine Go.callv (pc2 := 191) (as := []) (S := []) (w := none) (os2 := [(n0, 4, r_15)]) (sz2 := (n0 + 5)) (S2 := []) (rm := R_k_clear) at_188 rfl xc (by exact w_195 hw) (by exact w_196 hw) D_C (by exact w_198 hw) (by exact w_197 hw) (by exact w_199 hw) rfl (by exact w_2 hw) (q := 0) rfl (by decide) pd_k_clear (by decide) (Nat.le_of_ble_eq_true rfl) (by decide) (by decide) (nc := 0) (ns := 0) rfl rfl rfl (cu2 := 5) rfl (su2 := 146) rfl rfl (Pays.one (q := 0) rfl rfl (fun P2 hP2 => th_k_clear hw h_r_15)) rfl ?_
              exact Go.mask [true, true, true, true, false, false, false] (ti_u_law_191 hw hst hP hxl hf K)
  · replace hf := ifn hc hf
    refine Go.icmpT (pc2 := 206) at_33 (Int.not_lt.mp hc) (by decide) (by decide) ?_
    cases hf
    exact Go.mask [true, false, true, false, true, true, true] K
set_option maxRecDepth 65536 in
set_option maxHeartbeats 4000000 in
theorem th_u_law {l : Launch} {Z : State} {a0 : Array Value} (hw : ∀ d ∈ tables_1, d.before a0 Z = true) {n0 : Nat} {P : Heap → Prop} (hst : ∀ b, n0 ≤ b → StB D b P) {sa : Nat} {xs : List Int} (hP : ∀ h, P h → Scr Z sa xs h) (hxl : xs.length < 2147483648) {F : Nat} {rr : Int} (hf : u_law F xs = some rr) :
    Meth l Z D n0 P x code maxLocals ret room_1 [vR sa] [] n0 (QL rr) := by
  refine Meth.of (plainFor_of_name pn_law) (Nat.le_of_ble_eq_true rfl) ?_
  show G_u_law l Z n0 P 0 [some (vR sa), none, none, none, none, none, none] [] [] n0 0 0 (QL rr)
  unfold u_law at hf
  refine Go.aloadN (pc2 := 1) at_0 rfl rfl ?_
  refine Go.astoreN (pc2 := 2) (L2 := [some (vR sa), some (vR sa), none, none, none, none, none]) at_1 rfl (Nat.le_of_ble_eq_true rfl) rfl ?_
  refine Go.newo (pc2 := 5) (cw_ok hw) at_2 rfl xc D_C (by exact w_0 hw) (by exact w_1 hw) (by exact w_2 hw) (fun o h => nomatch h) hst (by decide) (by decide) (os2 := [(n0, 0, zM)]) rfl (sz2 := (n0 + 1)) rfl (cu2 := 1) rfl (su2 := 18) rfl ?_
  refine Go.dup (pc2 := 6) at_5 rfl rfl ?_
  refine Go.bipush (pc2 := 8) at_6 rfl (by decide) ?_
  refine Go.aloadN (pc2 := 9) at_8 rfl rfl ?_
  refine Go.iconst (pc2 := 10) at_9 rfl (by decide) ?_
  refine bind_in hf ?_
  clear hf
  intro r h_r hf
  refine Go.calls (pc2 := 13) (as := [vR sa, vI 0]) (S := [vI 8, vR n0, vR n0]) (w := (some (vI r))) (os2 := [(n0, 0, zM)]) (sz2 := (n0 + 1)) (S2 := [vI r, vI 8, vR n0, vR n0]) (rm := R_u_cell) at_10 rfl xc (by exact w_3 hw) (by exact w_4 hw) (by exact w_6 hw) rfl (by exact w_5 hw) (by decide) pd_u_cell (by decide) (Nat.le_of_ble_eq_true rfl) (by decide) (by decide) (nc := 0) (ns := 0) rfl rfl rfl (cu2 := 1) rfl (su2 := 18) rfl rfl (Pays.zero (fun P2 hP2 => th_u_cell hw (fun h q => hP h (hP2 h q)) hxl h_r)) rfl ?_
  refine Go.bipush (pc2 := 15) at_13 rfl (by decide) ?_
  refine bind_in hf ?_
  clear hf
  intro r_1 h_r_1 hf
  refine Go.calls (pc2 := 18) (as := [vI r, vI 25]) (S := [vI 8, vR n0, vR n0]) (w := (some (vI r_1))) (os2 := [(n0, 0, zM)]) (sz2 := (n0 + 1)) (S2 := [vI r_1, vI 8, vR n0, vR n0]) (rm := R_u_pos) at_15 rfl xc (by exact w_7 hw) (by exact w_8 hw) (by exact w_9 hw) rfl (by exact w_5 hw) (by decide) pd_u_pos (by decide) (Nat.le_of_ble_eq_true rfl) (by decide) (by decide) (nc := 0) (ns := 0) rfl rfl rfl (cu2 := 1) rfl (su2 := 18) rfl rfl (Pays.zero (fun P2 hP2 => th_u_pos hw h_r_1)) rfl ?_
  refine Go.iadd (pc2 := 19) at_18 rfl ?_
  refine Go.aloadN (pc2 := 20) at_19 rfl rfl ?_
  refine Go.iconst (pc2 := 21) at_20 rfl (by decide) ?_
  refine bind_in hf ?_
  clear hf
  intro r_2 h_r_2 hf
  refine Go.calls (pc2 := 24) (as := [vR sa, vI 1]) (S := [vI (w32 (8 + r_1)), vR n0, vR n0]) (w := (some (vI r_2))) (os2 := [(n0, 0, zM)]) (sz2 := (n0 + 1)) (S2 := [vI r_2, vI (w32 (8 + r_1)), vR n0, vR n0]) (rm := R_u_cell) at_21 rfl xc (by exact w_3 hw) (by exact w_4 hw) (by exact w_6 hw) rfl (by exact w_5 hw) (by decide) pd_u_cell (by decide) (Nat.le_of_ble_eq_true rfl) (by decide) (by decide) (nc := 0) (ns := 0) rfl rfl rfl (cu2 := 1) rfl (su2 := 18) rfl rfl (Pays.zero (fun P2 hP2 => th_u_cell hw (fun h q => hP h (hP2 h q)) hxl h_r_2)) rfl ?_
  refine bind_in hf ?_
  clear hf
  intro r_3 h_r_3 hf
  refine Go.callc (pc2 := 27) (as := [vI (w32 (8 + r_1)), vI r_2]) (S := [vR n0]) (w := none) (os2 := [(n0, 4, r_3)]) (sz2 := (n0 + 5)) (S2 := [vR n0]) (rm := R_k_ctor) at_24 rfl rfl rfl xc (by exact w_10 hw) (by exact w_11 hw) (by exact w_12 hw) rfl (by exact w_2 hw) (by decide) pd_k_ctor (by decide) (Nat.le_of_ble_eq_true rfl) (by decide) (by decide) (nc := 4) (ns := 128) rfl rfl rfl (cu2 := 5) rfl (su2 := 146) rfl rfl (Pays.one (q := 0) rfl rfl (fun P2 hP2 => th_k_ctor hw h_r_3)) rfl ?_
  refine Go.astoreN (pc2 := 28) (L2 := [some (vR sa), some (vR sa), some (vR n0), none, none, none, none]) at_27 rfl (Nat.le_of_ble_eq_true rfl) rfl ?_
  refine Go.iconst (pc2 := 29) at_28 rfl (by decide) ?_
  refine Go.istoreN (pc2 := 30) (L2 := [some (vR sa), some (vR sa), some (vR n0), some (vI 2), none, none, none]) at_29 rfl (Nat.le_of_ble_eq_true rfl) rfl ?_
  refine Go.mask [false, true, true, true, true, true, true] ?_
  refine loop_go hf (Gs := fun s => G_u_law l Z n0 P 30 [none, some (vR sa), some (vR n0), some (vI s.1), none, none, none] [] [(n0, 4, s.2)] ((n0 + 5)) 5 146 (QL rr)) (Gr := (Sum.elim (fun rz => G_u_law l Z n0 P 206 [none, none, some (vR n0), none, none, none, none] [] [(n0, 4, rz)] ((n0 + 5)) 5 146 (QL rr)) (fun rz => rz = rr))) (fun s x hx K => tb_u_law_30 (F := F) (v3 := s.1) (O0 := s.2) (x := x) hw hst hP hxl hx K) ?_
  clear hf
  intro r_4 hf
  rcases r_4 with r_5 | r_6
  · dsimp only [Sum.elim_inl] at hf ⊢
    refine Go.aloadN (pc2 := 207) at_206 rfl rfl ?_
    refine bind_in hf ?_
    clear hf
    intro r_7 h_r_7 hf
    refine Go.callv (pc2 := 210) (as := []) (S := []) (w := (some (vI r_7.1))) (os2 := [(n0, 4, r_7.2)]) (sz2 := (n0 + 5)) (S2 := [vI r_7.1]) (rm := R_k_solve) at_207 rfl xc (by exact w_54 hw) (by exact w_55 hw) D_C (by exact w_57 hw) (by exact w_56 hw) (by exact w_58 hw) rfl (by exact w_2 hw) (q := 0) rfl (by decide) pd_k_solve (by decide) (Nat.le_of_ble_eq_true rfl) (by decide) (by decide) (nc := 0) (ns := 0) rfl rfl rfl (cu2 := 5) rfl (su2 := 146) rfl rfl (Pays.one (q := 0) rfl rfl (fun P2 hP2 => th_k_solve hw h_r_7)) rfl ?_
    refine Go.pop (pc2 := 211) at_210 rfl rfl ?_
    refine Go.aloadN (pc2 := 212) at_211 rfl rfl ?_
    refine bind_in hf ?_
    clear hf
    intro r_8 h_r_8 hf
    refine Go.calls (pc2 := 215) (as := [vR n0]) (S := []) (w := (some (vI r_8))) (os2 := [(n0, 4, r_7.2)]) (sz2 := (n0 + 5)) (S2 := [vI r_8]) (rm := R_u_check) at_212 rfl xc (by exact w_46 hw) (by exact w_47 hw) (by exact w_48 hw) rfl (by exact w_5 hw) (by decide) pd_u_check (by decide) (Nat.le_of_ble_eq_true rfl) (by decide) (by decide) (nc := 0) (ns := 0) rfl rfl rfl (cu2 := 5) rfl (su2 := 146) rfl rfl (Pays.one (q := 0) rfl rfl (fun P2 hP2 => th_u_check hw h_r_8)) rfl ?_
    cases hf
    exact Go.retz at_215 rfl rfl (Nat.le_of_ble_eq_true rfl) (Nat.le_of_ble_eq_true rfl) (fun _ _ => rfl)
  · dsimp only [Sum.elim_inr] at hf ⊢
    cases hf
    rfl
set_option maxRecDepth 65536 in
set_option maxHeartbeats 4000000 in
theorem comes_1 {Post : Tables → Env → Array Value → State → Outcome → State → Prop} (hpost : ∀ tb e args s v u, (limb_1_1.after args s (.returned v) u = true ∧ limb_1_2.after args s (.returned v) u = true ∧ True) → FrameEnd s (.returned v) u (Jvm.fieldLocs frame_1_writes args s ++ Jvm.arrayLocs frame_1_arrays args s ++ Jvm.staticLocs frame_1_statics s) 24 384 → Post tb e args s (.returned v) u) :
    ArmFor flags0 classFile x code maxLocals ret World_1 tables_1 room_1 Calls_1 rest_1 Pre_1 Post := by
  intro l hfl _ _ p e ha hc hk s m args below hf hA hF happ hP
  obtain ⟨hcalls, hrest, hpre⟩ := hP
  obtain ⟨-, -, -, hnamed, -, -, -, hat⟩ := (Spec.applies_iff hf).mp happ
  obtain ⟨hg, hn⟩ := and_e (Cond.before_iff.mp (show (Jvm.Cond.and given_1 narrow_1).before args s = true from hpre))
  obtain ⟨g6, g7⟩ := and_e hg
  have hw := fun d (hd : d ∈ tables_1) => atoms_spec (ws := Jvm.Cond.code x code maxLocals ret :: tables_1) hat d (List.mem_cons_of_mem _ hd)
  obtain ⟨w0, rfl⟩ : ∃ w0 : Value, args = #[w0] := by
    have hs : args.size = 1 := by simpa [Cond.value, given_1] using g6
    obtain ⟨L⟩ := args
    match L, hs with
    | [w0], _ => exact ⟨w0, rfl⟩
  obtain ⟨n1, n2⟩ := and_e hn
  have hfit : Fit s := fun {y c} hc i hi => by
    obtain ⟨ha, rfl⟩ := Array.getElem?_eq_some_iff.mp hc
    have q := List.all_eq_true.mp ((Array.all_eq_true_iff_forall_mem.mp hF) _ (Array.getElem_mem ha)) i (List.mem_range.mpr hi)
    simpa [Array.getElem?_eq_getElem hi] using q
  obtain ⟨aa, xs, rfl, hlt, hxs, hx260, hxr⟩ := scr_start hfit n1 n2
  have hlaw := u_law_ok xs hx260 hxr
  have M := th_u_law (l := l) (Z := s) hw (n0 := s.heap.size) (P := Scr s aa xs) (fun b hb h h' a sl v h1 h2 W q => q.wr W (Nat.ne_of_lt (Nat.lt_of_lt_of_le hlt (Nat.le_trans hb h1)))) (fun _ q => q) (by omega) hlaw
  obtain ⟨n, o, h1, h2, h3, _, L, rfl, ⟨_, rfl, rfl, N, -⟩, hq⟩ := M (okS_cons trivial (fun u hu => nomatch hu)) s.heap ⟨rfl, Nat.le_refl _, fun q b k O e => by simp at e, fun q q2 b k O b2 k2 O2 e => by simp at e, fun _ _ E q => q.ext E, hxs⟩ tables_1 p e ha hc hk s m _ below hf ((Spec.applies_iff_loose hf).mp happ).1 ⟨by simp [Jvm.Own.rv], State.Warmed39.refl s, rfl⟩ trivial
  refine ⟨n, _, h1, h2, h3, hpost _ _ _ _ _ _ ⟨Cond.after_iff.mpr rfl, Cond.after_iff.mpr (eq_i res_at (Term.int_eval (1)) rfl), trivial⟩ ⟨hq.1, hq.2.1, (hq.2.2.sift fun y hy => Or.inr (N y hy)).mono (by decide) (by decide)⟩⟩
theorem main_1_1 : Claimed_1_1 := comes_1 fun _ _ _ _ _ _ h hF => ⟨h.1, hF⟩
theorem main_1_2 : Claimed_1_2 := comes_1 fun _ _ _ _ _ _ h hF => ⟨h.2.1, hF⟩

end Jvm.Pilot.@@N@@
namespace Jvm.Pilot.@@N@@
open Jvm Jvm.ClassFile Sem Op Lib Jvm.Free Jvm.Stand Jvm.Pilot.@@N@@.Jvm.D
/-! MADE BY PROGRAM (witnessworld.py) out of the Statement's table words and the real class files: 11 classes; the members and pool entries that the words name. The judged class is class 1, her method 4. -/
namespace start1
open Jvm.ClassFile
def u (s : String) : CpInfo := .utf8 (stringToUtf16 s)
/-- a pool by its gaps: so many unusable entries, then the entry; so many at the end -/
def gap : Nat → List CpInfo → List CpInfo
  | 0, r => r
  | n + 1, r => .unusable :: gap n r
def poolList (es : List (Nat × CpInfo)) (last : Nat) : List CpInfo := es.foldr (fun e r => gap e.1 (e.2 :: r)) (gap last [])
def pool (es : List (Nat × CpInfo)) (last : Nat) : Array CpInfo := ⟨poolList es last⟩
def fileOf (pool : Array CpInfo) (this : Nat) (attrs : Array Attribute := #[]) (ms : Array MethodInfo := #[]) (fl : Nat := 33) (sup : Nat := 0) (ifs : Array Nat := #[]) (fds : Array FieldInfo := #[]) : ClassFile where
  minorVersion := 0
  majorVersion := 65
  constantPool := pool
  accessFlags := fl
  thisClass := this
  superClass := sup
  interfaces := ifs
  fields := fds
  methods := ms
  attributes := attrs
def plain (name : String) (sup : Option ClassId) : Class where
  name := name
  kind := .ordinary
  loader := none
  accessFlags := 33
  super := sup
  interfaces := #[]
  cf := none
  fields := #[]
  methods := #[]
  instanceTypes := #[]
  staticTypes := #[]
  resolved := #[]
  callSites := []
  init := .initialized
  statics := none
  mirror := none

def pool0 : Array CpInfo := pool [(5, u "<init>"), (0, u "()V"), (1, .class_ 10), (1, u "java/lang/Object")] 113

def k0c0 : Code := { maxStack := 0, maxLocals := 1, code := object_method_1_code, exceptionTable := #[], attributes := #[] }
def k0m0 : Method := { name := "<init>", desc := "()V", sig := { parameters := [], returnType := none }, accessFlags := 1, code := some k0c0 }
/-- java/lang/Object -/
def k0 : Class := { plain "java/lang/Object" none with
  accessFlags := 33
  interfaces := #[]
  cf := some (fileOf pool0 8 #[] #[{ accessFlags := 1, nameIndex := 5, descriptorIndex := 6, attributes := #[] }] 33 0 #[] #[])
  fields := #[]
  methods := #[k0m0]
  instanceTypes := #[]
  staticTypes := #[]
  resolved := Array.replicate 124 none
  statics := none }

def pool1 : Array CpInfo := pool [(2, .class_ 4), (1, u "java/lang/Object"), (0, u "<init>"), (0, u "()V"), (0, .methodref 8 9), (0, .class_ 10), (0, .nameAndType 11 12), (0, u "MinCircle"), (0, u "isSolved"), (0, u "()Z"), (0, .methodref 8 14), (0, .nameAndType 15 16), (0, u "centreDen"), (0, u "()J"), (0, .methodref 8 18), (0, .nameAndType 19 16), (0, u "centreXNum"), (0, .methodref 8 21), (0, .nameAndType 22 16), (0, u "centreYNum"), (0, .methodref 8 24), (0, .nameAndType 25 16), (0, u "radiusSqNum"), (0, .methodref 8 27), (0, .nameAndType 28 29), (0, u "count"), (0, u "()I"), (0, .methodref 8 31), (0, .nameAndType 32 33), (0, u "pointX"), (0, u "(I)I"), (0, .methodref 8 35), (0, .nameAndType 36 33), (0, u "pointY"), (0, .methodref 8 38), (0, .nameAndType 39 40), (0, u "locate"), (0, u "(II)I"), (0, .methodref 8 42), (0, .nameAndType 43 44), (0, u "onBoundary"), (0, u "(I)Z"), (0, .methodref 8 46), (0, .nameAndType 47 29), (0, u "boundaryCount"), (0, .methodref 49 50), (0, .class_ 51), (0, .nameAndType 52 53), (0, u "MinCircleOwnLaw"), (0, u "cell"), (0, u "([II)I"), (0, .methodref 49 55), (0, .nameAndType 56 40), (0, u "pos"), (0, .methodref 8 58), (0, .nameAndType 5 59), (0, u "(II)V"), (0, .methodref 8 61), (0, .nameAndType 62 40), (0, u "addPoint"), (0, .methodref 8 64), (0, .nameAndType 65 29), (0, u "solve"), (0, .methodref 8 67), (0, .nameAndType 68 12), (0, u "removeLast"), (0, .methodref 8 70), (0, .nameAndType 71 6), (0, u "clear"), (0, .methodref 49 73), (0, .nameAndType 74 75), (0, u "check"), (0, u "(LMinCircle;)Z"), (3, u "law"), (0, u "([I)Z")] 4

def k1m0 : Method := { name := "<init>", desc := "()V", sig := { parameters := [], returnType := none }, accessFlags := 1, code := none }
def k1c1 : Code := { maxStack := 2, maxLocals := 2, code := method_2_code, exceptionTable := #[], attributes := #[] }
def k1m1 : Method := { name := "cell", desc := "([II)I", sig := { parameters := [(.array .int), .int], returnType := some .int }, accessFlags := 10, code := some k1c1 }
def k1c2 : Code := { maxStack := 2, maxLocals := 3, code := method_3_code, exceptionTable := #[], attributes := #[] }
def k1m2 : Method := { name := "pos", desc := "(II)I", sig := { parameters := [.int, .int], returnType := some .int }, accessFlags := 10, code := some k1c2 }
def k1c3 : Code := { maxStack := 6, maxLocals := 26, code := method_4_code, exceptionTable := #[], attributes := #[] }
def k1m3 : Method := { name := "check", desc := "(LMinCircle;)Z", sig := { parameters := [(.object "MinCircle")], returnType := some .boolean }, accessFlags := 10, code := some k1c3 }
def k1c4 : Code := { maxStack := 5, maxLocals := 7, code := code, exceptionTable := #[], attributes := #[] }
def k1m4 : Method := { name := "law", desc := "([I)Z", sig := { parameters := [(.array .int)], returnType := some .boolean }, accessFlags := 9, code := some k1c4 }
/-- MinCircleOwnLaw -/
def k1 : Class := { plain "MinCircleOwnLaw" (some 0) with
  accessFlags := 33
  interfaces := #[]
  cf := some (fileOf pool1 49 #[] #[{ accessFlags := 1, nameIndex := 5, descriptorIndex := 6, attributes := #[] }, { accessFlags := 10, nameIndex := 52, descriptorIndex := 53, attributes := #[] }, { accessFlags := 10, nameIndex := 56, descriptorIndex := 40, attributes := #[] }, { accessFlags := 10, nameIndex := 74, descriptorIndex := 75, attributes := #[] }, { accessFlags := 9, nameIndex := 79, descriptorIndex := 80, attributes := #[] }] 33 2 #[] #[])
  fields := #[]
  methods := #[k1m0, k1m1, k1m2, k1m3, k1m4]
  instanceTypes := #[]
  staticTypes := #[]
  resolved := Array.replicate 85 none
  statics := none }

def pool2 : Array CpInfo := pool [(1, .methodref 2 3), (0, .class_ 4), (0, .nameAndType 5 6), (0, u "java/lang/Object"), (0, u "<init>"), (0, u "()V"), (0, .fieldref 8 9), (0, .class_ 10), (0, .nameAndType 11 12), (0, u "MinCircle"), (0, u "xs"), (0, u "[I"), (0, .fieldref 8 14), (0, .nameAndType 15 12), (0, u "ys"), (0, .fieldref 8 17), (0, .nameAndType 18 12), (0, u "order"), (0, .fieldref 8 20), (0, .nameAndType 21 22), (0, u "onB"), (0, u "[Z"), (0, .integer 65535), (0, .fieldref 8 25), (0, .nameAndType 26 27), (0, u "cap"), (0, u "I"), (0, .fieldref 8 29), (0, .nameAndType 30 27), (0, u "rng"), (0, .fieldref 8 32), (0, .nameAndType 33 27), (0, u "n"), (0, .fieldref 8 35), (0, .nameAndType 36 37), (0, u "solved"), (0, u "Z"), (0, .fieldref 8 39), (0, .nameAndType 40 41), (0, u "td"), (0, u "J"), (0, .methodref 8 43), (0, .nameAndType 44 45), (0, u "inRange"), (0, u "(II)Z"), (0, .fieldref 8 47), (0, .nameAndType 48 27), (0, u "bCount"), (0, .methodref 8 50), (0, .nameAndType 51 6), (0, u "shuffle"), (0, .methodref 8 53), (0, .nameAndType 54 6), (0, u "runIncremental"), (0, .methodref 8 56), (0, .nameAndType 57 6), (0, u "finishDisk"), (0, .fieldref 8 59), (0, .nameAndType 60 41), (0, u "cxNum"), (0, .fieldref 8 62), (0, .nameAndType 63 41), (0, u "cyNum"), (0, .fieldref 8 65), (0, .nameAndType 66 41), (0, u "den"), (0, .fieldref 8 68), (0, .nameAndType 69 41), (0, u "rNum"), (0, .fieldref 8 71), (0, .nameAndType 72 27), (0, u "kindV"), (0, .methodref 8 74), (0, .nameAndType 75 76), (0, u "pwFinal"), (0, u "(II)J"), (0, .integer 1103515245), (0, .integer 8388607), (0, .methodref 8 80), (0, .nameAndType 81 82), (0, u "nextRand"), (0, u "(I)I"), (0, .methodref 8 84), (0, .nameAndType 85 86), (0, u "setPoint"), (0, u "(I)V"), (0, .methodref 8 88), (0, .nameAndType 89 90), (0, u "outside"), (0, u "(I)Z"), (0, .methodref 8 92), (0, .nameAndType 93 86), (0, u "extendOne"), (0, .methodref 8 95), (0, .nameAndType 96 97), (0, u "extendTwo"), (0, u "(II)V"), (0, .methodref 8 99), (0, .nameAndType 100 97), (0, u "setPair"), (0, .methodref 8 102), (0, .nameAndType 103 104), (0, u "setTriple"), (0, u "(III)V"), (0, .fieldref 8 106), (0, .nameAndType 107 41), (0, u "tnx"), (0, .fieldref 8 109), (0, .nameAndType 110 41), (0, u "tny"), (0, .fieldref 8 112), (0, .nameAndType 113 41), (0, u "trr"), (0, .long 2), (7, .methodref 8 123), (0, .nameAndType 124 125), (0, u "absL"), (0, u "(J)J"), (0, .methodref 8 127), (0, .nameAndType 128 129), (0, u "gcd"), (0, u "(JJ)J"), (0, .methodref 8 131), (0, .nameAndType 132 6), (0, u "recordRadius"), (0, .methodref 8 134), (0, .nameAndType 135 136), (0, u "computeKind"), (0, u "()I"), (0, u "MIN_COORD"), (2, u "MAX_COORD"), (1, u "MIN_CAPACITY"), (1, u "MAX_CAPACITY"), (1, u "MIN_SEED"), (1, u "MAX_SEED"), (0, u "REFUSED"), (1, u "KIND_NONE"), (1, u "KIND_POINT"), (0, u "KIND_PAIR"), (1, u "KIND_TRIPLE"), (1, u "LOC_NONE"), (0, u "LOC_INSIDE"), (0, u "LOC_ON"), (0, u "LOC_OUTSIDE"), (3, u "addPoint"), (0, u "(II)I"), (0, u "removeLast"), (0, u "()Z"), (0, u "clear"), (0, u "solve"), (0, u "count"), (0, u "pointX"), (0, u "pointY"), (0, u "isSolved"), (0, u "centreXNum"), (0, u "()J"), (0, u "centreYNum"), (0, u "centreDen"), (0, u "radiusSqNum"), (1, u "boundaryCount"), (0, u "onBoundary"), (0, u "locate")] 2

def k2c0 : Code := { maxStack := 3, maxLocals := 5, code := prog_1_method_1_code, exceptionTable := #[], attributes := #[] }
def k2m0 : Method := { name := "<init>", desc := "(II)V", sig := { parameters := [.int, .int], returnType := none }, accessFlags := 1, code := some k2c0 }
def k2c1 : Code := { maxStack := 3, maxLocals := 4, code := prog_1_method_2_code, exceptionTable := #[], attributes := #[] }
def k2m1 : Method := { name := "addPoint", desc := "(II)I", sig := { parameters := [.int, .int], returnType := some .int }, accessFlags := 1, code := some k2c1 }
def k2c2 : Code := { maxStack := 3, maxLocals := 1, code := prog_1_method_3_code, exceptionTable := #[], attributes := #[] }
def k2m2 : Method := { name := "removeLast", desc := "()Z", sig := { parameters := [], returnType := some .boolean }, accessFlags := 1, code := some k2c2 }
def k2c3 : Code := { maxStack := 2, maxLocals := 1, code := prog_1_method_4_code, exceptionTable := #[], attributes := #[] }
def k2m3 : Method := { name := "clear", desc := "()V", sig := { parameters := [], returnType := none }, accessFlags := 1, code := some k2c3 }
def k2c4 : Code := { maxStack := 2, maxLocals := 1, code := prog_1_method_5_code, exceptionTable := #[], attributes := #[] }
def k2m4 : Method := { name := "solve", desc := "()I", sig := { parameters := [], returnType := some .int }, accessFlags := 1, code := some k2c4 }
def k2c5 : Code := { maxStack := 1, maxLocals := 1, code := prog_1_method_6_code, exceptionTable := #[], attributes := #[] }
def k2m5 : Method := { name := "count", desc := "()I", sig := { parameters := [], returnType := some .int }, accessFlags := 1, code := some k2c5 }
def k2c6 : Code := { maxStack := 2, maxLocals := 2, code := prog_1_method_7_code, exceptionTable := #[], attributes := #[] }
def k2m6 : Method := { name := "pointX", desc := "(I)I", sig := { parameters := [.int], returnType := some .int }, accessFlags := 1, code := some k2c6 }
def k2c7 : Code := { maxStack := 2, maxLocals := 2, code := prog_1_method_8_code, exceptionTable := #[], attributes := #[] }
def k2m7 : Method := { name := "pointY", desc := "(I)I", sig := { parameters := [.int], returnType := some .int }, accessFlags := 1, code := some k2c7 }
def k2c8 : Code := { maxStack := 1, maxLocals := 1, code := prog_1_method_9_code, exceptionTable := #[], attributes := #[] }
def k2m8 : Method := { name := "isSolved", desc := "()Z", sig := { parameters := [], returnType := some .boolean }, accessFlags := 1, code := some k2c8 }
def k2c9 : Code := { maxStack := 2, maxLocals := 1, code := prog_1_method_10_code, exceptionTable := #[], attributes := #[] }
def k2m9 : Method := { name := "centreXNum", desc := "()J", sig := { parameters := [], returnType := some .long }, accessFlags := 1, code := some k2c9 }
def k2c10 : Code := { maxStack := 2, maxLocals := 1, code := prog_1_method_11_code, exceptionTable := #[], attributes := #[] }
def k2m10 : Method := { name := "centreYNum", desc := "()J", sig := { parameters := [], returnType := some .long }, accessFlags := 1, code := some k2c10 }
def k2c11 : Code := { maxStack := 2, maxLocals := 1, code := prog_1_method_12_code, exceptionTable := #[], attributes := #[] }
def k2m11 : Method := { name := "centreDen", desc := "()J", sig := { parameters := [], returnType := some .long }, accessFlags := 1, code := some k2c11 }
def k2c12 : Code := { maxStack := 2, maxLocals := 1, code := prog_1_method_13_code, exceptionTable := #[], attributes := #[] }
def k2m12 : Method := { name := "radiusSqNum", desc := "()J", sig := { parameters := [], returnType := some .long }, accessFlags := 1, code := some k2c12 }
def k2c13 : Code := { maxStack := 1, maxLocals := 1, code := prog_1_method_15_code, exceptionTable := #[], attributes := #[] }
def k2m13 : Method := { name := "boundaryCount", desc := "()I", sig := { parameters := [], returnType := some .int }, accessFlags := 1, code := some k2c13 }
def k2c14 : Code := { maxStack := 2, maxLocals := 2, code := prog_1_method_16_code, exceptionTable := #[], attributes := #[] }
def k2m14 : Method := { name := "onBoundary", desc := "(I)Z", sig := { parameters := [.int], returnType := some .boolean }, accessFlags := 1, code := some k2c14 }
def k2c15 : Code := { maxStack := 4, maxLocals := 5, code := prog_1_method_17_code, exceptionTable := #[], attributes := #[] }
def k2m15 : Method := { name := "locate", desc := "(II)I", sig := { parameters := [.int, .int], returnType := some .int }, accessFlags := 1, code := some k2c15 }
def k2c16 : Code := { maxStack := 2, maxLocals := 3, code := prog_1_method_18_code, exceptionTable := #[], attributes := #[] }
def k2m16 : Method := { name := "inRange", desc := "(II)Z", sig := { parameters := [.int, .int], returnType := some .boolean }, accessFlags := 2, code := some k2c16 }
def k2c17 : Code := { maxStack := 3, maxLocals := 3, code := prog_1_method_19_code, exceptionTable := #[], attributes := #[] }
def k2m17 : Method := { name := "nextRand", desc := "(I)I", sig := { parameters := [.int], returnType := some .int }, accessFlags := 2, code := some k2c17 }
def k2c18 : Code := { maxStack := 4, maxLocals := 4, code := prog_1_method_20_code, exceptionTable := #[], attributes := #[] }
def k2m18 : Method := { name := "shuffle", desc := "()V", sig := { parameters := [], returnType := none }, accessFlags := 2, code := some k2c18 }
def k2c19 : Code := { maxStack := 3, maxLocals := 2, code := prog_1_method_21_code, exceptionTable := #[], attributes := #[] }
def k2m19 : Method := { name := "runIncremental", desc := "()V", sig := { parameters := [], returnType := none }, accessFlags := 2, code := some k2c19 }
def k2c20 : Code := { maxStack := 3, maxLocals := 3, code := prog_1_method_22_code, exceptionTable := #[], attributes := #[] }
def k2m20 : Method := { name := "extendOne", desc := "(I)V", sig := { parameters := [.int], returnType := none }, accessFlags := 2, code := some k2c20 }
def k2c21 : Code := { maxStack := 4, maxLocals := 7, code := prog_1_method_23_code, exceptionTable := #[], attributes := #[] }
def k2m21 : Method := { name := "extendTwo", desc := "(II)V", sig := { parameters := [.int, .int], returnType := none }, accessFlags := 2, code := some k2c21 }
def k2c22 : Code := { maxStack := 6, maxLocals := 6, code := prog_1_method_24_code, exceptionTable := #[], attributes := #[] }
def k2m22 : Method := { name := "outside", desc := "(I)Z", sig := { parameters := [.int], returnType := some .boolean }, accessFlags := 2, code := some k2c22 }
def k2c23 : Code := { maxStack := 3, maxLocals := 2, code := prog_1_method_25_code, exceptionTable := #[], attributes := #[] }
def k2m23 : Method := { name := "setPoint", desc := "(I)V", sig := { parameters := [.int], returnType := none }, accessFlags := 2, code := some k2c23 }
def k2c24 : Code := { maxStack := 7, maxLocals := 7, code := prog_1_method_26_code, exceptionTable := #[], attributes := #[] }
def k2m24 : Method := { name := "setPair", desc := "(II)V", sig := { parameters := [.int, .int], returnType := none }, accessFlags := 2, code := some k2c24 }
def k2c25 : Code := { maxStack := 8, maxLocals := 22, code := prog_1_method_28_code, exceptionTable := #[], attributes := #[] }
def k2m25 : Method := { name := "setTriple", desc := "(III)V", sig := { parameters := [.int, .int, .int], returnType := none }, accessFlags := 2, code := some k2c25 }
def k2c26 : Code := { maxStack := 4, maxLocals := 3, code := prog_1_method_30_code, exceptionTable := #[], attributes := #[] }
def k2m26 : Method := { name := "absL", desc := "(J)J", sig := { parameters := [.long], returnType := some .long }, accessFlags := 2, code := some k2c26 }
def k2c27 : Code := { maxStack := 4, maxLocals := 12, code := prog_1_method_31_code, exceptionTable := #[], attributes := #[] }
def k2m27 : Method := { name := "gcd", desc := "(JJ)J", sig := { parameters := [.long, .long], returnType := some .long }, accessFlags := 2, code := some k2c27 }
def k2c28 : Code := { maxStack := 5, maxLocals := 5, code := prog_1_method_32_code, exceptionTable := #[], attributes := #[] }
def k2m28 : Method := { name := "finishDisk", desc := "()V", sig := { parameters := [], returnType := none }, accessFlags := 2, code := some k2c28 }
def k2c29 : Code := { maxStack := 4, maxLocals := 6, code := prog_1_method_33_code, exceptionTable := #[], attributes := #[] }
def k2m29 : Method := { name := "recordRadius", desc := "()V", sig := { parameters := [], returnType := none }, accessFlags := 2, code := some k2c29 }
def k2c30 : Code := { maxStack := 6, maxLocals := 7, code := prog_1_method_34_code, exceptionTable := #[], attributes := #[] }
def k2m30 : Method := { name := "pwFinal", desc := "(II)J", sig := { parameters := [.int, .int], returnType := some .long }, accessFlags := 2, code := some k2c30 }
def k2c31 : Code := { maxStack := 4, maxLocals := 11, code := prog_1_method_35_code, exceptionTable := #[], attributes := #[] }
def k2m31 : Method := { name := "computeKind", desc := "()I", sig := { parameters := [], returnType := some .int }, accessFlags := 2, code := some k2c31 }
/-- MinCircle -/
def k2 : Class := { plain "MinCircle" (some 0) with
  accessFlags := 49
  interfaces := #[]
  cf := some (fileOf pool2 8 #[] #[{ accessFlags := 1, nameIndex := 5, descriptorIndex := 97, attributes := #[] }, { accessFlags := 1, nameIndex := 165, descriptorIndex := 166, attributes := #[] }, { accessFlags := 1, nameIndex := 167, descriptorIndex := 168, attributes := #[] }, { accessFlags := 1, nameIndex := 169, descriptorIndex := 6, attributes := #[] }, { accessFlags := 1, nameIndex := 170, descriptorIndex := 136, attributes := #[] }, { accessFlags := 1, nameIndex := 171, descriptorIndex := 136, attributes := #[] }, { accessFlags := 1, nameIndex := 172, descriptorIndex := 82, attributes := #[] }, { accessFlags := 1, nameIndex := 173, descriptorIndex := 82, attributes := #[] }, { accessFlags := 1, nameIndex := 174, descriptorIndex := 168, attributes := #[] }, { accessFlags := 1, nameIndex := 175, descriptorIndex := 176, attributes := #[] }, { accessFlags := 1, nameIndex := 177, descriptorIndex := 176, attributes := #[] }, { accessFlags := 1, nameIndex := 178, descriptorIndex := 176, attributes := #[] }, { accessFlags := 1, nameIndex := 179, descriptorIndex := 176, attributes := #[] }, { accessFlags := 1, nameIndex := 181, descriptorIndex := 136, attributes := #[] }, { accessFlags := 1, nameIndex := 182, descriptorIndex := 90, attributes := #[] }, { accessFlags := 1, nameIndex := 183, descriptorIndex := 166, attributes := #[] }, { accessFlags := 2, nameIndex := 44, descriptorIndex := 45, attributes := #[] }, { accessFlags := 2, nameIndex := 81, descriptorIndex := 82, attributes := #[] }, { accessFlags := 2, nameIndex := 51, descriptorIndex := 6, attributes := #[] }, { accessFlags := 2, nameIndex := 54, descriptorIndex := 6, attributes := #[] }, { accessFlags := 2, nameIndex := 93, descriptorIndex := 86, attributes := #[] }, { accessFlags := 2, nameIndex := 96, descriptorIndex := 97, attributes := #[] }, { accessFlags := 2, nameIndex := 89, descriptorIndex := 90, attributes := #[] }, { accessFlags := 2, nameIndex := 85, descriptorIndex := 86, attributes := #[] }, { accessFlags := 2, nameIndex := 100, descriptorIndex := 97, attributes := #[] }, { accessFlags := 2, nameIndex := 103, descriptorIndex := 104, attributes := #[] }, { accessFlags := 2, nameIndex := 124, descriptorIndex := 125, attributes := #[] }, { accessFlags := 2, nameIndex := 128, descriptorIndex := 129, attributes := #[] }, { accessFlags := 2, nameIndex := 57, descriptorIndex := 6, attributes := #[] }, { accessFlags := 2, nameIndex := 132, descriptorIndex := 6, attributes := #[] }, { accessFlags := 2, nameIndex := 75, descriptorIndex := 76, attributes := #[] }, { accessFlags := 2, nameIndex := 135, descriptorIndex := 136, attributes := #[] }] 49 2 #[] #[{ accessFlags := 25, nameIndex := 137, descriptorIndex := 27, attributes := #[] }, { accessFlags := 25, nameIndex := 140, descriptorIndex := 27, attributes := #[] }, { accessFlags := 25, nameIndex := 142, descriptorIndex := 27, attributes := #[] }, { accessFlags := 25, nameIndex := 144, descriptorIndex := 27, attributes := #[] }, { accessFlags := 25, nameIndex := 146, descriptorIndex := 27, attributes := #[] }, { accessFlags := 25, nameIndex := 148, descriptorIndex := 27, attributes := #[] }, { accessFlags := 25, nameIndex := 149, descriptorIndex := 27, attributes := #[] }, { accessFlags := 25, nameIndex := 151, descriptorIndex := 27, attributes := #[] }, { accessFlags := 25, nameIndex := 153, descriptorIndex := 27, attributes := #[] }, { accessFlags := 25, nameIndex := 154, descriptorIndex := 27, attributes := #[] }, { accessFlags := 25, nameIndex := 156, descriptorIndex := 27, attributes := #[] }, { accessFlags := 25, nameIndex := 158, descriptorIndex := 27, attributes := #[] }, { accessFlags := 25, nameIndex := 159, descriptorIndex := 27, attributes := #[] }, { accessFlags := 25, nameIndex := 160, descriptorIndex := 27, attributes := #[] }, { accessFlags := 25, nameIndex := 161, descriptorIndex := 27, attributes := #[] }, { accessFlags := 2, nameIndex := 26, descriptorIndex := 27, attributes := #[] }, { accessFlags := 2, nameIndex := 30, descriptorIndex := 27, attributes := #[] }, { accessFlags := 2, nameIndex := 33, descriptorIndex := 27, attributes := #[] }, { accessFlags := 2, nameIndex := 36, descriptorIndex := 37, attributes := #[] }, { accessFlags := 2, nameIndex := 11, descriptorIndex := 12, attributes := #[] }, { accessFlags := 2, nameIndex := 15, descriptorIndex := 12, attributes := #[] }, { accessFlags := 2, nameIndex := 18, descriptorIndex := 12, attributes := #[] }, { accessFlags := 2, nameIndex := 21, descriptorIndex := 22, attributes := #[] }, { accessFlags := 2, nameIndex := 60, descriptorIndex := 41, attributes := #[] }, { accessFlags := 2, nameIndex := 63, descriptorIndex := 41, attributes := #[] }, { accessFlags := 2, nameIndex := 66, descriptorIndex := 41, attributes := #[] }, { accessFlags := 2, nameIndex := 69, descriptorIndex := 41, attributes := #[] }, { accessFlags := 2, nameIndex := 72, descriptorIndex := 27, attributes := #[] }, { accessFlags := 2, nameIndex := 48, descriptorIndex := 27, attributes := #[] }, { accessFlags := 2, nameIndex := 107, descriptorIndex := 41, attributes := #[] }, { accessFlags := 2, nameIndex := 110, descriptorIndex := 41, attributes := #[] }, { accessFlags := 2, nameIndex := 40, descriptorIndex := 41, attributes := #[] }, { accessFlags := 2, nameIndex := 113, descriptorIndex := 41, attributes := #[] }])
  fields := #[{ name := "MIN_COORD", type := .int, accessFlags := 25, slot := 0, constantValue := 0 }, { name := "MAX_COORD", type := .int, accessFlags := 25, slot := 1, constantValue := 0 }, { name := "MIN_CAPACITY", type := .int, accessFlags := 25, slot := 2, constantValue := 0 }, { name := "MAX_CAPACITY", type := .int, accessFlags := 25, slot := 3, constantValue := 0 }, { name := "MIN_SEED", type := .int, accessFlags := 25, slot := 4, constantValue := 0 }, { name := "MAX_SEED", type := .int, accessFlags := 25, slot := 5, constantValue := 0 }, { name := "REFUSED", type := .int, accessFlags := 25, slot := 6, constantValue := 0 }, { name := "KIND_NONE", type := .int, accessFlags := 25, slot := 7, constantValue := 0 }, { name := "KIND_POINT", type := .int, accessFlags := 25, slot := 8, constantValue := 0 }, { name := "KIND_PAIR", type := .int, accessFlags := 25, slot := 9, constantValue := 0 }, { name := "KIND_TRIPLE", type := .int, accessFlags := 25, slot := 10, constantValue := 0 }, { name := "LOC_NONE", type := .int, accessFlags := 25, slot := 11, constantValue := 0 }, { name := "LOC_INSIDE", type := .int, accessFlags := 25, slot := 12, constantValue := 0 }, { name := "LOC_ON", type := .int, accessFlags := 25, slot := 13, constantValue := 0 }, { name := "LOC_OUTSIDE", type := .int, accessFlags := 25, slot := 14, constantValue := 0 }, { name := "cap", type := .int, accessFlags := 2, slot := 0, constantValue := 0 }, { name := "rng", type := .int, accessFlags := 2, slot := 1, constantValue := 0 }, { name := "n", type := .int, accessFlags := 2, slot := 2, constantValue := 0 }, { name := "solved", type := .boolean, accessFlags := 2, slot := 3, constantValue := 0 }, { name := "xs", type := (.array .int), accessFlags := 2, slot := 4, constantValue := 0 }, { name := "ys", type := (.array .int), accessFlags := 2, slot := 5, constantValue := 0 }, { name := "order", type := (.array .int), accessFlags := 2, slot := 6, constantValue := 0 }, { name := "onB", type := (.array .boolean), accessFlags := 2, slot := 7, constantValue := 0 }, { name := "cxNum", type := .long, accessFlags := 2, slot := 8, constantValue := 0 }, { name := "cyNum", type := .long, accessFlags := 2, slot := 9, constantValue := 0 }, { name := "den", type := .long, accessFlags := 2, slot := 10, constantValue := 0 }, { name := "rNum", type := .long, accessFlags := 2, slot := 11, constantValue := 0 }, { name := "kindV", type := .int, accessFlags := 2, slot := 12, constantValue := 0 }, { name := "bCount", type := .int, accessFlags := 2, slot := 13, constantValue := 0 }, { name := "tnx", type := .long, accessFlags := 2, slot := 14, constantValue := 0 }, { name := "tny", type := .long, accessFlags := 2, slot := 15, constantValue := 0 }, { name := "td", type := .long, accessFlags := 2, slot := 16, constantValue := 0 }, { name := "trr", type := .long, accessFlags := 2, slot := 17, constantValue := 0 }]
  methods := #[k2m0, k2m1, k2m2, k2m3, k2m4, k2m5, k2m6, k2m7, k2m8, k2m9, k2m10, k2m11, k2m12, k2m13, k2m14, k2m15, k2m16, k2m17, k2m18, k2m19, k2m20, k2m21, k2m22, k2m23, k2m24, k2m25, k2m26, k2m27, k2m28, k2m29, k2m30, k2m31]
  instanceTypes := #[.int, .int, .int, .boolean, (.array .int), (.array .int), (.array .int), (.array .boolean), .long, .long, .long, .long, .int, .int, .long, .long, .long, .long]
  staticTypes := #[.int, .int, .int, .int, .int, .int, .int, .int, .int, .int, .int, .int, .int, .int, .int]
  resolved := Array.replicate 186 none
  statics := none }

def pool3 : Array CpInfo := pool [(1, u "java/lang/Cloneable"), (0, .class_ 1), (0, u "java/lang/Object"), (0, .class_ 3)] 3

/-- java/lang/Cloneable -/
def k3 : Class := { plain "java/lang/Cloneable" (some 0) with
  accessFlags := 1537
  interfaces := #[]
  cf := some (fileOf pool3 2 #[] #[] 1537 4 #[] #[])
  fields := #[]
  methods := #[]
  instanceTypes := #[]
  staticTypes := #[]
  resolved := Array.replicate 8 none
  statics := none }

def pool4 : Array CpInfo := pool [(1, u "java/io/Serializable"), (0, .class_ 1), (0, u "java/lang/Object"), (0, .class_ 3)] 3

/-- java/io/Serializable -/
def k4 : Class := { plain "java/io/Serializable" (some 0) with
  accessFlags := 1537
  interfaces := #[]
  cf := some (fileOf pool4 2 #[] #[] 1537 4 #[] #[])
  fields := #[]
  methods := #[]
  instanceTypes := #[]
  staticTypes := #[]
  resolved := Array.replicate 8 none
  statics := none }

/-- the primitive boolean -/
def k5 : Class := { plain "boolean" none with kind := .primitive 'Z', accessFlags := 0x411 }
/-- [Z -/
def k6 : Class := { plain "[Z" (some 0) with kind := .array 5 .boolean, interfaces := #[3, 4], accessFlags := 1041 }

/-- the primitive byte -/
def k7 : Class := { plain "byte" none with kind := .primitive 'B', accessFlags := 0x411 }
/-- [B -/
def k8 : Class := { plain "[B" (some 0) with kind := .array 7 .byte, interfaces := #[3, 4], accessFlags := 1041 }

/-- the primitive int -/
def k9 : Class := { plain "int" none with kind := .primitive 'I', accessFlags := 0x411 }
/-- [I -/
def k10 : Class := { plain "[I" (some 0) with kind := .array 9 .int, interfaces := #[3, 4], accessFlags := 1041 }

def heap : Heap := #[{ cls := 10, slots := #[.int 0, .int 1, .int 2], vm := .none }]
def classes : Array Class := #[k0, k1, k2, k3, k4, k5, k6, k7, k8, k9, k10]
def interned : List (Array UInt16 × Addr) := []
def slotsUsed : Nat := 3
def theMethod : MethodId := ⟨1, 4⟩
def args0 : Array Value := #[.ref 0]
def aboutOver (below : List Frame) : State where
  vm := { classes := classes, interned := interned.toArray }
  heap := heap
  slotsUsed := slotsUsed
  threads := #[{ frames := .invoking theMethod args0 :: below }]
def below0 : List Frame := [.native { method := ⟨0, 0⟩, args := #[] }]
def about1 : State := aboutOver below0
def p0 : Program := .bare "" "" ""
def e0 : Env := launch0.env 0 0 0
theorem w_frames : about1.frames = Frame.invoking theMethod args0 :: below0 := rfl
set_option maxRecDepth 65536 in
theorem w_args : argsFit about1.vm theMethod args0 = true := by decide +kernel
set_option maxRecDepth 65536 in
theorem w_heap : heapFits about1 = true := by decide +kernel
set_option maxRecDepth 65536 in
theorem w_runnable : about1.curStatus? = some .runnable := by decide +kernel
set_option maxRecDepth 65536 in
theorem w_alone : about1.alone = true := by decide +kernel
set_option maxRecDepth 65536 in
theorem w_named : about1.methodNamed? x = some theMethod := by decide +kernel
set_option maxRecDepth 65536 in
theorem w_hears : about1.hears theMethod below0 = true := by decide +kernel
set_option maxRecDepth 65536 in
theorem w_ripe : about1.ripe theMethod args0 below0 = true := by decide +kernel
theorem w_running : about1.status = .running := rfl
set_option maxRecDepth 65536 in
theorem w_room : about1.hasRoom e0.platform room_1 = true :=
  launch0.hasRoom_least _ room_1 (by decide +kernel) (by decide +kernel) (by decide +kernel) (by decide +kernel) (by decide +kernel) (by decide +kernel)
theorem allAtoms_all (ts : List Jvm.Cond) (a : Array Jvm.Value) (st : Jvm.State) : (allAtoms ts).before a st = ts.all (fun c => c.before a st) := by
  induction ts with
  | nil => rfl
  | cons c t ih =>
    show (Jvm.Cond.and c (allAtoms t)).before a st = _
    rw [Jvm.Cond.before_and, ih, List.all_cons]
def words1 : List Jvm.Cond := Jvm.Cond.code x code maxLocals ret :: tables_1
/-- a 'code' word, met by the world's own term for the bytes: nothing is compared byte by byte -/
theorem code_word {y : MethodName} {bytes : ByteArray} {mx : Nat} {rt : Option FieldType} {a : Array Value} {s : State} {m : MethodId} {meth : Method} {c : Code} (h1 : s.methodNamed? y = some m) (h2 : s.vm.method? m = some meth) (h3 : meth.code = some c) (h4 : c.code = bytes)
    (h5 : (c.maxLocals == mx && c.exceptionTable.isEmpty && decide (c.maxStack ≤ mostOperands) && decide (meth.sig.returnType = rt) && !meth.locks && decide (parseMethodDescriptor y.desc = some meth.sig)) = true) : (Jvm.Cond.code y bytes mx rt).before a s = true := by
  simp only [Bool.and_eq_true, beq_iff_eq, Bool.not_eq_true', decide_eq_true_eq] at h5
  obtain ⟨⟨⟨⟨⟨g1, g2⟩, g3⟩, g4⟩, g5⟩, g6⟩ := h5
  simp [Cond.before, Cond.holds, Cond.value, h1, h2, h3, h4, g1, g2, g3, g4, g5, g6]
def isCode : Jvm.Cond → Bool
  | .code _ _ _ _ => true
  | _ => false
theorem all_split {L : List Jvm.Cond} {P : Jvm.Cond → Bool} (h1 : L.all (fun c => isCode c || P c) = true) (h2 : ∀ c ∈ L.filter isCode, P c = true) : L.all P = true := by
  refine List.all_eq_true.mpr fun c hc => ?_
  have h := List.all_eq_true.mp h1 c hc
  rcases Bool.eq_false_or_eq_true (isCode c) with hi | hi
  · exact h2 c (List.mem_filter.mpr ⟨hc, hi⟩)
  · simpa [hi] using h
set_option maxRecDepth 65536 in
theorem w_c0 : (Jvm.Cond.code x code maxLocals ret).before args0 about1 = true := code_word (m := ⟨1, 4⟩) (meth := k1m4) (c := k1c4) (by decide +kernel) rfl rfl rfl (by decide +kernel)
set_option maxRecDepth 65536 in
theorem w_c1 : (Jvm.Cond.code ({ cls := "MinCircleOwnLaw", name := "cell", desc := "([II)I" } : Jvm.MethodName) method_2_code (2 : Nat) (Option.some Jvm.ClassFile.FieldType.int)).before args0 about1 = true := code_word (m := ⟨1, 1⟩) (meth := k1m1) (c := k1c1) (by decide +kernel) rfl rfl rfl (by decide +kernel)
set_option maxRecDepth 65536 in
theorem w_c2 : (Jvm.Cond.code ({ cls := "MinCircleOwnLaw", name := "pos", desc := "(II)I" } : Jvm.MethodName) method_3_code (3 : Nat) (Option.some Jvm.ClassFile.FieldType.int)).before args0 about1 = true := code_word (m := ⟨1, 2⟩) (meth := k1m2) (c := k1c2) (by decide +kernel) rfl rfl rfl (by decide +kernel)
set_option maxRecDepth 65536 in
theorem w_c3 : (Jvm.Cond.code ({ cls := "MinCircle", name := "<init>", desc := "(II)V" } : Jvm.MethodName) prog_1_method_1_code (5 : Nat) (Option.none : Option Jvm.ClassFile.FieldType)).before args0 about1 = true := code_word (m := ⟨2, 0⟩) (meth := k2m0) (c := k2c0) (by decide +kernel) rfl rfl rfl (by decide +kernel)
set_option maxRecDepth 65536 in
theorem w_c4 : (Jvm.Cond.code ({ cls := "java/lang/Object", name := "<init>", desc := "()V" } : Jvm.MethodName) object_method_1_code (1 : Nat) (Option.none : Option Jvm.ClassFile.FieldType)).before args0 about1 = true := code_word (m := ⟨0, 0⟩) (meth := k0m0) (c := k0c0) (by decide +kernel) rfl rfl rfl (by decide +kernel)
set_option maxRecDepth 65536 in
theorem w_c5 : (Jvm.Cond.code ({ cls := "MinCircle", name := "addPoint", desc := "(II)I" } : Jvm.MethodName) prog_1_method_2_code (4 : Nat) (Option.some Jvm.ClassFile.FieldType.int)).before args0 about1 = true := code_word (m := ⟨2, 1⟩) (meth := k2m1) (c := k2c1) (by decide +kernel) rfl rfl rfl (by decide +kernel)
set_option maxRecDepth 65536 in
theorem w_c6 : (Jvm.Cond.code ({ cls := "MinCircle", name := "inRange", desc := "(II)Z" } : Jvm.MethodName) prog_1_method_18_code (3 : Nat) (Option.some Jvm.ClassFile.FieldType.boolean)).before args0 about1 = true := code_word (m := ⟨2, 16⟩) (meth := k2m16) (c := k2c16) (by decide +kernel) rfl rfl rfl (by decide +kernel)
set_option maxRecDepth 65536 in
theorem w_c7 : (Jvm.Cond.code ({ cls := "MinCircleOwnLaw", name := "check", desc := "(LMinCircle;)Z" } : Jvm.MethodName) method_4_code (26 : Nat) (Option.some Jvm.ClassFile.FieldType.boolean)).before args0 about1 = true := code_word (m := ⟨1, 3⟩) (meth := k1m3) (c := k1c3) (by decide +kernel) rfl rfl rfl (by decide +kernel)
set_option maxRecDepth 65536 in
theorem w_c8 : (Jvm.Cond.code ({ cls := "MinCircle", name := "isSolved", desc := "()Z" } : Jvm.MethodName) prog_1_method_9_code (1 : Nat) (Option.some Jvm.ClassFile.FieldType.boolean)).before args0 about1 = true := code_word (m := ⟨2, 8⟩) (meth := k2m8) (c := k2c8) (by decide +kernel) rfl rfl rfl (by decide +kernel)
set_option maxRecDepth 65536 in
theorem w_c9 : (Jvm.Cond.code ({ cls := "MinCircle", name := "solve", desc := "()I" } : Jvm.MethodName) prog_1_method_5_code (1 : Nat) (Option.some Jvm.ClassFile.FieldType.int)).before args0 about1 = true := code_word (m := ⟨2, 4⟩) (meth := k2m4) (c := k2c4) (by decide +kernel) rfl rfl rfl (by decide +kernel)
set_option maxRecDepth 65536 in
theorem w_c10 : (Jvm.Cond.code ({ cls := "MinCircle", name := "shuffle", desc := "()V" } : Jvm.MethodName) prog_1_method_20_code (4 : Nat) (Option.none : Option Jvm.ClassFile.FieldType)).before args0 about1 = true := code_word (m := ⟨2, 18⟩) (meth := k2m18) (c := k2c18) (by decide +kernel) rfl rfl rfl (by decide +kernel)
set_option maxRecDepth 65536 in
theorem w_c11 : (Jvm.Cond.code ({ cls := "MinCircle", name := "nextRand", desc := "(I)I" } : Jvm.MethodName) prog_1_method_19_code (3 : Nat) (Option.some Jvm.ClassFile.FieldType.int)).before args0 about1 = true := code_word (m := ⟨2, 17⟩) (meth := k2m17) (c := k2c17) (by decide +kernel) rfl rfl rfl (by decide +kernel)
set_option maxRecDepth 65536 in
theorem w_c12 : (Jvm.Cond.code ({ cls := "MinCircle", name := "runIncremental", desc := "()V" } : Jvm.MethodName) prog_1_method_21_code (2 : Nat) (Option.none : Option Jvm.ClassFile.FieldType)).before args0 about1 = true := code_word (m := ⟨2, 19⟩) (meth := k2m19) (c := k2c19) (by decide +kernel) rfl rfl rfl (by decide +kernel)
set_option maxRecDepth 65536 in
theorem w_c13 : (Jvm.Cond.code ({ cls := "MinCircle", name := "setPoint", desc := "(I)V" } : Jvm.MethodName) prog_1_method_25_code (2 : Nat) (Option.none : Option Jvm.ClassFile.FieldType)).before args0 about1 = true := code_word (m := ⟨2, 23⟩) (meth := k2m23) (c := k2c23) (by decide +kernel) rfl rfl rfl (by decide +kernel)
set_option maxRecDepth 65536 in
theorem w_c14 : (Jvm.Cond.code ({ cls := "MinCircle", name := "outside", desc := "(I)Z" } : Jvm.MethodName) prog_1_method_24_code (6 : Nat) (Option.some Jvm.ClassFile.FieldType.boolean)).before args0 about1 = true := code_word (m := ⟨2, 22⟩) (meth := k2m22) (c := k2c22) (by decide +kernel) rfl rfl rfl (by decide +kernel)
set_option maxRecDepth 65536 in
theorem w_c15 : (Jvm.Cond.code ({ cls := "MinCircle", name := "extendOne", desc := "(I)V" } : Jvm.MethodName) prog_1_method_22_code (3 : Nat) (Option.none : Option Jvm.ClassFile.FieldType)).before args0 about1 = true := code_word (m := ⟨2, 20⟩) (meth := k2m20) (c := k2c20) (by decide +kernel) rfl rfl rfl (by decide +kernel)
set_option maxRecDepth 65536 in
theorem w_c16 : (Jvm.Cond.code ({ cls := "MinCircle", name := "extendTwo", desc := "(II)V" } : Jvm.MethodName) prog_1_method_23_code (7 : Nat) (Option.none : Option Jvm.ClassFile.FieldType)).before args0 about1 = true := code_word (m := ⟨2, 21⟩) (meth := k2m21) (c := k2c21) (by decide +kernel) rfl rfl rfl (by decide +kernel)
set_option maxRecDepth 65536 in
theorem w_c17 : (Jvm.Cond.code ({ cls := "MinCircle", name := "setPair", desc := "(II)V" } : Jvm.MethodName) prog_1_method_26_code (7 : Nat) (Option.none : Option Jvm.ClassFile.FieldType)).before args0 about1 = true := code_word (m := ⟨2, 24⟩) (meth := k2m24) (c := k2c24) (by decide +kernel) rfl rfl rfl (by decide +kernel)
set_option maxRecDepth 65536 in
theorem w_c18 : (Jvm.Cond.code ({ cls := "MinCircle", name := "setTriple", desc := "(III)V" } : Jvm.MethodName) prog_1_method_28_code (22 : Nat) (Option.none : Option Jvm.ClassFile.FieldType)).before args0 about1 = true := code_word (m := ⟨2, 25⟩) (meth := k2m25) (c := k2c25) (by decide +kernel) rfl rfl rfl (by decide +kernel)
set_option maxRecDepth 65536 in
theorem w_c19 : (Jvm.Cond.code ({ cls := "MinCircle", name := "finishDisk", desc := "()V" } : Jvm.MethodName) prog_1_method_32_code (5 : Nat) (Option.none : Option Jvm.ClassFile.FieldType)).before args0 about1 = true := code_word (m := ⟨2, 28⟩) (meth := k2m28) (c := k2c28) (by decide +kernel) rfl rfl rfl (by decide +kernel)
set_option maxRecDepth 65536 in
theorem w_c20 : (Jvm.Cond.code ({ cls := "MinCircle", name := "gcd", desc := "(JJ)J" } : Jvm.MethodName) prog_1_method_31_code (12 : Nat) (Option.some Jvm.ClassFile.FieldType.long)).before args0 about1 = true := code_word (m := ⟨2, 27⟩) (meth := k2m27) (c := k2c27) (by decide +kernel) rfl rfl rfl (by decide +kernel)
set_option maxRecDepth 65536 in
theorem w_c21 : (Jvm.Cond.code ({ cls := "MinCircle", name := "absL", desc := "(J)J" } : Jvm.MethodName) prog_1_method_30_code (3 : Nat) (Option.some Jvm.ClassFile.FieldType.long)).before args0 about1 = true := code_word (m := ⟨2, 26⟩) (meth := k2m26) (c := k2c26) (by decide +kernel) rfl rfl rfl (by decide +kernel)
set_option maxRecDepth 65536 in
theorem w_c22 : (Jvm.Cond.code ({ cls := "MinCircle", name := "recordRadius", desc := "()V" } : Jvm.MethodName) prog_1_method_33_code (6 : Nat) (Option.none : Option Jvm.ClassFile.FieldType)).before args0 about1 = true := code_word (m := ⟨2, 29⟩) (meth := k2m29) (c := k2c29) (by decide +kernel) rfl rfl rfl (by decide +kernel)
set_option maxRecDepth 65536 in
theorem w_c23 : (Jvm.Cond.code ({ cls := "MinCircle", name := "pwFinal", desc := "(II)J" } : Jvm.MethodName) prog_1_method_34_code (7 : Nat) (Option.some Jvm.ClassFile.FieldType.long)).before args0 about1 = true := code_word (m := ⟨2, 30⟩) (meth := k2m30) (c := k2c30) (by decide +kernel) rfl rfl rfl (by decide +kernel)
set_option maxRecDepth 65536 in
theorem w_c24 : (Jvm.Cond.code ({ cls := "MinCircle", name := "computeKind", desc := "()I" } : Jvm.MethodName) prog_1_method_35_code (11 : Nat) (Option.some Jvm.ClassFile.FieldType.int)).before args0 about1 = true := code_word (m := ⟨2, 31⟩) (meth := k2m31) (c := k2c31) (by decide +kernel) rfl rfl rfl (by decide +kernel)
set_option maxRecDepth 65536 in
theorem w_c25 : (Jvm.Cond.code ({ cls := "MinCircle", name := "centreDen", desc := "()J" } : Jvm.MethodName) prog_1_method_12_code (1 : Nat) (Option.some Jvm.ClassFile.FieldType.long)).before args0 about1 = true := code_word (m := ⟨2, 11⟩) (meth := k2m11) (c := k2c11) (by decide +kernel) rfl rfl rfl (by decide +kernel)
set_option maxRecDepth 65536 in
theorem w_c26 : (Jvm.Cond.code ({ cls := "MinCircle", name := "centreXNum", desc := "()J" } : Jvm.MethodName) prog_1_method_10_code (1 : Nat) (Option.some Jvm.ClassFile.FieldType.long)).before args0 about1 = true := code_word (m := ⟨2, 9⟩) (meth := k2m9) (c := k2c9) (by decide +kernel) rfl rfl rfl (by decide +kernel)
set_option maxRecDepth 65536 in
theorem w_c27 : (Jvm.Cond.code ({ cls := "MinCircle", name := "centreYNum", desc := "()J" } : Jvm.MethodName) prog_1_method_11_code (1 : Nat) (Option.some Jvm.ClassFile.FieldType.long)).before args0 about1 = true := code_word (m := ⟨2, 10⟩) (meth := k2m10) (c := k2c10) (by decide +kernel) rfl rfl rfl (by decide +kernel)
set_option maxRecDepth 65536 in
theorem w_c28 : (Jvm.Cond.code ({ cls := "MinCircle", name := "radiusSqNum", desc := "()J" } : Jvm.MethodName) prog_1_method_13_code (1 : Nat) (Option.some Jvm.ClassFile.FieldType.long)).before args0 about1 = true := code_word (m := ⟨2, 12⟩) (meth := k2m12) (c := k2c12) (by decide +kernel) rfl rfl rfl (by decide +kernel)
set_option maxRecDepth 65536 in
theorem w_c29 : (Jvm.Cond.code ({ cls := "MinCircle", name := "count", desc := "()I" } : Jvm.MethodName) prog_1_method_6_code (1 : Nat) (Option.some Jvm.ClassFile.FieldType.int)).before args0 about1 = true := code_word (m := ⟨2, 5⟩) (meth := k2m5) (c := k2c5) (by decide +kernel) rfl rfl rfl (by decide +kernel)
set_option maxRecDepth 65536 in
theorem w_c30 : (Jvm.Cond.code ({ cls := "MinCircle", name := "pointX", desc := "(I)I" } : Jvm.MethodName) prog_1_method_7_code (2 : Nat) (Option.some Jvm.ClassFile.FieldType.int)).before args0 about1 = true := code_word (m := ⟨2, 6⟩) (meth := k2m6) (c := k2c6) (by decide +kernel) rfl rfl rfl (by decide +kernel)
set_option maxRecDepth 65536 in
theorem w_c31 : (Jvm.Cond.code ({ cls := "MinCircle", name := "pointY", desc := "(I)I" } : Jvm.MethodName) prog_1_method_8_code (2 : Nat) (Option.some Jvm.ClassFile.FieldType.int)).before args0 about1 = true := code_word (m := ⟨2, 7⟩) (meth := k2m7) (c := k2c7) (by decide +kernel) rfl rfl rfl (by decide +kernel)
set_option maxRecDepth 65536 in
theorem w_c32 : (Jvm.Cond.code ({ cls := "MinCircle", name := "locate", desc := "(II)I" } : Jvm.MethodName) prog_1_method_17_code (5 : Nat) (Option.some Jvm.ClassFile.FieldType.int)).before args0 about1 = true := code_word (m := ⟨2, 15⟩) (meth := k2m15) (c := k2c15) (by decide +kernel) rfl rfl rfl (by decide +kernel)
set_option maxRecDepth 65536 in
theorem w_c33 : (Jvm.Cond.code ({ cls := "MinCircle", name := "onBoundary", desc := "(I)Z" } : Jvm.MethodName) prog_1_method_16_code (2 : Nat) (Option.some Jvm.ClassFile.FieldType.boolean)).before args0 about1 = true := code_word (m := ⟨2, 14⟩) (meth := k2m14) (c := k2c14) (by decide +kernel) rfl rfl rfl (by decide +kernel)
set_option maxRecDepth 65536 in
theorem w_c34 : (Jvm.Cond.code ({ cls := "MinCircle", name := "boundaryCount", desc := "()I" } : Jvm.MethodName) prog_1_method_15_code (1 : Nat) (Option.some Jvm.ClassFile.FieldType.int)).before args0 about1 = true := code_word (m := ⟨2, 13⟩) (meth := k2m13) (c := k2c13) (by decide +kernel) rfl rfl rfl (by decide +kernel)
set_option maxRecDepth 65536 in
theorem w_c35 : (Jvm.Cond.code ({ cls := "MinCircle", name := "removeLast", desc := "()Z" } : Jvm.MethodName) prog_1_method_3_code (1 : Nat) (Option.some Jvm.ClassFile.FieldType.boolean)).before args0 about1 = true := code_word (m := ⟨2, 2⟩) (meth := k2m2) (c := k2c2) (by decide +kernel) rfl rfl rfl (by decide +kernel)
set_option maxRecDepth 65536 in
theorem w_c36 : (Jvm.Cond.code ({ cls := "MinCircle", name := "clear", desc := "()V" } : Jvm.MethodName) prog_1_method_4_code (1 : Nat) (Option.none : Option Jvm.ClassFile.FieldType)).before args0 about1 = true := code_word (m := ⟨2, 3⟩) (meth := k2m3) (c := k2c3) (by decide +kernel) rfl rfl rfl (by decide +kernel)
def codes1 : List Jvm.Cond := [Jvm.Cond.code x code maxLocals ret, Jvm.Cond.code ({ cls := "MinCircleOwnLaw", name := "cell", desc := "([II)I" } : Jvm.MethodName) method_2_code (2 : Nat) (Option.some Jvm.ClassFile.FieldType.int), Jvm.Cond.code ({ cls := "MinCircleOwnLaw", name := "pos", desc := "(II)I" } : Jvm.MethodName) method_3_code (3 : Nat) (Option.some Jvm.ClassFile.FieldType.int), Jvm.Cond.code ({ cls := "MinCircle", name := "<init>", desc := "(II)V" } : Jvm.MethodName) prog_1_method_1_code (5 : Nat) (Option.none : Option Jvm.ClassFile.FieldType), Jvm.Cond.code ({ cls := "java/lang/Object", name := "<init>", desc := "()V" } : Jvm.MethodName) object_method_1_code (1 : Nat) (Option.none : Option Jvm.ClassFile.FieldType), Jvm.Cond.code ({ cls := "MinCircle", name := "addPoint", desc := "(II)I" } : Jvm.MethodName) prog_1_method_2_code (4 : Nat) (Option.some Jvm.ClassFile.FieldType.int), Jvm.Cond.code ({ cls := "MinCircle", name := "inRange", desc := "(II)Z" } : Jvm.MethodName) prog_1_method_18_code (3 : Nat) (Option.some Jvm.ClassFile.FieldType.boolean), Jvm.Cond.code ({ cls := "MinCircleOwnLaw", name := "check", desc := "(LMinCircle;)Z" } : Jvm.MethodName) method_4_code (26 : Nat) (Option.some Jvm.ClassFile.FieldType.boolean), Jvm.Cond.code ({ cls := "MinCircle", name := "isSolved", desc := "()Z" } : Jvm.MethodName) prog_1_method_9_code (1 : Nat) (Option.some Jvm.ClassFile.FieldType.boolean), Jvm.Cond.code ({ cls := "MinCircle", name := "solve", desc := "()I" } : Jvm.MethodName) prog_1_method_5_code (1 : Nat) (Option.some Jvm.ClassFile.FieldType.int), Jvm.Cond.code ({ cls := "MinCircle", name := "shuffle", desc := "()V" } : Jvm.MethodName) prog_1_method_20_code (4 : Nat) (Option.none : Option Jvm.ClassFile.FieldType), Jvm.Cond.code ({ cls := "MinCircle", name := "nextRand", desc := "(I)I" } : Jvm.MethodName) prog_1_method_19_code (3 : Nat) (Option.some Jvm.ClassFile.FieldType.int), Jvm.Cond.code ({ cls := "MinCircle", name := "runIncremental", desc := "()V" } : Jvm.MethodName) prog_1_method_21_code (2 : Nat) (Option.none : Option Jvm.ClassFile.FieldType), Jvm.Cond.code ({ cls := "MinCircle", name := "setPoint", desc := "(I)V" } : Jvm.MethodName) prog_1_method_25_code (2 : Nat) (Option.none : Option Jvm.ClassFile.FieldType), Jvm.Cond.code ({ cls := "MinCircle", name := "outside", desc := "(I)Z" } : Jvm.MethodName) prog_1_method_24_code (6 : Nat) (Option.some Jvm.ClassFile.FieldType.boolean), Jvm.Cond.code ({ cls := "MinCircle", name := "extendOne", desc := "(I)V" } : Jvm.MethodName) prog_1_method_22_code (3 : Nat) (Option.none : Option Jvm.ClassFile.FieldType), Jvm.Cond.code ({ cls := "MinCircle", name := "extendTwo", desc := "(II)V" } : Jvm.MethodName) prog_1_method_23_code (7 : Nat) (Option.none : Option Jvm.ClassFile.FieldType), Jvm.Cond.code ({ cls := "MinCircle", name := "setPair", desc := "(II)V" } : Jvm.MethodName) prog_1_method_26_code (7 : Nat) (Option.none : Option Jvm.ClassFile.FieldType), Jvm.Cond.code ({ cls := "MinCircle", name := "setTriple", desc := "(III)V" } : Jvm.MethodName) prog_1_method_28_code (22 : Nat) (Option.none : Option Jvm.ClassFile.FieldType), Jvm.Cond.code ({ cls := "MinCircle", name := "finishDisk", desc := "()V" } : Jvm.MethodName) prog_1_method_32_code (5 : Nat) (Option.none : Option Jvm.ClassFile.FieldType), Jvm.Cond.code ({ cls := "MinCircle", name := "gcd", desc := "(JJ)J" } : Jvm.MethodName) prog_1_method_31_code (12 : Nat) (Option.some Jvm.ClassFile.FieldType.long), Jvm.Cond.code ({ cls := "MinCircle", name := "absL", desc := "(J)J" } : Jvm.MethodName) prog_1_method_30_code (3 : Nat) (Option.some Jvm.ClassFile.FieldType.long), Jvm.Cond.code ({ cls := "MinCircle", name := "recordRadius", desc := "()V" } : Jvm.MethodName) prog_1_method_33_code (6 : Nat) (Option.none : Option Jvm.ClassFile.FieldType), Jvm.Cond.code ({ cls := "MinCircle", name := "pwFinal", desc := "(II)J" } : Jvm.MethodName) prog_1_method_34_code (7 : Nat) (Option.some Jvm.ClassFile.FieldType.long), Jvm.Cond.code ({ cls := "MinCircle", name := "computeKind", desc := "()I" } : Jvm.MethodName) prog_1_method_35_code (11 : Nat) (Option.some Jvm.ClassFile.FieldType.int), Jvm.Cond.code ({ cls := "MinCircle", name := "centreDen", desc := "()J" } : Jvm.MethodName) prog_1_method_12_code (1 : Nat) (Option.some Jvm.ClassFile.FieldType.long), Jvm.Cond.code ({ cls := "MinCircle", name := "centreXNum", desc := "()J" } : Jvm.MethodName) prog_1_method_10_code (1 : Nat) (Option.some Jvm.ClassFile.FieldType.long), Jvm.Cond.code ({ cls := "MinCircle", name := "centreYNum", desc := "()J" } : Jvm.MethodName) prog_1_method_11_code (1 : Nat) (Option.some Jvm.ClassFile.FieldType.long), Jvm.Cond.code ({ cls := "MinCircle", name := "radiusSqNum", desc := "()J" } : Jvm.MethodName) prog_1_method_13_code (1 : Nat) (Option.some Jvm.ClassFile.FieldType.long), Jvm.Cond.code ({ cls := "MinCircle", name := "count", desc := "()I" } : Jvm.MethodName) prog_1_method_6_code (1 : Nat) (Option.some Jvm.ClassFile.FieldType.int), Jvm.Cond.code ({ cls := "MinCircle", name := "pointX", desc := "(I)I" } : Jvm.MethodName) prog_1_method_7_code (2 : Nat) (Option.some Jvm.ClassFile.FieldType.int), Jvm.Cond.code ({ cls := "MinCircle", name := "pointY", desc := "(I)I" } : Jvm.MethodName) prog_1_method_8_code (2 : Nat) (Option.some Jvm.ClassFile.FieldType.int), Jvm.Cond.code ({ cls := "MinCircle", name := "locate", desc := "(II)I" } : Jvm.MethodName) prog_1_method_17_code (5 : Nat) (Option.some Jvm.ClassFile.FieldType.int), Jvm.Cond.code ({ cls := "MinCircle", name := "onBoundary", desc := "(I)Z" } : Jvm.MethodName) prog_1_method_16_code (2 : Nat) (Option.some Jvm.ClassFile.FieldType.boolean), Jvm.Cond.code ({ cls := "MinCircle", name := "boundaryCount", desc := "()I" } : Jvm.MethodName) prog_1_method_15_code (1 : Nat) (Option.some Jvm.ClassFile.FieldType.int), Jvm.Cond.code ({ cls := "MinCircle", name := "removeLast", desc := "()Z" } : Jvm.MethodName) prog_1_method_3_code (1 : Nat) (Option.some Jvm.ClassFile.FieldType.boolean), Jvm.Cond.code ({ cls := "MinCircle", name := "clear", desc := "()V" } : Jvm.MethodName) prog_1_method_4_code (1 : Nat) (Option.none : Option Jvm.ClassFile.FieldType)]
set_option maxRecDepth 65536 in
theorem codes_eq : words1.filter isCode = codes1 := rfl
theorem w_codes : ∀ c ∈ words1.filter isCode, c.before args0 about1 = true := by
  rw [codes_eq]
  intro c hc
  simp only [codes1, List.mem_cons, List.not_mem_nil, or_false] at hc
  rcases hc with rfl | rfl | rfl | rfl | rfl | rfl | rfl | rfl | rfl | rfl | rfl | rfl | rfl | rfl | rfl | rfl | rfl | rfl | rfl | rfl | rfl | rfl | rfl | rfl | rfl | rfl | rfl | rfl | rfl | rfl | rfl | rfl | rfl | rfl | rfl | rfl | rfl
  · exact w_c0
  · exact w_c1
  · exact w_c2
  · exact w_c3
  · exact w_c4
  · exact w_c5
  · exact w_c6
  · exact w_c7
  · exact w_c8
  · exact w_c9
  · exact w_c10
  · exact w_c11
  · exact w_c12
  · exact w_c13
  · exact w_c14
  · exact w_c15
  · exact w_c16
  · exact w_c17
  · exact w_c18
  · exact w_c19
  · exact w_c20
  · exact w_c21
  · exact w_c22
  · exact w_c23
  · exact w_c24
  · exact w_c25
  · exact w_c26
  · exact w_c27
  · exact w_c28
  · exact w_c29
  · exact w_c30
  · exact w_c31
  · exact w_c32
  · exact w_c33
  · exact w_c34
  · exact w_c35
  · exact w_c36
set_option maxRecDepth 65536 in
theorem w_t1 : (words1.take 24).all (fun c => isCode c || c.before args0 about1) = true := by decide +kernel
set_option maxRecDepth 65536 in
theorem w_t2 : ((words1.drop 24).take 24).all (fun c => isCode c || c.before args0 about1) = true := by decide +kernel
set_option maxRecDepth 65536 in
theorem w_t3 : (((words1.drop 24).drop 24).take 24).all (fun c => isCode c || c.before args0 about1) = true := by decide +kernel
set_option maxRecDepth 65536 in
theorem w_t4 : ((((words1.drop 24).drop 24).drop 24).take 24).all (fun c => isCode c || c.before args0 about1) = true := by decide +kernel
set_option maxRecDepth 65536 in
theorem w_t5 : (((((words1.drop 24).drop 24).drop 24).drop 24).take 24).all (fun c => isCode c || c.before args0 about1) = true := by decide +kernel
set_option maxRecDepth 65536 in
theorem w_t6 : ((((((words1.drop 24).drop 24).drop 24).drop 24).drop 24).take 24).all (fun c => isCode c || c.before args0 about1) = true := by decide +kernel
set_option maxRecDepth 65536 in
theorem w_t7 : (((((((words1.drop 24).drop 24).drop 24).drop 24).drop 24).drop 24).take 24).all (fun c => isCode c || c.before args0 about1) = true := by decide +kernel
set_option maxRecDepth 65536 in
theorem w_t8 : ((((((((words1.drop 24).drop 24).drop 24).drop 24).drop 24).drop 24).drop 24).take 24).all (fun c => isCode c || c.before args0 about1) = true := by decide +kernel
set_option maxRecDepth 65536 in
theorem w_t9 : ((((((((words1.drop 24).drop 24).drop 24).drop 24).drop 24).drop 24).drop 24).drop 24).all (fun c => isCode c || c.before args0 about1) = true := by decide +kernel
theorem w_tables : (allAtoms (Jvm.Cond.code x code maxLocals ret :: tables_1)).before args0 about1 = true := by
  rw [allAtoms_all]
  show words1.all (fun c => c.before args0 about1) = true
  refine all_split ?_ w_codes
  rw [← List.take_append_drop 24 words1, List.all_append, w_t1, ← List.take_append_drop 24 (words1.drop 24), List.all_append, w_t2, ← List.take_append_drop 24 ((words1.drop 24).drop 24), List.all_append, w_t3, ← List.take_append_drop 24 (((words1.drop 24).drop 24).drop 24), List.all_append, w_t4, ← List.take_append_drop 24 ((((words1.drop 24).drop 24).drop 24).drop 24), List.all_append, w_t5, ← List.take_append_drop 24 (((((words1.drop 24).drop 24).drop 24).drop 24).drop 24), List.all_append, w_t6, ← List.take_append_drop 24 ((((((words1.drop 24).drop 24).drop 24).drop 24).drop 24).drop 24), List.all_append, w_t7, ← List.take_append_drop 24 (((((((words1.drop 24).drop 24).drop 24).drop 24).drop 24).drop 24).drop 24), List.all_append, w_t8, w_t9]
  rfl
set_option maxRecDepth 65536 in
theorem w_rest : rest_1_c.before args0 about1 = true := by decide +kernel
set_option maxRecDepth 65536 in
theorem w_case : (Jvm.Cond.and given_1 narrow_1).before args0 about1 = true := by decide +kernel
theorem w_applies : (headSpec (Jvm.Cond.code x code maxLocals ret :: tables_1) room_1).applies x e0.platform about1 = true :=
  (Spec.applies_iff w_frames).mpr ⟨w_running, w_runnable, w_alone, w_named, w_hears, w_ripe, w_room, w_tables⟩
theorem atStart : AtStart classFile x code maxLocals ret World_1 tables_1 room_1 Calls_1 rest_1 Pre_1 launch0 p0 e0 about1 theMethod args0 below0 :=
  ⟨lists_1, trivial, launch0.admits_env _ _ _, launch0.least_env, fairChoices_fair.cas, fairChoices_fair.clock, w_frames, w_args, w_heap, w_applies, trivial, w_rest, w_case⟩
end start1
theorem witness_1 : WitnessClaimed_1 := ⟨start1.p0, start1.e0, start1.about1, start1.theMethod, start1.args0, start1.below0, start1.atStart⟩
end Jvm.Pilot.@@N@@
