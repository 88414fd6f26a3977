import JvmDerived
import JvmDerived.Pilot.@@N@@Statement
import JvmDerived.Pilot.@@N@@Code
set_option linter.unusedVariables false
set_option linter.unusedSimpArgs false
namespace Jvm.RoadKit
open Sem ClassFile Op Lib Jvm.Stand Jvm.Free Jvm.LawKit
section New
variable {p : Program} {l : Launch} {e : Env} {R : Room} {s : State} {m : MethodId} {args : Array Value} {below : List Frame} {meth : Method} {c : Code} {T : State} {locs : List Loc} {cells slots : Nat}
theorem retI (X : Stand p l e R s m args below meth c T locs cells slots) (hx : p.tables.exec = Jvm.exec) {pc : Nat} {Ls : Array Slot} {z : Int32} {rest : List Value} (hret : meth.sig.returnType = some .int) (hd : decode c.code pc = .ok (.ireturn, 1)) {fs : List Frame}
    (hl : ∀ (f : JFrame) (acts : List Action), f.method = m → f.locked = none → f.entered = [] → (doReturn e (T.setTop f) acts (some (.int z))).1 = T.setFrames fs) : Steps p.tables e below (T.setTop (mkF m pc Ls (.int z :: rest))) (T.setFrames fs) := by
  have hm' : T.vm.method? m = some meth := X.method'
  have hn : narrow .int (.int z) = .int z := rfl
  show Steps p.tables e below (T.setTop { method := m, pc := pc, locals := Ls, stack := _ :: rest, locked := none }) _
  jvm_step X.here [X.here.top, hx, hd, hm', hret, hn]
  first | (intro acts; rw [hl _ acts rfl rfl rfl]) | rw [hl _ _ rfl rfl rfl]
  exact Steps.refl _
end New
end Jvm.RoadKit
namespace Jvm.Own
abbrev R32 (x : Int) : Prop := -2147483648 ≤ x ∧ x < 2147483648
abbrev R64 (x : Int) : Prop := -9223372036854775808 ≤ x ∧ x < 9223372036854775808
def w32 (x : Int) : Int := Int.bmod x 4294967296
def w64 (x : Int) : Int := Int.bmod x 18446744073709551616
def w8 (x : Int) : Int := Int.bmod x 256
def and32 (x y : Int) : Int := (Int32.ofInt x &&& Int32.ofInt y).toInt
def or32 (x y : Int) : Int := (Int32.ofInt x ||| Int32.ofInt y).toInt
def xor32 (x y : Int) : Int := (Int32.ofInt x ^^^ Int32.ofInt y).toInt
def and64 (x y : Int) : Int := (Int64.ofInt x &&& Int64.ofInt y).toInt
def or64 (x y : Int) : Int := (Int64.ofInt x ||| Int64.ofInt y).toInt
def xor64 (x y : Int) : Int := (Int64.ofInt x ^^^ Int64.ofInt y).toInt
def shl32 (x y : Int) : Int := (Int32.ofInt x <<< (Int32.ofInt y &&& 31)).toInt
def shr32 (x y : Int) : Int := (Int32.ofInt x >>> (Int32.ofInt y &&& 31)).toInt
def ushr32 (x y : Int) : Int := (((Int32.ofInt x).toUInt32 >>> (Int32.ofInt y &&& 31).toUInt32).toInt32).toInt
def shl64 (x y : Int) : Int := (Int64.ofInt x <<< ((Int32.ofInt y).toInt64 &&& 63)).toInt
def shr64 (x y : Int) : Int := (Int64.ofInt x >>> ((Int32.ofInt y).toInt64 &&& 63)).toInt
def ushr64 (x y : Int) : Int := (((Int64.ofInt x).toUInt64 >>> ((Int32.ofInt y).toInt64.toUInt64 &&& Int64.toUInt64 63)).toInt64).toInt
abbrev Mo := Nat → Nat → Int
def zM : Mo := fun _ _ => 0
def upd (O : Mo) (j i : Nat) (x : Int) : Mo := fun j' i' => if j' = j ∧ i' = i then x else O j' i'
theorem upd_same (O : Mo) (j i : Nat) (x : Int) : upd O j i x j i = x := by simp [upd]
theorem upd_ne {O : Mo} {j i j' i' : Nat} {x : Int} (h : ¬ (j' = j ∧ i' = i)) : upd O j i x j' i' = O j' i' := by simp only [upd]; rw [if_neg h]
def lt {α : Type} (e : Int) (K : Int → α) : α := K e
def loop {σ ρ : Type} (body : σ → Option (σ ⊕ ρ)) : Nat → σ → Option ρ
  | 0, _ => none
  | n + 1, s => (body s).bind (Sum.elim (loop body n) some)
theorem lt_in {α : Type} {e : Int} {K : Int → α} {r : α} {G : Int → Prop} (hf : lt e K = r) (h : ∀ x, K x = r → G x) : G e := h e hf
theorem bind_in {α β : Type} {x : Option α} {k : α → Option β} {r : β} {Q : Prop} (hf : x.bind k = some r) (h : ∀ a, x = some a → k a = some r → Q) : Q := by
  cases x with
  | none => cases hf
  | some a => exact h a rfl hf
theorem loop_ind {σ ρ : Type} {body : σ → Option (σ ⊕ ρ)} {Gs : σ → Prop} {Gr : ρ → Prop} (hb : ∀ s x, body s = some x → Sum.elim Gs Gr x → Gs s) : ∀ n s r, loop body n s = some r → Gr r → Gs s
  | 0, s, r, h, _ => by cases h
  | n + 1, s, r, h, k => by
    unfold loop at h
    cases hx : body s with
    | none => rw [hx] at h; cases h
    | some x =>
      rw [hx] at h
      cases x with
      | inl s' => exact hb s _ hx (loop_ind hb n s' r h k)
      | inr r' =>
        have h' : some r' = some r := h
        cases h'
        exact hb s _ hx k
theorem loop_go {σ ρ β : Type} {body : σ → Option (σ ⊕ ρ)} {n : Nat} {s0 : σ} {k : ρ → Option β} {res : β} {Gs : σ → Prop} {Gr : ρ → Prop} (hf : (loop body n s0).bind k = some res)
    (hb : ∀ s x, body s = some x → Sum.elim Gs Gr x → Gs s) (hk : ∀ r, k r = some res → Gr r) : Gs s0 :=
  bind_in hf fun r h1 h2 => loop_ind hb n s0 r h1 (hk r h2)
theorem ifp {α : Type} {c : Prop} [inst : Decidable c] {a b r : α} (hc : c) (hf : (if c then a else b) = r) : a = r := (if_pos hc).symm.trans hf
theorem ifn {α : Type} {c : Prop} [inst : Decidable c] {a b r : α} (hc : ¬ c) (hf : (if c then a else b) = r) : b = r := (if_neg hc).symm.trans hf
theorem okb {α : Type} {c : Prop} [inst : Decidable c] {a : Option α} {r : α} (hf : (if c then a else none) = some r) : c := by
  by_cases h : c
  · exact h
  · rw [if_neg h] at hf; cases hf
theorem okn {α : Type} {c : Prop} [inst : Decidable c] {a : Option α} {r : α} (hf : (if c then none else a) = some r) : ¬ c := by
  by_cases h : c
  · rw [if_pos h] at hf; cases hf
  · exact h
end Jvm.Own

namespace Jvm.Own
open Sem ClassFile Op Lib Jvm.Stand Jvm.Free Jvm.LawKit Jvm.RoadKit
/-! values: ints and longs as Int, references as addresses -/
abbrev V := Int ⊕ (Int ⊕ Nat)
abbrev vI (x : Int) : V := Sum.inl x
abbrev vJ (x : Int) : V := Sum.inr (Sum.inl x)
abbrev vR (a : Nat) : V := Sum.inr (Sum.inr a)
def rv : V → Value
  | .inl x => .int (Int32.ofInt x)
  | .inr (.inl x) => .long (Int64.ofInt x)
  | .inr (.inr a) => .ref a
def okV : V → Prop
  | .inl x => R32 x
  | .inr (.inl x) => R64 x
  | .inr (.inr _) => True
def okS (S : List V) : Prop := ∀ u ∈ S, okV u
theorem ofw32 (x : Int) : Int32.ofInt (w32 x) = Int32.ofInt x := Int32.toInt_inj.mp (by simp [w32, Int32.toInt_ofInt])
theorem ofw64 (x : Int) : Int64.ofInt (w64 x) = Int64.ofInt x := Int64.toInt_inj.mp (by simp [w64, Int64.toInt_ofInt])
theorem rw32 (x : Int) : R32 (w32 x) := by unfold R32 w32; have := @Int.le_bmod x 4294967296 (by decide); have := @Int.bmod_lt x 4294967296 (by decide); omega
theorem rw64 (x : Int) : R64 (w64 x) := by unfold R64 w64; have := @Int.le_bmod x 18446744073709551616 (by decide); have := @Int.bmod_lt x 18446744073709551616 (by decide); omega
theorem w32_id {x : Int} (h : R32 x) : w32 x = x := Int.bmod_eq_of_le (by have := h.1; omega) (by have := h.2; omega)
theorem w64_id {x : Int} (h : R64 x) : w64 x = x := Int.bmod_eq_of_le (by have := h.1; omega) (by have := h.2; omega)
theorem ti32 {x : Int} (h : R32 x) : (Int32.ofInt x).toInt = x := by rw [Int32.toInt_ofInt]; exact w32_id h
theorem ti64 {x : Int} (h : R64 x) : (Int64.ofInt x).toInt = x := by rw [Int64.toInt_ofInt]; exact w64_id h
theorem r32t (x : Int32) : R32 x.toInt := ⟨by have := Int32.le_toInt x; omega, by have := Int32.toInt_lt x; omega⟩
theorem r64t (x : Int64) : R64 x.toInt := ⟨by have := Int64.le_toInt x; omega, by have := Int64.toInt_lt x; omega⟩
theorem of32 (x : Int32) : Int32.ofInt x.toInt = x := Int32.ofInt_toInt x
theorem of64 (x : Int64) : Int64.ofInt x.toInt = x := Int64.ofInt_toInt x
theorem eq32 {x y : Int} (hx : R32 x) (hy : R32 y) : Int32.ofInt x = Int32.ofInt y ↔ x = y := ⟨fun h => by rw [← ti32 hx, ← ti32 hy, h], fun h => by rw [h]⟩
theorem eq64 {x y : Int} (hx : R64 x) (hy : R64 y) : Int64.ofInt x = Int64.ofInt y ↔ x = y := ⟨fun h => by rw [← ti64 hx, ← ti64 hy, h], fun h => by rw [h]⟩
theorem lt32 {x y : Int} (hx : R32 x) (hy : R32 y) : Int32.ofInt x < Int32.ofInt y ↔ x < y := by rw [Int32.lt_iff_toInt_lt, ti32 hx, ti32 hy]
theorem lt64 {x y : Int} (hx : R64 x) (hy : R64 y) : Int64.ofInt x < Int64.ofInt y ↔ x < y := by rw [Int64.lt_iff_toInt_lt, ti64 hx, ti64 hy]
theorem add32o (x y : Int) : Int32.ofInt x + Int32.ofInt y = Int32.ofInt (w32 (x + y)) := by rw [ofw32, Int32.ofInt_add]
theorem sub32o (x y : Int) : Int32.ofInt x - Int32.ofInt y = Int32.ofInt (w32 (x - y)) := by rw [ofw32, Int32.ofInt_sub]
theorem mul32o (x y : Int) : Int32.ofInt x * Int32.ofInt y = Int32.ofInt (w32 (x * y)) := by rw [ofw32, Int32.ofInt_mul]
theorem neg32o (x : Int) : -Int32.ofInt x = Int32.ofInt (w32 (-x)) := by rw [ofw32, Int32.ofInt_neg]
theorem div32o {x y : Int} (hx : R32 x) (hy : R32 y) : Int32.ofInt x / Int32.ofInt y = Int32.ofInt (w32 (x.tdiv y)) := Int32.toInt_inj.mp (by rw [Int32.toInt_div, ti32 hx, ti32 hy, ti32 (rw32 _)]; rfl)
theorem add64o (x y : Int) : Int64.ofInt x + Int64.ofInt y = Int64.ofInt (w64 (x + y)) := by rw [ofw64, Int64.ofInt_add]
theorem sub64o (x y : Int) : Int64.ofInt x - Int64.ofInt y = Int64.ofInt (w64 (x - y)) := by rw [ofw64, Int64.ofInt_sub]
theorem mul64o (x y : Int) : Int64.ofInt x * Int64.ofInt y = Int64.ofInt (w64 (x * y)) := by rw [ofw64, Int64.ofInt_mul]
theorem neg64o (x : Int) : -Int64.ofInt x = Int64.ofInt (w64 (-x)) := by rw [ofw64, Int64.ofInt_neg]
theorem div64o {x y : Int} (hx : R64 x) (hy : R64 y) : Int64.ofInt x / Int64.ofInt y = Int64.ofInt (w64 (x.tdiv y)) := Int64.toInt_inj.mp (by rw [Int64.toInt_div, ti64 hx, ti64 hy, ti64 (rw64 _)]; rfl)
theorem rem64o {x y : Int} (hx : R64 x) (hy : R64 y) : Int64.ofInt x - Int64.ofInt x / Int64.ofInt y * Int64.ofInt y = Int64.ofInt (w64 (x.tmod y)) := by
  rw [div64o hx hy, ofw64, mul64o, ofw64, sub64o, ofw64, ofw64]
  congr 1
  have := Int.mul_tdiv_add_tmod x y
  rw [Int.mul_comm] at this
  omega
theorem rem32o {x y : Int} (hx : R32 x) (hy : R32 y) : Int32.ofInt x - Int32.ofInt x / Int32.ofInt y * Int32.ofInt y = Int32.ofInt (w32 (x.tmod y)) := by
  rw [div32o hx hy, ofw32, mul32o, ofw32, sub32o, ofw32, ofw32]
  congr 1
  have := Int.mul_tdiv_add_tmod x y
  rw [Int.mul_comm] at this
  omega
theorem i2l_o {x : Int} (hx : R32 x) : (Int32.ofInt x).toInt64 = Int64.ofInt x := Int64.toInt_inj.mp (by rw [Int32.toInt_toInt64, ti32 hx, ti64 ⟨by have := hx.1; omega, by have := hx.2; omega⟩])
theorem l2i_o (x : Int) : (Int64.ofInt x).toInt32 = Int32.ofInt (w32 x) := Int32.toInt_inj.mp (by
  rw [Int64.toInt_toInt32, Int64.toInt_ofInt, ti32 (rw32 _)]
  exact Int.bmod_bmod_of_dvd (by decide))
theorem i2b_o (x : Int) : (Int32.ofInt x).toInt8.toInt32 = Int32.ofInt (w8 x) := Int32.toInt_inj.mp (by
  rw [Int8.toInt_toInt32, Int32.toInt_toInt8, Int32.toInt_ofInt]
  have h1 := @Int.le_bmod x 256 (by decide)
  have h2 := @Int.bmod_lt x 256 (by decide)
  rw [ti32 (x := w8 x) ⟨by unfold w8; omega, by unfold w8; omega⟩]
  exact Int.bmod_bmod_of_dvd (by decide))
theorem r8 (x : Int) : -128 ≤ w8 x ∧ w8 x < 128 := by
  have h1 := @Int.le_bmod x 256 (by decide)
  have h2 := @Int.bmod_lt x 256 (by decide)
  unfold w8; omega
theorem and1_o (x : Int) : Int32.ofInt x &&& 1 = Int32.ofInt (x % 2) := by
  apply Int32.toInt_inj.mp
  rw [ti32 (x := x % 2) ⟨by omega, by omega⟩]
  have e1 : (Int32.ofInt x &&& 1).toInt = ((BitVec.ofInt 32 x) &&& 1#32).toInt := rfl
  rw [e1]
  have e2 : (BitVec.ofInt 32 x &&& 1#32).toNat = (x % 2).toNat := by
    rw [BitVec.toNat_and, show (1#32).toNat = 2 ^ 1 - 1 from rfl, Nat.and_two_pow_sub_one_eq_mod, BitVec.toNat_ofInt]
    omega
  rw [BitVec.toInt_eq_toNat_cond, e2]
  omega
/-! the local variables -/
def st1 (L : List (Option V)) (i : Nat) (v : V) : List (Option V) :=
  match i with
  | 0 => L.set 0 (some v)
  | i' + 1 => match L[i']? with
    | some (some (.inr (.inl _))) => (L.set i' none).set (i' + 1) (some v)
    | _ => L.set (i' + 1) (some v)
def st2 (L : List (Option V)) (i : Nat) (x : Int) : List (Option V) := (st1 L i (vJ x)).set (i + 1) none
def WF (Ls : Array Slot) : Prop := (∀ (i : Nat) (v : Value), Ls[i]? = some (.val v) → v.category = 2 → Ls[i + 1]? = some .second) ∧ (∀ i : Nat, Ls[i]? = some .second → ∃ (j : Nat) (v : Value), i = j + 1 ∧ Ls[j]? = some (.val v) ∧ v.category = 2)
def LocRel (L : List (Option V)) (Ls : Array Slot) : Prop := Ls.size = L.length ∧ WF Ls ∧ ∀ (i : Nat) (u : V), L[i]? = some (some u) → Ls[i]? = some (.val (rv u)) ∧ okV u
theorem st1_len (L : List (Option V)) (i : Nat) (v : V) : (st1 L i v).length = L.length := by
  unfold st1; split
  · simp
  · split <;> simp
theorem cat_rv (u : V) : (rv u).category = 2 ↔ ∃ x, u = vJ x := by
  rcases u with x | x | a <;> simp [rv, Value.category]
theorem cat_rv1 {u : V} (h : (rv u).category ≠ 2) : ∀ x, u ≠ vJ x := fun x e => h ((cat_rv u).mpr ⟨x, e⟩)
theorem st1_get {L : List (Option V)} {i : Nat} {v : V} {t : Nat} {u : V} (h : (st1 L i v)[t]? = some (some u)) : (t = i ∧ u = v) ∨ (t ≠ i ∧ L[t]? = some (some u) ∧ ¬ (t + 1 = i ∧ ∃ x, u = vJ x)) := by
  unfold st1 at h
  split at h
  · rw [List.getElem?_set] at h
    split at h
    · rename_i e; subst e
      split at h
      · left; exact ⟨rfl, by simpa using h.symm⟩
      · cases h
    · rename_i e; exact Or.inr ⟨fun q => e q.symm, h, by omega⟩
  · rename_i i'
    split at h
    · rename_i x hx
      rw [List.getElem?_set] at h
      split at h
      · rename_i e; subst e
        split at h
        · left; exact ⟨rfl, by simpa using h.symm⟩
        · cases h
      · rename_i e
        rw [List.getElem?_set] at h
        split at h
        · split at h <;> simp at h
        · rename_i e2
          exact Or.inr ⟨fun q => e q.symm, h, fun q => e2 (by omega)⟩
    · rename_i hn
      rw [List.getElem?_set] at h
      split at h
      · rename_i e; subst e
        split at h
        · left; exact ⟨rfl, by simpa using h.symm⟩
        · cases h
      · rename_i e
        refine Or.inr ⟨fun q => e q.symm, h, fun q => ?_⟩
        obtain ⟨q1, x, rfl⟩ := q
        have : t = i' := by omega
        subst this
        exact hn x h
theorem aset {Ls : Array Slot} {i : Nat} {x : Slot} (hi : i < Ls.size) (t : Nat) : (Ls.setIfInBounds i x)[t]? = if t = i then some x else Ls[t]? := by
  rw [Array.getElem?_setIfInBounds]
  by_cases e : i = t
  · subst e; simp [hi]
  · rw [if_neg e, if_neg (fun q => e q.symm)]
theorem setAt_ok {Ls : Array Slot} {i : Nat} {x : Slot} (hi : i < Ls.size) : setAt Ls i x = some (Ls.setIfInBounds i x) := by simp [setAt, hi]
theorem stage1 {L : List (Option V)} {Ls : Array Slot} (H : LocRel L Ls) {i : Nat} (hi : i < L.length) (v : Value) : ∃ l1 : Array Slot, storeLocals Ls i v = storeSelf l1 i v ∧ l1.size = Ls.size ∧
    (∀ (t : Nat) (w : Value), t ≠ i → l1[t]? = some (.val w) → w.category = 2 → t + 1 ≠ i ∧ l1[t + 1]? = some .second) ∧ (∀ t : Nat, t ≠ i → l1[t]? = some .second → ∃ (j : Nat) (w : Value), t = j + 1 ∧ j ≠ i ∧ l1[j]? = some (.val w) ∧ w.category = 2) ∧
    (∀ (t : Nat) (u : V), t ≠ i → L[t]? = some (some u) → ¬ (t + 1 = i ∧ ∃ x, u = vJ x) → l1[t]? = some (.val (rv u)) ∧ okV u) := by
  obtain ⟨hs, ⟨w1, w2⟩, hr⟩ := H
  have hi' : i < Ls.size := by omega
  obtain ⟨y, hy⟩ : ∃ y, Ls[i]? = some y := ⟨_, Array.getElem?_eq_getElem hi'⟩
  cases y with
  | unset =>
    refine ⟨Ls, by simp [storeLocals, hy], rfl, fun t w ht h c => ⟨fun e => ?_, w1 t w h c⟩, fun t ht h => ?_, fun t u ht h _ => hr t u h⟩
    · subst e; have := w1 t w h c; rw [hy] at this; cases this
    · obtain ⟨j, w, e, h2, c⟩ := w2 t h
      refine ⟨j, w, e, fun q => ?_, h2, c⟩
      subst q; rw [hy] at h2; cases h2
  | second =>
    obtain ⟨j, w, e, hj, cw⟩ := w2 i hy
    have hj' : j < Ls.size := by omega
    refine ⟨Ls.setIfInBounds j .unset, by subst e; simp [storeLocals, hy, setAt, hj'], by simp, fun t x ht h c => ?_, fun t ht h => ?_, fun t u ht h hn => ?_⟩
    · rw [aset hj'] at h
      split at h
      · cases h
      · rename_i q
        refine ⟨by omega, ?_⟩
        rw [aset hj', if_neg ?_]
        · exact w1 t x h c
        · intro e2; have := w1 t x h c; rw [e2, hj] at this; cases this
    · rw [aset hj'] at h
      split at h
      · cases h
      · rename_i q
        obtain ⟨j2, x, e2, h2, c2⟩ := w2 t h
        refine ⟨j2, x, e2, fun q2 => ?_, ?_, c2⟩
        · subst q2; rw [hy] at h2; cases h2
        · rw [aset hj', if_neg (by omega)]; exact h2
    · have := hr t u h
      refine ⟨?_, this.2⟩
      rw [aset hj', if_neg ?_]
      · exact this.1
      · intro q
        subst q
        have h3 := this.1
        rw [hj] at h3
        cases h3
        exact hn ⟨e.symm, (cat_rv u).mp cw⟩
  | val old =>
    by_cases co : old.category = 2
    · have hn := w1 i old hy co
      have hi2 : i + 1 < Ls.size := by have := (Array.getElem?_eq_some_iff.mp hn).1; exact this
      refine ⟨Ls.setIfInBounds (i + 1) .unset, by simp [storeLocals, hy, setAt, co, hi2], by simp, fun t x ht h c => ?_, fun t ht h => ?_, fun t u ht h hq => ?_⟩
      · rw [aset hi2] at h
        split at h
        · cases h
        · rename_i q
          refine ⟨fun e => ?_, ?_⟩
          · subst e; have := w1 t x h c; rw [hy] at this; cases this
          · rw [aset hi2, if_neg (by omega)]; exact w1 t x h c
      · rw [aset hi2] at h
        split at h
        · cases h
        · rename_i q
          obtain ⟨j2, x, e2, h2, c2⟩ := w2 t h
          refine ⟨j2, x, e2, by omega, ?_, c2⟩
          rw [aset hi2, if_neg ?_]
          · exact h2
          · intro q2; subst q2; rw [hn] at h2; cases h2
      · have := hr t u h
        refine ⟨?_, this.2⟩
        rw [aset hi2, if_neg ?_]
        · exact this.1
        · intro q; subst q; rw [hn] at this; cases this.1
    · refine ⟨Ls, by simp [storeLocals, hy, co], rfl, fun t w ht h c => ⟨fun e => ?_, w1 t w h c⟩, fun t ht h => ?_, fun t u ht h _ => hr t u h⟩
      · subst e; have := w1 t w h c; rw [hy] at this; cases this
      · obtain ⟨j, w, e, h2, c⟩ := w2 t h
        refine ⟨j, w, e, fun q => ?_, h2, c⟩
        subst q; rw [hy] at h2; cases h2; exact co c
theorem st1_ok {L : List (Option V)} {Ls : Array Slot} (H : LocRel L Ls) {i : Nat} {u : V} (hi : i < L.length) (hu : okV u) (hc : ∀ x, u ≠ vJ x) : ∃ Ls', storeLocals Ls i (rv u) = some Ls' ∧ LocRel (st1 L i u) Ls' := by
  obtain ⟨l1, e1, e2, a1, a2, a3⟩ := stage1 H hi (rv u)
  have hi' : i < l1.size := by have := H.1; omega
  have c1 : (rv u).category ≠ 2 := fun q => by obtain ⟨x, hx⟩ := (cat_rv u).mp q; exact hc x hx
  refine ⟨l1.setIfInBounds i (.val (rv u)), by rw [e1]; simp [storeSelf, setAt, hi', c1], by rw [st1_len]; simp [e2, H.1], ⟨fun t w h c => ?_, fun t h => ?_⟩, fun t w h => ?_⟩
  · rw [aset hi'] at h
    split at h
    · cases h; exact absurd c c1
    · rename_i q
      obtain ⟨b1, b2⟩ := a1 t w q h c
      rw [aset hi', if_neg b1]; exact b2
  · rw [aset hi'] at h
    split at h
    · cases h
    · rename_i q
      obtain ⟨j, w, b1, b2, b3, b4⟩ := a2 t q h
      exact ⟨j, w, b1, by rw [aset hi', if_neg b2]; exact b3, b4⟩
  · rcases st1_get h with ⟨rfl, rfl⟩ | ⟨q1, q2, q3⟩
    · exact ⟨by rw [aset hi', if_pos rfl], hu⟩
    · obtain ⟨b1, b2⟩ := a3 t w q1 q2 q3
      exact ⟨by rw [aset hi', if_neg q1]; exact b1, b2⟩
theorem st2_get {L : List (Option V)} {i : Nat} {x : Int} {t : Nat} {u : V} (h : (st2 L i x)[t]? = some (some u)) : t ≠ i + 1 ∧ ((t = i ∧ u = vJ x) ∨ (t ≠ i ∧ L[t]? = some (some u) ∧ ¬ (t + 1 = i ∧ ∃ x, u = vJ x))) := by
  unfold st2 at h
  rw [List.getElem?_set] at h
  split at h
  · split at h <;> simp at h
  · rename_i q
    exact ⟨fun e => q e.symm, st1_get h⟩
theorem st2_ok {L : List (Option V)} {Ls : Array Slot} (H : LocRel L Ls) {i : Nat} {x : Int} (hi : i + 1 < L.length) (hu : R64 x) : ∃ Ls', storeLocals Ls i (rv (vJ x)) = some Ls' ∧ LocRel (st2 L i x) Ls' := by
  obtain ⟨l1, e1, e2, a1, a2, a3⟩ := stage1 H (by omega : i < L.length) (rv (vJ x))
  have hs : l1.size = L.length := e2.trans H.1
  have hi' : i < l1.size := by omega
  have hi2 : i + 1 < l1.size := by omega
  have hlen : (st2 L i x).length = L.length := by simp [st2, st1_len]
  have c2 : (rv (vJ x)).category = 2 := rfl
  have g1 : (l1.setIfInBounds i (.val (rv (vJ x))))[i + 1]? = l1[i + 1]? := by rw [aset hi', if_neg (by omega)]
  obtain ⟨y, hy⟩ : ∃ y, l1[i + 1]? = some y := ⟨_, Array.getElem?_eq_getElem hi2⟩
  by_cases hb : ∃ w, y = .val w ∧ w.category = 2
  · obtain ⟨w, rfl, cw⟩ := hb
    have hn := (a1 (i + 1) w (by omega) hy cw).2
    have hi3 : i + 1 + 1 < l1.size := (Array.getElem?_eq_some_iff.mp hn).1
    refine ⟨((l1.setIfInBounds i (.val (rv (vJ x)))).setIfInBounds (i + 2) .unset).setIfInBounds (i + 1) .second, ?_, by rw [hlen]; simp [hs], ⟨fun t w2 h c => ?_, fun t h => ?_⟩, fun t w2 h => ?_⟩
    · rw [e1]
      have hi3' : i + 2 < l1.size := hi3
      have hy2 := (Array.getElem?_eq_some_iff.mp hy).2
      simp [storeSelf, setAt, hi', c2, g1, hy2, cw, hi3', hi2]
    · rw [aset (by simp; omega), aset (by simp; omega), aset hi'] at h
      split at h
      · cases h
      · split at h
        · cases h
        · split at h
          · rename_i q1 q2 q3
            subst q3
            rw [aset (by simp; omega), if_pos rfl]
          · rename_i q1 q2 q3
            obtain ⟨b1, b2⟩ := a1 t w2 q3 h c
            rw [aset (by simp; omega), if_neg (by omega), aset (by simp; omega), if_neg (by omega), aset hi', if_neg b1]
            exact b2
    · rw [aset (by simp; omega), aset (by simp; omega), aset hi'] at h
      split at h
      · rename_i q1
        exact ⟨i, rv (vJ x), q1, by rw [aset (by simp; omega), if_neg (by omega), aset (by simp; omega), if_neg (by omega), aset hi', if_pos rfl], c2⟩
      · split at h
        · cases h
        · split at h
          · cases h
          · rename_i q1 q2 q3
            obtain ⟨j, w3, b1, b2, b3, b4⟩ := a2 t q3 h
            refine ⟨j, w3, b1, ?_, b4⟩
            rw [aset (by simp; omega), if_neg (by omega), aset (by simp; omega), if_neg ?_, aset hi', if_neg b2]
            · exact b3
            · intro q; subst q
              have : l1[i + 1 + 1]? = some (.val w3) := b3
              rw [hn] at this; cases this
    · obtain ⟨q0, q⟩ := st2_get h
      rw [aset (by simp; omega), if_neg q0, aset (by simp; omega), aset hi']
      rcases q with ⟨rfl, rfl⟩ | ⟨q1, q2, q3⟩
      · rw [if_neg (by omega), if_pos rfl]; exact ⟨rfl, hu⟩
      · obtain ⟨b1, b2⟩ := a3 t w2 q1 q2 q3
        refine ⟨?_, b2⟩
        rw [if_neg ?_, if_neg q1]
        · exact b1
        · intro q; subst q
          have : l1[i + 1 + 1]? = some (.val (rv w2)) := b1
          rw [hn] at this; cases this
  · refine ⟨(l1.setIfInBounds i (.val (rv (vJ x)))).setIfInBounds (i + 1) .second, ?_, by rw [hlen]; simp [hs], ⟨fun t w2 h c => ?_, fun t h => ?_⟩, fun t w2 h => ?_⟩
    · rw [e1]
      cases y with
      | val w =>
        have cw : w.category ≠ 2 := fun q => hb ⟨w, rfl, q⟩
        have hy2 := (Array.getElem?_eq_some_iff.mp hy).2
        simp [storeSelf, setAt, hi', c2, g1, hy2, cw, hi2]
      | unset => have hy2 := (Array.getElem?_eq_some_iff.mp hy).2; simp [storeSelf, setAt, hi', c2, g1, hy2, hi2]
      | second => have hy2 := (Array.getElem?_eq_some_iff.mp hy).2; simp [storeSelf, setAt, hi', c2, g1, hy2, hi2]
    · rw [aset (by simp; omega), aset hi'] at h
      split at h
      · cases h
      · split at h
        · rename_i q1 q2
          subst q2
          rw [aset (by simp; omega), if_pos rfl]
        · rename_i q1 q2
          obtain ⟨b1, b2⟩ := a1 t w2 q2 h c
          rw [aset (by simp; omega), if_neg (by omega), aset hi', if_neg b1]
          exact b2
    · rw [aset (by simp; omega), aset hi'] at h
      split at h
      · rename_i q1
        exact ⟨i, rv (vJ x), q1, by rw [aset (by simp; omega), if_neg (by omega), aset hi', if_pos rfl], c2⟩
      · split at h
        · cases h
        · rename_i q1 q2
          obtain ⟨j, w3, b1, b2, b3, b4⟩ := a2 t q2 h
          refine ⟨j, w3, b1, ?_, b4⟩
          rw [aset (by simp; omega), if_neg ?_, aset hi', if_neg b2]
          · exact b3
          · intro q; subst q
            rw [hy] at b3; cases b3
            exact hb ⟨w3, rfl, b4⟩
    · obtain ⟨q0, q⟩ := st2_get h
      rw [aset (by simp; omega), if_neg q0, aset hi']
      rcases q with ⟨rfl, rfl⟩ | ⟨q1, q2, q3⟩
      · rw [if_pos rfl]; exact ⟨rfl, hu⟩
      · obtain ⟨b1, b2⟩ := a3 t w2 q1 q2 q3
        exact ⟨by rw [if_neg q1]; exact b1, b2⟩
/-! entry -/
def laid : List V → List (Option V)
  | [] => []
  | .inr (.inl x) :: r => some (vJ x) :: none :: laid r
  | u :: r => some u :: laid r
def ent (as : List V) (maxL : Nat) : List (Option V) := laid as ++ List.replicate (maxL - (laid as).length) none
def mask : List Bool → List (Option V) → List (Option V)
  | true :: bs, u :: r => u :: mask bs r
  | false :: bs, _ :: r => none :: mask bs r
  | _, r => r
theorem mask_len (bs : List Bool) (L : List (Option V)) : (mask bs L).length = L.length := by
  induction L generalizing bs with
  | nil => rcases bs with _ | ⟨_ | _, bs⟩ <;> rfl
  | cons a r ih => rcases bs with _ | ⟨_ | _, bs⟩ <;> simp [mask, ih]
theorem mask_get {bs : List Bool} {L : List (Option V)} {i : Nat} {u : V} (h : (mask bs L)[i]? = some (some u)) : L[i]? = some (some u) := by
  induction L generalizing bs i with
  | nil => cases bs <;> simp [mask] at h
  | cons a r ih =>
    rcases bs with _ | ⟨_ | _, bs⟩
    · exact h
    · cases i with
      | zero => simp [mask] at h
      | succ i => simp only [mask, List.getElem?_cons_succ] at h ⊢; exact ih h
    · cases i with
      | zero => exact h
      | succ i => simp only [mask, List.getElem?_cons_succ] at h ⊢; exact ih h
theorem LocRel.mask {L : List (Option V)} {Ls : Array Slot} (H : LocRel L Ls) (bs : List Bool) : LocRel (mask bs L) Ls := ⟨by rw [mask_len]; exact H.1, H.2.1, fun i u h => H.2.2 i u (mask_get h)⟩
def WFl (Ls : List Slot) : Prop := (∀ (i : Nat) (v : Value), Ls[i]? = some (.val v) → v.category = 2 → Ls[i + 1]? = some .second) ∧ (∀ i : Nat, Ls[i]? = some .second → ∃ (j : Nat) (v : Value), i = j + 1 ∧ Ls[j]? = some (.val v) ∧ v.category = 2)
theorem wfl_rep (n : Nat) : WFl (List.replicate n .unset) := by
  refine ⟨fun i v h => ?_, fun i h => ?_⟩ <;> (rw [List.getElem?_replicate] at h; split at h <;> simp at h)
theorem wfl_cons1 {a : Value} {r : List Slot} (H : WFl r) (c : a.category ≠ 2) : WFl (.val a :: r) := by
  refine ⟨fun i v h cv => ?_, fun i h => ?_⟩
  · cases i with
    | zero => simp at h; subst h; exact absurd cv c
    | succ i => simp only [List.getElem?_cons_succ] at h ⊢; exact H.1 i v h cv
  · cases i with
    | zero => simp at h
    | succ i =>
      simp only [List.getElem?_cons_succ] at h
      obtain ⟨j, v, e, h2, c2⟩ := H.2 i h
      exact ⟨j + 1, v, by omega, by simpa using h2, c2⟩
theorem wfl_cons2 {a : Value} {r : List Slot} (H : WFl r) (c : a.category = 2) : WFl (.val a :: .second :: r) := by
  refine ⟨fun i v h cv => ?_, fun i h => ?_⟩
  · rcases i with _ | _ | i
    · rfl
    · simp at h
    · simp only [List.getElem?_cons_succ] at h ⊢; exact H.1 i v h cv
  · rcases i with _ | _ | i
    · simp at h
    · exact ⟨0, a, rfl, rfl, c⟩
    · simp only [List.getElem?_cons_succ] at h
      obtain ⟨j, v, e, h2, c2⟩ := H.2 i h
      exact ⟨j + 2, v, by omega, by simpa using h2, c2⟩
theorem laid_ok (n : Nat) : ∀ as : List V, okS as → (laid as).length = (Jvm.Sym.laidSlots (as.map rv)).length ∧ WFl (Jvm.Sym.laidSlots (as.map rv) ++ List.replicate n .unset) ∧ ∀ (i : Nat) (u : V), (laid as)[i]? = some (some u) → (Jvm.Sym.laidSlots (as.map rv))[i]? = some (.val (rv u)) ∧ okV u
  | [], _ => ⟨rfl, by simpa [Jvm.Sym.laidSlots] using wfl_rep n, fun i u h => by simp [laid] at h⟩
  | .inl x :: r, ho => by
    obtain ⟨h1, h2, h3⟩ := laid_ok n r (fun u hu => ho u (List.mem_cons_of_mem _ hu))
    refine ⟨by simp [laid, Jvm.Sym.laidSlots, rv, Value.category, h1], ?_, fun i u h => ?_⟩
    · exact wfl_cons1 (a := rv (vI x)) h2 (by simp [rv, Value.category])
    · cases i with
      | zero => simp [laid] at h; subst h; exact ⟨rfl, ho _ (List.mem_cons_self ..)⟩
      | succ i => simp only [laid, List.getElem?_cons_succ] at h; exact h3 i u h
  | .inr (.inr x) :: r, ho => by
    obtain ⟨h1, h2, h3⟩ := laid_ok n r (fun u hu => ho u (List.mem_cons_of_mem _ hu))
    refine ⟨by simp [laid, Jvm.Sym.laidSlots, rv, Value.category, h1], ?_, fun i u h => ?_⟩
    · exact wfl_cons1 (a := rv (vR x)) h2 (by simp [rv, Value.category])
    · cases i with
      | zero => simp [laid] at h; subst h; exact ⟨rfl, ho _ (List.mem_cons_self ..)⟩
      | succ i => simp only [laid, List.getElem?_cons_succ] at h; exact h3 i u h
  | .inr (.inl x) :: r, ho => by
    obtain ⟨h1, h2, h3⟩ := laid_ok n r (fun u hu => ho u (List.mem_cons_of_mem _ hu))
    refine ⟨by simp [laid, Jvm.Sym.laidSlots, rv, Value.category, h1], ?_, fun i u h => ?_⟩
    · exact wfl_cons2 (a := rv (vJ x)) h2 rfl
    · rcases i with _ | _ | i
      · simp [laid] at h; subst h; exact ⟨rfl, ho _ (List.mem_cons_self ..)⟩
      · simp [laid] at h
      · simp only [laid, List.getElem?_cons_succ] at h; exact h3 i u h
theorem ent_ok {as : List V} {maxL : Nat} (ho : okS as) (hl : (laid as).length ≤ maxL) : LocRel (ent as maxL) (argsToLocals (as.map rv).toArray maxL) := by
  have e : (argsToLocals (as.map rv).toArray maxL).toList = Jvm.Sym.laidSlots (as.map rv) ++ List.replicate (maxL - (Jvm.Sym.laidSlots (as.map rv)).length) .unset := by rw [Jvm.Sym.argsToLocals_toList]
  obtain ⟨h1, h2, h3⟩ := laid_ok (maxL - (Jvm.Sym.laidSlots (as.map rv)).length) as ho
  have g : ∀ i, (argsToLocals (as.map rv).toArray maxL)[i]? = (Jvm.Sym.laidSlots (as.map rv) ++ List.replicate (maxL - (Jvm.Sym.laidSlots (as.map rv)).length) .unset)[i]? := fun i => by rw [← e, Array.getElem?_toList]
  refine ⟨?_, ⟨fun i v h c => ?_, fun i h => ?_⟩, fun i u h => ?_⟩
  · rw [← Array.length_toList, e]; simp [ent, h1]
  · rw [g] at h ⊢; exact h2.1 i v h c
  · rw [g] at h
    obtain ⟨j, v, q1, q2, q3⟩ := h2.2 i h
    exact ⟨j, v, q1, by rw [g]; exact q2, q3⟩
  · rw [g]
    unfold ent at h
    by_cases q : i < (laid as).length
    · rw [List.getElem?_append_left q] at h
      rw [List.getElem?_append_left (by omega)]
      exact h3 i u h
    · rw [List.getElem?_append_right (by omega), List.getElem?_replicate] at h
      split at h <;> simp at h
/-! the heap: objects of one class, each with its arrays laid right behind it -/
def fv : FieldType → Int → Value
  | .long, x => .long (Int64.ofInt x)
  | _, x => .int (Int32.ofInt x)
def tv : FieldType → Int → V
  | .long, x => vJ x
  | _, x => vI x
def okT : FieldType → Int → Prop
  | .long, x => R64 x
  | .boolean, x => x = 0 ∨ x = 1
  | .byte, x => -128 ≤ x ∧ x < 128
  | _, x => R32 x
def norm : FieldType → Int → Int
  | .boolean, x => x % 2
  | .byte, x => w8 x
  | _, x => x
def pt (t : FieldType) : Prop := t = .int ∨ t = .boolean ∨ t = .byte ∨ t = .long
theorem rv_tv (t : FieldType) (x : Int) : rv (tv t x) = fv t x := by cases t <;> rfl
theorem okV_tv {t : FieldType} {x : Int} (h : okT t x) : okV (tv t x) := by
  cases t <;> simp only [okT, tv, okV, R32, R64] at * <;> omega
theorem dflt_fv {t : FieldType} (h : pt t) : defaultValue t = fv t 0 := by rcases h with rfl | rfl | rfl | rfl <;> rfl
theorem okT0 {t : FieldType} (h : pt t) : okT t 0 := by rcases h with rfl | rfl | rfl | rfl <;> simp [okT, R32, R64]
theorem norm_ok {t : FieldType} {x : Int} (h : pt t) (hx : okV (tv t x)) : narrow t (fv t x) = fv t (norm t x) ∧ fits t (fv t (norm t x)) = true ∧ okT t (norm t x) := by
  rcases h with rfl | rfl | rfl | rfl
  · exact ⟨rfl, rfl, hx⟩
  · refine ⟨?_, ?_, ?_⟩
    · show Value.int (Int32.ofInt x &&& 1) = _; rw [and1_o]; rfl
    · have := fits_nar_bool (Int32.ofInt x)
      rw [show nar .boolean (Int32.ofInt x) = Int32.ofInt x &&& 1 from rfl, and1_o] at this
      exact this
    · simp only [okT, norm]; omega
  · refine ⟨?_, ?_, ?_⟩
    · show Value.int ((Int32.ofInt x).toInt8.toInt32) = _; rw [i2b_o]; rfl
    · have := fits_nar_byte (Int32.ofInt x)
      rw [i2b_o] at this
      exact this
    · exact r8 x
  · exact ⟨rfl, rfl, hx⟩
abbrev OB := Nat × Nat × Mo
/-- the class: its name, its plain fields (number, name, descriptor, type), its arrays (name, descriptor, component type, length) -/
abbrev Cls := String × List (Nat × String × String × FieldType) × List (String × String × FieldType × Nat)
abbrev Cls.C (D : Cls) : String := D.1
abbrev Cls.FS (D : Cls) : List (Nat × String × String × FieldType) := D.2.1
abbrev Cls.AS (D : Cls) : List (String × String × FieldType × Nat) := D.2.2
def Obj (Z : State) (D : Cls) (b k : Nat) (O : Mo) (h : Heap) : Prop :=
  Exa Z h b D.C ∧ (∀ (i : Nat) (n d : String) (t : FieldType), (i, n, d, t) ∈ D.FS → Fld Z h b D.C n d (fv t (O 0 i)) ∧ okT t (O 0 i)) ∧
  (∀ (j : Nat) (n d : String) (t : FieldType) (len : Nat), D.AS[j]? = some (n, d, t, len) → Fld Z h b D.C n d (if j < k then .ref (b + j + 1) else .null)) ∧
  (∀ (j : Nat) (n d : String) (t : FieldType) (len : Nat), D.AS[j]? = some (n, d, t, len) → j < k → ∃ c : Cell, Arr Z h (b + j + 1) c t ∧ c.slots.size = len ∧ ∀ i : Nat, i < len → c.slots[i]? = some (fv t (O (j + 1) i)) ∧ okT t (O (j + 1) i))
def StB (D : Cls) (b : Nat) (P : Heap → Prop) : Prop := ∀ (h h' : Heap) (a sl : Nat) (v : Value), b ≤ a → a ≤ b + D.AS.length → Wr h h' a sl v → P h → P h'
def StE (P : Heap → Prop) : Prop := ∀ h h' : Heap, Ext h h' → P h → P h'
def HS (Z : State) (D : Cls) (n0 : Nat) (P : Heap → Prop) (os : List OB) (sz : Nat) (h : Heap) : Prop :=
  h.size = sz ∧ n0 ≤ sz ∧ (∀ (q b k : Nat) (O : Mo), os[q]? = some (b, k, O) → Obj Z D b k O h ∧ n0 ≤ b ∧ StB D b P) ∧
  (∀ (q q' b k : Nat) (O : Mo) (b' k' : Nat) (O' : Mo), os[q]? = some (b, k, O) → os[q']? = some (b', k', O') → q ≠ q' → b + D.AS.length < b' ∨ b' + D.AS.length < b) ∧ StE P ∧ P h
/-- what the sheet's words say of the class -/
def CW (Z : State) (a0 : Array Value) (D : Cls) : Prop :=
  (∀ (i : Nat) (n d : String) (t : FieldType), (i, n, d, t) ∈ D.FS → Laid Z a0 D.C D.C n d ∧ parseFieldDescriptor d = some t ∧ pt t) ∧
  (∀ (j : Nat) (n d : String) (t : FieldType) (len : Nat), D.AS[j]? = some (n, d, t, len) → Laid Z a0 D.C D.C n d ∧ parseFieldDescriptor d = some (.array t) ∧ pt t ∧ len * 8 ≤ 536870912) ∧
  (∀ (i : Nat) (n d : String) (t : FieldType) (i' : Nat) (n' d' : String) (t' : FieldType), (i, n, d, t) ∈ D.FS → (i', n', d', t') ∈ D.FS → (i = i' ∧ n = n' ∧ d = d' ∧ t = t') ∨ (i ≠ i' ∧ n ≠ n')) ∧
  (∀ (i : Nat) (n d : String) (t : FieldType) (j : Nat) (n' d' : String) (t' : FieldType) (len : Nat), (i, n, d, t) ∈ D.FS → D.AS[j]? = some (n', d', t', len) → n ≠ n') ∧
  (∀ (j : Nat) (n d : String) (t : FieldType) (len j' : Nat) (n' d' : String) (t' : FieldType) (len' : Nat), D.AS[j]? = some (n, d, t, len) → D.AS[j']? = some (n', d', t', len') → j ≠ j' → n ≠ n')
theorem nne {x y : Nat} (h : ¬ x = y) : @Ne Addr x y := h
section Heaps
variable {Z : State} {a0 : Array Value} {D : Cls} {n0 : Nat} {P : Heap → Prop} {b k : Nat} {O : Mo} {h h' : Heap} {os : List OB} {sz q : Nat}
theorem Obj.putf (cw : CW Z a0 D) (H : Obj Z D b k O h) {i : Nat} {n d : String} {t : FieldType} {x : Int} (hf : (i, n, d, t) ∈ D.FS) (W : Wr h h' b (Jvm.RoadKit.slotOf Z D.C n d) (fv t x)) (hx : okT t x) : Obj Z D b k (upd O 0 i x) h' := by
  obtain ⟨h1, h2, h3, h4⟩ := H
  obtain ⟨c1, c2, c3, c4, c5⟩ := cw
  obtain ⟨l1, p1, t1⟩ := c1 _ _ _ _ hf
  refine ⟨h1.wr W, fun i' n' d' t' hf' => ?_, fun j n' d' t' len ha => ?_, fun j n' d' t' len ha hj => ?_⟩
  · obtain ⟨f1, f2⟩ := h2 _ _ _ _ hf'
    rcases c3 _ _ _ _ _ _ _ _ hf hf' with ⟨rfl, rfl, rfl, rfl⟩ | ⟨ne, nn⟩
    · rw [upd_same]; exact ⟨f1.same W, hx⟩
    · rw [upd_ne (fun q => ne q.2.symm)]
      obtain ⟨l2, p2, _⟩ := c1 _ _ _ _ hf'
      exact ⟨f1.other W (Or.inr (slot_ne l2 l1 (fun e => nn e.symm) p2 p1)), f2⟩
  · have f1 := h3 _ _ _ _ _ ha
    obtain ⟨l2, p2, _⟩ := c2 _ _ _ _ _ ha
    exact f1.other W (Or.inr (slot_ne l2 l1 (fun e => c4 _ _ _ _ _ _ _ _ _ hf ha e.symm) p2 p1))
  · obtain ⟨c, A, s, g⟩ := h4 _ _ _ _ _ ha hj
    refine ⟨c, A.other W (nne (by omega)), s, fun i' hi' => ?_⟩
    rw [upd_ne (by omega)]; exact g i' hi'
theorem Obj.puta (H : Obj Z D b k O h) {j i len : Nat} {n d : String} {t : FieldType} {x : Int} (ha : D.AS[j]? = some (n, d, t, len)) (hj : j < k) (hi : i < len) (W : Wr h h' (b + j + 1) i (fv t x)) (hx : okT t x) : Obj Z D b k (upd O (j + 1) i x) h' := by
  obtain ⟨h1, h2, h3, h4⟩ := H
  refine ⟨h1.wr W, fun i' n' d' t' hf' => ?_, fun j' n' d' t' len' ha' => ?_, fun j' n' d' t' len' ha' hj' => ?_⟩
  · obtain ⟨f1, f2⟩ := h2 _ _ _ _ hf'
    rw [upd_ne (by omega)]
    exact ⟨f1.other W (Or.inl (nne (by omega))), f2⟩
  · exact (h3 _ _ _ _ _ ha').other W (Or.inl (nne (by omega)))
  · obtain ⟨c, A, s, g⟩ := h4 _ _ _ _ _ ha' hj'
    by_cases e : j' = j
    · subst e
      cases ha.symm.trans ha'
      refine ⟨_, A.same W, by rw [sz_set]; exact s, fun i' hi' => ?_⟩
      by_cases e2 : i' = i
      · subst e2
        rw [upd_same]
        exact ⟨by simp [Cell.setSlot, s, hi'], hx⟩
      · rw [upd_ne (fun q => e2 q.2)]
        refine ⟨?_, (g i' hi').2⟩
        have := (g i' hi').1
        simp only [Cell.setSlot]
        rw [Array.getElem?_setIfInBounds_ne (fun q => e2 q.symm)]
        exact this
    · refine ⟨c, A.other W (nne (by omega)), s, fun i' hi' => ?_⟩
      rw [upd_ne (by omega)]; exact g i' hi'
theorem Obj.other (H : Obj Z D b k O h) {a sl : Nat} {v : Value} (W : Wr h h' a sl v) (hne : a < b ∨ b + D.AS.length < a) : Obj Z D b k O h' := by
  obtain ⟨h1, h2, h3, h4⟩ := H
  refine ⟨h1.wr W, fun i' n' d' t' hf' => ⟨(h2 _ _ _ _ hf').1.other W (Or.inl (nne (by omega))), (h2 _ _ _ _ hf').2⟩, fun j' n' d' t' len' ha' => (h3 _ _ _ _ _ ha').other W (Or.inl (nne (by omega))), fun j' n' d' t' len' ha' hj' => ?_⟩
  obtain ⟨c, A, s, g⟩ := h4 _ _ _ _ _ ha' hj'
  have hl : j' < D.AS.length := (List.getElem?_eq_some_iff.mp ha').1
  exact ⟨c, A.other W (nne (by omega)), s, g⟩
theorem Obj.ext (H : Obj Z D b k O h) (E : Ext h h') : Obj Z D b k O h' := by
  obtain ⟨h1, h2, h3, h4⟩ := H
  refine ⟨h1.ext E, fun i' n' d' t' hf' => ⟨(h2 _ _ _ _ hf').1.ext E, (h2 _ _ _ _ hf').2⟩, fun j' n' d' t' len' ha' => (h3 _ _ _ _ _ ha').ext E, fun j' n' d' t' len' ha' hj' => ?_⟩
  obtain ⟨c, A, s, g⟩ := h4 _ _ _ _ _ ha' hj'
  exact ⟨c, A.ext E, s, g⟩
theorem Obj.top (H : Obj Z D b k O h) (hk : k = D.AS.length) : b + D.AS.length < h.size := by
  obtain ⟨h1, h2, h3, h4⟩ := H
  by_cases z : D.AS.length = 0
  · have : b < h.size := h1.lt
    omega
  · obtain ⟨⟨n, d, t, len⟩, hx⟩ : ∃ y, D.AS[D.AS.length - 1]? = some y := ⟨_, List.getElem?_eq_getElem (by omega)⟩
    obtain ⟨c, A, -⟩ := h4 _ _ _ _ _ hx (by omega)
    have : b + (D.AS.length - 1) + 1 < h.size := A.lt
    omega
theorem Obj.mkArr (cw : CW Z a0 D) (H : Obj Z D b k O h) {n d : String} {t : FieldType} {len : Nat} {h1 h2 : Heap} {cA : ClassId} (ha : D.AS[k]? = some (n, d, t, len)) (E : Ext h h1) (A : Arr Z h1 (b + k + 1) (newA cA t (Int32.ofInt len)) t)
    (W : Wr h1 h2 b (Jvm.RoadKit.slotOf Z D.C n d) (.ref (b + k + 1))) (hO : ∀ i, O (k + 1) i = 0) : Obj Z D b (k + 1) O h2 := by
  have H1 := H.ext E
  obtain ⟨g1, g2, g3, g4⟩ := H1
  obtain ⟨c1, c2, c3, c4, c5⟩ := cw
  obtain ⟨l1, p1, t1, b1⟩ := c2 _ _ _ _ _ ha
  refine ⟨g1.wr W, fun i' n' d' t' hf' => ?_, fun j n' d' t' len' ha' => ?_, fun j n' d' t' len' ha' hj => ?_⟩
  · obtain ⟨f1, f2⟩ := g2 _ _ _ _ hf'
    obtain ⟨l2, p2, _⟩ := c1 _ _ _ _ hf'
    exact ⟨f1.other W (Or.inr (slot_ne l2 l1 (fun e => c4 _ _ _ _ _ _ _ _ _ hf' ha e) p2 p1)), f2⟩
  · by_cases e : j = k
    · subst e
      cases ha.symm.trans ha'
      rw [if_pos (by omega)]
      exact (g3 _ _ _ _ _ ha).same W
    · have f1 := g3 _ _ _ _ _ ha'
      obtain ⟨l2, p2, _⟩ := c2 _ _ _ _ _ ha'
      have e3 : (j < k + 1) = (j < k) := propext ⟨fun q => by omega, fun q => by omega⟩
      simp only [e3]
      exact f1.other W (Or.inr (slot_ne l2 l1 (fun e2 => c5 _ _ _ _ _ _ _ _ _ _ ha' ha e e2) p2 p1))
  · by_cases e : j = k
    · subst e
      cases ha.symm.trans ha'
      have e32 : (Int32.ofInt (len : Int)).toNatClampNeg = len := by
        unfold Int32.toNatClampNeg
        rw [ti32 ⟨by omega, by omega⟩]; simp
      refine ⟨_, A.other W (nne (by omega)), by rw [sz_new, e32], fun i hi => ?_⟩
      rw [hO]
      refine ⟨?_, okT0 t1⟩
      simp [newA, e32, hi, dflt_fv t1]
    · obtain ⟨c, A', s, g⟩ := g4 _ _ _ _ _ ha' (by omega)
      exact ⟨c, A'.other W (nne (by omega)), s, g⟩
theorem HS.wr (H : HS Z D n0 P os sz h) (hq : os[q]? = some (b, k, O)) {a sl : Nat} {v : Value} {k' : Nat} {O' : Mo} (h1 : b ≤ a) (h2 : a ≤ b + D.AS.length) (W : Wr h h' a sl v) (hO : Obj Z D b k' O' h') : HS Z D n0 P (os.set q (b, k', O')) sz h' := by
  obtain ⟨g1, g2, g3, g4, g5, g6⟩ := H
  have hlt : q < os.length := (List.getElem?_eq_some_iff.mp hq).1
  have key : ∀ q2 b2 k2 O2, (os.set q (b, k', O'))[q2]? = some (b2, k2, O2) → (q2 = q ∧ b2 = b ∧ k2 = k' ∧ O2 = O') ∨ (q2 ≠ q ∧ os[q2]? = some (b2, k2, O2)) := fun q2 b2 k2 O2 e => by
    rw [List.getElem?_set] at e
    split at e
    · rename_i e2; subst e2
      cases e; exact Or.inl ⟨rfl, rfl, rfl, rfl⟩
    · rename_i e2; exact Or.inr ⟨fun e3 => e2 e3.symm, e⟩
  refine ⟨by rw [W.size]; exact g1, g2, fun q2 b2 k2 O2 e => ?_, fun q2 q3 b2 k2 O2 b3 k3 O3 e2 e3 ne => ?_, g5, (g3 _ _ _ _ hq).2.2 h h' a sl v h1 h2 W g6⟩
  · rcases key _ _ _ _ e with ⟨rfl, rfl, rfl, rfl⟩ | ⟨ne, e⟩
    · exact ⟨hO, (g3 _ _ _ _ hq).2⟩
    · obtain ⟨m1, m2⟩ := g3 _ _ _ _ e
      refine ⟨m1.other W ?_, m2⟩
      have := g4 _ _ _ _ _ _ _ _ e hq ne
      omega
  · rcases key _ _ _ _ e2 with ⟨rfl, rfl, rfl, rfl⟩ | ⟨ne2, f2⟩
    · rcases key _ _ _ _ e3 with ⟨rfl, rfl, rfl, rfl⟩ | ⟨ne3, f3⟩
      · exact absurd rfl ne
      · exact g4 _ _ _ _ _ _ _ _ hq f3 ne
    · rcases key _ _ _ _ e3 with ⟨rfl, rfl, rfl, rfl⟩ | ⟨ne3, f3⟩
      · exact g4 _ _ _ _ _ _ _ _ f2 hq ne
      · exact g4 _ _ _ _ _ _ _ _ f2 f3 ne
theorem HS.ext (H : HS Z D n0 P os sz h) (E : Ext h h') : HS Z D n0 P os h'.size h' := by
  obtain ⟨g1, g2, g3, g4, g5, g6⟩ := H
  exact ⟨rfl, by have := E.1; omega, fun q2 b2 k2 O2 e => ⟨(g3 _ _ _ _ e).1.ext E, (g3 _ _ _ _ e).2⟩, g4, g5, g5 _ _ E g6⟩
theorem HS.new (cw : CW Z a0 D) (H : HS Z D n0 P os sz h) (hk : ∀ o ∈ os, o.2.1 = D.AS.length) (hP : ∀ b, n0 ≤ b → StB D b P) (E : Ext h h') (hs : h'.size = sz + 1) (A : Exa Z h' h.size D.C)
    (F : ∀ {O nm d : String} {ty : FieldType}, Laid Z a0 D.C O nm d → parseFieldDescriptor d = some ty → Fld Z h' h.size O nm d (defaultValue ty)) : HS Z D n0 P (os ++ [(sz, 0, zM)]) (sz + 1) h' := by
  obtain ⟨g1, g2, g3, g4, g5, g6⟩ := H
  subst g1
  obtain ⟨c1, c2, c3, c4, c5⟩ := cw
  have key : ∀ q2 b2 k2 O2, (os ++ [(h.size, 0, zM)])[q2]? = some (b2, k2, O2) → (q2 < os.length ∧ os[q2]? = some (b2, k2, O2)) ∨ (q2 = os.length ∧ b2 = h.size ∧ k2 = 0 ∧ O2 = zM) := fun q2 b2 k2 O2 e => by
    by_cases l : q2 < os.length
    · rw [List.getElem?_append_left l] at e; exact Or.inl ⟨l, e⟩
    · rw [List.getElem?_append_right (by omega)] at e
      have : q2 - os.length = 0 := by have := (List.getElem?_eq_some_iff.mp e).1; simp at this; omega
      rw [this] at e
      simp at e
      exact Or.inr ⟨by omega, e.1.symm, e.2.1.symm, e.2.2.symm⟩
  have low : ∀ q2 b2 k2 O2, os[q2]? = some (b2, k2, O2) → b2 + D.AS.length < h.size := fun q2 b2 k2 O2 e => (g3 _ _ _ _ e).1.top (hk _ (List.mem_of_getElem? e))
  refine ⟨hs, by omega, fun q2 b2 k2 O2 e => ?_, fun q2 q3 b2 k2 O2 b3 k3 O3 e2 e3 ne => ?_, g5, g5 _ _ E g6⟩
  · rcases key _ _ _ _ e with ⟨-, e⟩ | ⟨-, rfl, rfl, rfl⟩
    · exact ⟨(g3 _ _ _ _ e).1.ext E, (g3 _ _ _ _ e).2⟩
    · refine ⟨⟨A, fun i n d t hf => ?_, fun j n d t len ha => ?_, fun j n d t len ha hj => absurd hj (by omega)⟩, by omega, hP _ (by omega)⟩
      · obtain ⟨l1, p1, t1⟩ := c1 _ _ _ _ hf
        have := F l1 p1
        rw [dflt_fv t1] at this
        exact ⟨this, okT0 t1⟩
      · obtain ⟨l1, p1, t1, -⟩ := c2 _ _ _ _ _ ha
        have := F l1 p1
        rw [if_neg (by omega)]
        exact this
  · rcases key _ _ _ _ e2 with ⟨-, e2⟩ | ⟨n2, rfl, rfl, rfl⟩ <;> rcases key _ _ _ _ e3 with ⟨-, e3⟩ | ⟨n3, rfl, rfl, rfl⟩
    · exact g4 _ _ _ _ _ _ _ _ e2 e3 ne
    · exact Or.inl (low _ _ _ _ e2)
    · exact Or.inr (low _ _ _ _ e3)
    · omega
/-- all objects but the q-th, with P: what a call on the q-th keeps -/
def Rest (Z : State) (D : Cls) (P : Heap → Prop) (os : List OB) (q : Nat) (h : Heap) : Prop := P h ∧ ∀ (q' b k : Nat) (O : Mo), q' ≠ q → os[q']? = some (b, k, O) → Obj Z D b k O h
theorem HS.split (H : HS Z D n0 P os sz h) (hq : os[q]? = some (b, k, O)) : HS Z D n0 (Rest Z D P os q) [(b, k, O)] sz h := by
  obtain ⟨g1, g2, g3, g4, g5, g6⟩ := H
  refine ⟨g1, g2, fun q2 b2 k2 O2 e => ?_, fun q2 q3 b2 k2 O2 b3 k3 O3 e2 e3 ne => ?_, fun x x' E hx => ⟨g5 _ _ E hx.1, fun q' b' k' O' n e => (hx.2 _ _ _ _ n e).ext E⟩, g6, fun q' b' k' O' n e => (g3 _ _ _ _ e).1⟩
  · have : q2 = 0 := by have := (List.getElem?_eq_some_iff.mp e).1; simp at this; omega
    subst this
    simp at e
    obtain ⟨rfl, rfl, rfl⟩ := e
    refine ⟨(g3 _ _ _ _ hq).1, (g3 _ _ _ _ hq).2.1, fun x x' a sl v l1 l2 W hx => ⟨(g3 _ _ _ _ hq).2.2 x x' a sl v l1 l2 W hx.1, fun q' b' k' O' n e => (hx.2 _ _ _ _ n e).other W ?_⟩⟩
    have := g4 _ _ _ _ _ _ _ _ e hq n
    omega
  · have h2 : q2 = 0 := by have := (List.getElem?_eq_some_iff.mp e2).1; simp at this; omega
    have h3 : q3 = 0 := by have := (List.getElem?_eq_some_iff.mp e3).1; simp at this; omega
    omega
theorem HS.merge (H : HS Z D n0 P os sz h) (hq : os[q]? = some (b, k, O)) {k' : Nat} {O' : Mo} {sz' : Nat} (M : HS Z D n0 (Rest Z D P os q) [(b, k', O')] sz' h') : HS Z D n0 P (os.set q (b, k', O')) sz' h' := by
  obtain ⟨g1, g2, g3, g4, g5, g6⟩ := H
  obtain ⟨m1, m2, m3, m4, m5, m6⟩ := M
  have hlt : q < os.length := (List.getElem?_eq_some_iff.mp hq).1
  have key : ∀ q2 b2 k2 O2, (os.set q (b, k', O'))[q2]? = some (b2, k2, O2) → (q2 = q ∧ b2 = b ∧ k2 = k' ∧ O2 = O') ∨ (q2 ≠ q ∧ os[q2]? = some (b2, k2, O2)) := fun q2 b2 k2 O2 e => by
    rw [List.getElem?_set] at e
    split at e
    · rename_i e2; subst e2
      cases e; exact Or.inl ⟨rfl, rfl, rfl, rfl⟩
    · rename_i e2; exact Or.inr ⟨fun e3 => e2 e3.symm, e⟩
  refine ⟨m1, m2, fun q2 b2 k2 O2 e => ?_, fun q2 q3 b2 k2 O2 b3 k3 O3 e2 e3 ne => ?_, g5, m6.1⟩
  · rcases key _ _ _ _ e with ⟨rfl, rfl, rfl, rfl⟩ | ⟨ne, e⟩
    · exact ⟨(m3 0 _ _ _ rfl).1, (g3 _ _ _ _ hq).2⟩
    · exact ⟨m6.2 _ _ _ _ ne e, (g3 _ _ _ _ e).2⟩
  · rcases key _ _ _ _ e2 with ⟨rfl, rfl, rfl, rfl⟩ | ⟨ne2, f2⟩
    · rcases key _ _ _ _ e3 with ⟨rfl, rfl, rfl, rfl⟩ | ⟨ne3, f3⟩
      · exact absurd rfl ne
      · exact g4 _ _ _ _ _ _ _ _ hq f3 ne
    · rcases key _ _ _ _ e3 with ⟨rfl, rfl, rfl, rfl⟩ | ⟨ne3, f3⟩
      · exact g4 _ _ _ _ _ _ _ _ f2 hq ne
      · exact g4 _ _ _ _ _ _ _ _ f2 f3 ne
def RestA (Z : State) (D : Cls) (P : Heap → Prop) (os : List OB) (h : Heap) : Prop := P h ∧ ∀ (q' b k : Nat) (O : Mo), os[q']? = some (b, k, O) → Obj Z D b k O h
theorem HS.split0 (H : HS Z D n0 P os sz h) : HS Z D n0 (RestA Z D P os) [] sz h := by
  obtain ⟨g1, g2, g3, g4, g5, g6⟩ := H
  exact ⟨g1, g2, fun q2 b2 k2 O2 e => by simp at e, fun q2 q3 b2 k2 O2 b3 k3 O3 e2 e3 ne => by simp at e2, fun x x' E hx => ⟨g5 _ _ E hx.1, fun q' b' k' O' e => (hx.2 _ _ _ _ e).ext E⟩, g6, fun q' b' k' O' e => (g3 _ _ _ _ e).1⟩
theorem HS.merge0 (H : HS Z D n0 P os sz h) {sz' : Nat} (M : HS Z D n0 (RestA Z D P os) [] sz' h') : HS Z D n0 P os sz' h' := by
  obtain ⟨g1, g2, g3, g4, g5, g6⟩ := H
  obtain ⟨m1, m2, m3, m4, m5, m6⟩ := M
  exact ⟨m1, m2, fun q2 b2 k2 O2 e => ⟨m6.2 _ _ _ _ e, (g3 _ _ _ _ e).2⟩, g4, g5, m6.1⟩
end Heaps
section Runs
def Cx (Z : State) (y : MethodName) (bytes : ByteArray) (maxL : Nat) (ret : Option FieldType) (p : Program) (s : State) (m : MethodId) (meth : Method) (c : Code) : Prop :=
  p.tables.exec = Jvm.exec ∧ c.code = bytes ∧ c.maxLocals = maxL ∧ meth.sig.returnType = ret ∧ s.vm.findClass y.cls = some m.cls ∧ meth.name = y.name ∧ Z.Warmed39 s.vm ∧ meth.locks = false
/-- from here the method returns v, and leaves the objects os' -/
def Go (l : Launch) (Z : State) (D : Cls) (n0 : Nat) (P : Heap → Prop) (y : MethodName) (bytes : ByteArray) (maxL : Nat) (ret : Option FieldType) (R : Room)
    (pc : Nat) (L : List (Option V)) (S : List V) (os : List OB) (sz cu su : Nat) (Q : Option V → Heap → Prop) : Prop :=
  ∀ (p : Program) (e : Env) (s : State) (m : MethodId) (args : Array Value) (below : List Frame) (meth : Method) (c : Code), Cx Z y bytes maxL ret p s m meth c →
  ∀ (T : State) (locs : List Loc), Stand p l e R s m args below meth c T locs cu su → HS Z D n0 P os sz T.heap → sz = s.heap.size + cu → Fr n0 locs → ∀ Ls : Array Slot, Ls.size = maxL → LocRel L Ls → okS S →
  ∃ (s₂ : State) (locs' : List Loc) (cu' su' : Nat) (v : Option V), Steps p.tables e below (T.setTop (mkF m pc Ls (S.map rv))) s₂ ∧ s₂.status = .running ∧ Ended s₂ below (.returned (v.map rv)) ∧ s.WarmedH s₂.vm ∧
    s.sameButNew ({ s₂ with vm := s.vm } : State) locs' cu' su' ∧ cu' ≤ R.cells ∧ su' ≤ R.slots ∧ Q v s₂.heap ∧ Fr n0 locs' ∧ (∀ w, v = some w → okV w)
variable {l : Launch} {Z : State} {a0 : Array Value} {D : Cls} {n0 : Nat} {P : Heap → Prop} {y : MethodName} {bytes : ByteArray} {maxL : Nat} {ret : Option FieldType} {R : Room} {pc pc2 pc3 : Nat} {L L2 : List (Option V)} {S S2 : List V} {os os2 os' : List OB} {sz sz2 sz' cu cu2 su su2 : Nat} {v : Option V} {Q : Option V → Heap → Prop}
theorem okS_cons {u : V} (h : okV u) (hS : okS S) : okS (u :: S) := fun w hw => (List.mem_cons.mp hw).elim (fun e => e ▸ h) (hS w)
theorem okS_tail {u : V} (hS : okS (u :: S)) : okS S := fun w hw => hS w (List.mem_cons_of_mem _ hw)
theorem okS_head {u : V} (hS : okS (u :: S)) : okV u := hS u (List.mem_cons_self ..)
theorem Go.step (h : Go l Z D n0 P y bytes maxL ret R pc2 L2 S2 os2 sz2 cu2 su2 Q)
    (hs : ∀ (p : Program) (e : Env) (s : State) (m : MethodId) (args : Array Value) (below : List Frame) (meth : Method) (c : Code), Cx Z y bytes maxL ret p s m meth c →
      ∀ (T : State) (locs : List Loc), Stand p l e R s m args below meth c T locs cu su → HS Z D n0 P os sz T.heap → sz = s.heap.size + cu → Fr n0 locs → ∀ Ls : Array Slot, Ls.size = maxL → LocRel L Ls → okS S →
      ∃ (T2 : State) (locs2 : List Loc) (Ls2 : Array Slot), Stand p l e R s m args below meth c T2 locs2 cu2 su2 ∧ HS Z D n0 P os2 sz2 T2.heap ∧ sz2 = s.heap.size + cu2 ∧ Fr n0 locs2 ∧ Ls2.size = maxL ∧ LocRel L2 Ls2 ∧ okS S2 ∧
        ∀ target, Steps p.tables e below (T2.setTop (mkF m pc2 Ls2 (S2.map rv))) target → Steps p.tables e below (T.setTop (mkF m pc Ls (S.map rv))) target) :
    Go l Z D n0 P y bytes maxL ret R pc L S os sz cu su Q := by
  intro p e s m args below meth c hc T locs X H hz hF Ls hl hL hS
  obtain ⟨T2, locs2, Ls2, X2, H2, hz2, hF2, hl2, hL2, hS2, st⟩ := hs p e s m args below meth c hc T locs X H hz hF Ls hl hL hS
  obtain ⟨s2, locs', cu', su', v, g, r⟩ := h p e s m args below meth c hc T2 locs2 X2 H2 hz2 hF2 Ls2 hl2 hL2 hS2
  exact ⟨s2, locs', cu', su', v, st _ g, r⟩
theorem Go.pure (h : Go l Z D n0 P y bytes maxL ret R pc2 L S2 os sz cu su Q)
    (hok : ∀ Ls, LocRel L Ls → okS S → okS S2)
    (hs : ∀ (p : Program) (e : Env) (s : State) (m : MethodId) (args : Array Value) (below : List Frame) (meth : Method) (c : Code), Cx Z y bytes maxL ret p s m meth c →
      ∀ (T : State) (locs : List Loc), Stand p l e R s m args below meth c T locs cu su → HS Z D n0 P os sz T.heap → ∀ Ls : Array Slot, Ls.size = maxL → LocRel L Ls → okS S →
        ∀ target, Steps p.tables e below (T.setTop (mkF m pc2 Ls (S2.map rv))) target → Steps p.tables e below (T.setTop (mkF m pc Ls (S.map rv))) target) :
    Go l Z D n0 P y bytes maxL ret R pc L S os sz cu su Q :=
  Go.step h fun p e s m args below meth c hc T locs X H hz hF Ls hl hL hS => ⟨T, locs, Ls, X, H, hz, hF, hl, hL, hok Ls hL hS, hs p e s m args below meth c hc T locs X H Ls hl hL hS⟩
theorem Go.mask (bs : List Bool) (h : Go l Z D n0 P y bytes maxL ret R pc (mask bs L) S os sz cu su Q) : Go l Z D n0 P y bytes maxL ret R pc L S os sz cu su Q :=
  Go.step h fun p e s m args below meth c hc T locs X H hz hF Ls hl hL hS => ⟨T, locs, Ls, X, H, hz, hF, hl, hL.mask bs, hS, fun _ k => k⟩

theorem Go.iloadN {k : Fin 4} {x : Int} (hd : decode bytes pc = .ok (.iload_n k, 1)) (hp : pc + 1 = pc2) (hx : L[k.val]? = some (some (vI x))) (h : Go l Z D n0 P y bytes maxL ret R pc2 L (vI x :: S) os sz cu su Q) : Go l Z D n0 P y bytes maxL ret R pc L S os sz cu su Q := by
  subst hp
  refine Go.pure h (fun Ls hL hS => okS_cons (hL.2.2 _ _ hx).2 hS) (fun p e s m args below meth c hc T locs X H Ls hl hL hS target hr => ?_)
  exact XS.iloadN X.here hc.1 rfl (hb hc.2.1 hd) (hL.2.2 _ _ hx).1 hr
theorem Go.iload {k : Nat} {x : Int} (hd : decode bytes pc = .ok (.iload k, 2)) (hp : pc + 2 = pc2) (hx : L[k]? = some (some (vI x))) (h : Go l Z D n0 P y bytes maxL ret R pc2 L (vI x :: S) os sz cu su Q) : Go l Z D n0 P y bytes maxL ret R pc L S os sz cu su Q := by
  subst hp
  refine Go.pure h (fun Ls hL hS => okS_cons (hL.2.2 _ _ hx).2 hS) (fun p e s m args below meth c hc T locs X H Ls hl hL hS target hr => ?_)
  exact XS.iload X.here hc.1 rfl (hb hc.2.1 hd) (hL.2.2 _ _ hx).1 hr
theorem Go.lloadN {k : Fin 4} {x : Int} (hd : decode bytes pc = .ok (.lload_n k, 1)) (hp : pc + 1 = pc2) (hx : L[k.val]? = some (some (vJ x))) (h : Go l Z D n0 P y bytes maxL ret R pc2 L (vJ x :: S) os sz cu su Q) : Go l Z D n0 P y bytes maxL ret R pc L S os sz cu su Q := by
  subst hp
  refine Go.pure h (fun Ls hL hS => okS_cons (hL.2.2 _ _ hx).2 hS) (fun p e s m args below meth c hc T locs X H Ls hl hL hS target hr => ?_)
  exact XT.lloadN X.here hc.1 rfl (hb hc.2.1 hd) (hL.2.2 _ _ hx).1 hr
theorem Go.lload {k : Nat} {x : Int} (hd : decode bytes pc = .ok (.lload k, 2)) (hp : pc + 2 = pc2) (hx : L[k]? = some (some (vJ x))) (h : Go l Z D n0 P y bytes maxL ret R pc2 L (vJ x :: S) os sz cu su Q) : Go l Z D n0 P y bytes maxL ret R pc L S os sz cu su Q := by
  subst hp
  refine Go.pure h (fun Ls hL hS => okS_cons (hL.2.2 _ _ hx).2 hS) (fun p e s m args below meth c hc T locs X H Ls hl hL hS target hr => ?_)
  exact XT.lload X.here hc.1 rfl (hb hc.2.1 hd) (hL.2.2 _ _ hx).1 hr
theorem Go.aloadN {k : Fin 4} {x : Nat} (hd : decode bytes pc = .ok (.aload_n k, 1)) (hp : pc + 1 = pc2) (hx : L[k.val]? = some (some (vR x))) (h : Go l Z D n0 P y bytes maxL ret R pc2 L (vR x :: S) os sz cu su Q) : Go l Z D n0 P y bytes maxL ret R pc L S os sz cu su Q := by
  subst hp
  refine Go.pure h (fun Ls hL hS => okS_cons (hL.2.2 _ _ hx).2 hS) (fun p e s m args below meth c hc T locs X H Ls hl hL hS target hr => ?_)
  exact XS.aloadN X.here hc.1 rfl (hb hc.2.1 hd) (hL.2.2 _ _ hx).1 rfl hr
theorem Go.aload {k : Nat} {x : Nat} (hd : decode bytes pc = .ok (.aload k, 2)) (hp : pc + 2 = pc2) (hx : L[k]? = some (some (vR x))) (h : Go l Z D n0 P y bytes maxL ret R pc2 L (vR x :: S) os sz cu su Q) : Go l Z D n0 P y bytes maxL ret R pc L S os sz cu su Q := by
  subst hp
  refine Go.pure h (fun Ls hL hS => okS_cons (hL.2.2 _ _ hx).2 hS) (fun p e s m args below meth c hc T locs X H Ls hl hL hS target hr => ?_)
  exact XS.aload X.here hc.1 rfl (hb hc.2.1 hd) (hL.2.2 _ _ hx).1 rfl hr
theorem Go.istoreN {k : Fin 4} {x : Int} (hd : decode bytes pc = .ok (.istore_n k, 1)) (hp : pc + 1 = pc2) (hk : k.val < L.length) (hL2 : st1 L k.val (vI x) = L2) (h : Go l Z D n0 P y bytes maxL ret R pc2 L2 S os sz cu su Q) : Go l Z D n0 P y bytes maxL ret R pc L (vI x :: S) os sz cu su Q := by
  subst hp hL2
  refine Go.step h fun p e s m args below meth c hc T locs X H hz hF Ls hl hL hS => ?_
  obtain ⟨Ls', e1, e2⟩ := st1_ok hL hk (okS_head hS) (fun _ q => by cases q)
  exact ⟨T, locs, Ls', X, H, hz, hF, by rw [← hl, e2.1, hL.1]; simp [st2, st1_len], e2, okS_tail hS, fun target hr => XS.istoreN X.here hc.1 rfl (hb hc.2.1 hd) rfl e1 hr⟩
theorem Go.istore {k : Nat} {x : Int} (hd : decode bytes pc = .ok (.istore k, 2)) (hp : pc + 2 = pc2) (hk : k < L.length) (hL2 : st1 L k (vI x) = L2) (h : Go l Z D n0 P y bytes maxL ret R pc2 L2 S os sz cu su Q) : Go l Z D n0 P y bytes maxL ret R pc L (vI x :: S) os sz cu su Q := by
  subst hp hL2
  refine Go.step h fun p e s m args below meth c hc T locs X H hz hF Ls hl hL hS => ?_
  obtain ⟨Ls', e1, e2⟩ := st1_ok hL hk (okS_head hS) (fun _ q => by cases q)
  exact ⟨T, locs, Ls', X, H, hz, hF, by rw [← hl, e2.1, hL.1]; simp [st2, st1_len], e2, okS_tail hS, fun target hr => XS.istore X.here hc.1 rfl (hb hc.2.1 hd) rfl e1 hr⟩
theorem Go.astoreN {k : Fin 4} {x : Nat} (hd : decode bytes pc = .ok (.astore_n k, 1)) (hp : pc + 1 = pc2) (hk : k.val < L.length) (hL2 : st1 L k.val (vR x) = L2) (h : Go l Z D n0 P y bytes maxL ret R pc2 L2 S os sz cu su Q) : Go l Z D n0 P y bytes maxL ret R pc L (vR x :: S) os sz cu su Q := by
  subst hp hL2
  refine Go.step h fun p e s m args below meth c hc T locs X H hz hF Ls hl hL hS => ?_
  obtain ⟨Ls', e1, e2⟩ := st1_ok hL hk (okS_head hS) (fun _ q => by cases q)
  exact ⟨T, locs, Ls', X, H, hz, hF, by rw [← hl, e2.1, hL.1]; simp [st2, st1_len], e2, okS_tail hS, fun target hr => XS.astoreN X.here hc.1 rfl (hb hc.2.1 hd) rfl rfl e1 hr⟩
theorem Go.astore {k : Nat} {x : Nat} (hd : decode bytes pc = .ok (.astore k, 2)) (hp : pc + 2 = pc2) (hk : k < L.length) (hL2 : st1 L k (vR x) = L2) (h : Go l Z D n0 P y bytes maxL ret R pc2 L2 S os sz cu su Q) : Go l Z D n0 P y bytes maxL ret R pc L (vR x :: S) os sz cu su Q := by
  subst hp hL2
  refine Go.step h fun p e s m args below meth c hc T locs X H hz hF Ls hl hL hS => ?_
  obtain ⟨Ls', e1, e2⟩ := st1_ok hL hk (okS_head hS) (fun _ q => by cases q)
  exact ⟨T, locs, Ls', X, H, hz, hF, by rw [← hl, e2.1, hL.1]; simp [st2, st1_len], e2, okS_tail hS, fun target hr => XS.astore X.here hc.1 rfl (hb hc.2.1 hd) rfl rfl e1 hr⟩
theorem Go.lstoreN {k : Fin 4} {x : Int} (hd : decode bytes pc = .ok (.lstore_n k, 1)) (hp : pc + 1 = pc2) (hk : k.val + 1 < L.length) (hL2 : st2 L k.val x = L2) (h : Go l Z D n0 P y bytes maxL ret R pc2 L2 S os sz cu su Q) : Go l Z D n0 P y bytes maxL ret R pc L (vJ x :: S) os sz cu su Q := by
  subst hp hL2
  refine Go.step h fun p e s m args below meth c hc T locs X H hz hF Ls hl hL hS => ?_
  obtain ⟨Ls', e1, e2⟩ := st2_ok hL hk (okS_head hS)
  exact ⟨T, locs, Ls', X, H, hz, hF, by rw [← hl, e2.1, hL.1]; simp [st2, st1_len], e2, okS_tail hS, fun target hr => XT.lstoreN X.here hc.1 rfl (hb hc.2.1 hd) rfl e1 hr⟩
theorem Go.lstore {k : Nat} {x : Int} (hd : decode bytes pc = .ok (.lstore k, 2)) (hp : pc + 2 = pc2) (hk : k + 1 < L.length) (hL2 : st2 L k x = L2) (h : Go l Z D n0 P y bytes maxL ret R pc2 L2 S os sz cu su Q) : Go l Z D n0 P y bytes maxL ret R pc L (vJ x :: S) os sz cu su Q := by
  subst hp hL2
  refine Go.step h fun p e s m args below meth c hc T locs X H hz hF Ls hl hL hS => ?_
  obtain ⟨Ls', e1, e2⟩ := st2_ok hL hk (okS_head hS)
  exact ⟨T, locs, Ls', X, H, hz, hF, by rw [← hl, e2.1, hL.1]; simp [st2, st1_len], e2, okS_tail hS, fun target hr => XT.lstore X.here hc.1 rfl (hb hc.2.1 hd) rfl e1 hr⟩
theorem Go.iconst {i : Int} (hd : decode bytes pc = .ok (.iconst i, 1)) (hp : pc + 1 = pc2) (hi : R32 i) (h : Go l Z D n0 P y bytes maxL ret R pc2 L (vI i :: S) os sz cu su Q) : Go l Z D n0 P y bytes maxL ret R pc L S os sz cu su Q := by
  subst hp
  refine Go.pure h (fun Ls hL hS => okS_cons hi hS) (fun p e s m args below meth c hc T locs X H Ls hl hL hS target hr => ?_)
  exact XS.iconst X.here hc.1 rfl (hb hc.2.1 hd) hr
theorem Go.bipush {i : Int} (hd : decode bytes pc = .ok (.bipush i, 2)) (hp : pc + 2 = pc2) (hi : (Int8.ofInt i).toInt32 = Int32.ofInt i ∧ R32 i) (h : Go l Z D n0 P y bytes maxL ret R pc2 L (vI i :: S) os sz cu su Q) : Go l Z D n0 P y bytes maxL ret R pc L S os sz cu su Q := by
  subst hp
  refine Go.pure h (fun Ls hL hS => okS_cons hi.2 hS) (fun p e s m args below meth c hc T locs X H Ls hl hL hS target hr => ?_)
  exact XS.bipush X.here hc.1 rfl (hb hc.2.1 hd) (by rw [hi.1]; exact hr)
theorem Go.sipush {i : Int} (hd : decode bytes pc = .ok (.sipush i, 3)) (hp : pc + 3 = pc2) (hi : (Int16.ofInt i).toInt32 = Int32.ofInt i ∧ R32 i) (h : Go l Z D n0 P y bytes maxL ret R pc2 L (vI i :: S) os sz cu su Q) : Go l Z D n0 P y bytes maxL ret R pc L S os sz cu su Q := by
  subst hp
  refine Go.pure h (fun Ls hL hS => okS_cons hi.2 hS) (fun p e s m args below meth c hc T locs X H Ls hl hL hS target hr => ?_)
  exact XS.sipush X.here hc.1 rfl (hb hc.2.1 hd) (by rw [hi.1]; exact hr)
theorem Go.lconst {k : Fin 2} {i : Int} (hd : decode bytes pc = .ok (.lconst k, 1)) (hp : pc + 1 = pc2) (hi : Int64.ofNat k.val = Int64.ofInt i ∧ R64 i) (h : Go l Z D n0 P y bytes maxL ret R pc2 L (vJ i :: S) os sz cu su Q) : Go l Z D n0 P y bytes maxL ret R pc L S os sz cu su Q := by
  subst hp
  refine Go.pure h (fun Ls hL hS => okS_cons hi.2 hS) (fun p e s m args below meth c hc T locs X H Ls hl hL hS target hr => ?_)
  exact XT.lconst X.here hc.1 rfl (hb hc.2.1 hd) (by rw [hi.1]; exact hr)
theorem Go.ldc {k : Nat} {w : Int32} {i : Int} (hd : decode bytes pc = .ok (.ldc k, 2)) (hp : pc + 2 = pc2) {own : String} (ho : y.cls = own) (wc : (Cond.constant own k w).before a0 Z = true) (hi : w = Int32.ofInt i ∧ R32 i) (h : Go l Z D n0 P y bytes maxL ret R pc2 L (vI i :: S) os sz cu su Q) : Go l Z D n0 P y bytes maxL ret R pc L S os sz cu su Q := by
  subst hp
  refine Go.pure h (fun Ls hL hS => okS_cons hi.2 hS) (fun p e s m args below meth c hc T locs X H Ls hl hL hS target hr => ?_)
  subst ho
  exact X.ldcI hc.1 hc.2.2.2.2.1 (mv hc.2.2.2.2.2.2.1 wc) rfl (hb hc.2.1 hd) (by rw [hi.1]; exact hr)
theorem Go.ldc2 {k : Nat} {w : Int64} {i : Int} (hd : decode bytes pc = .ok (.ldc2_w k, 3)) (hp : pc + 3 = pc2) {own : String} (ho : y.cls = own) (wc : (Cond.constantLong own k w).before a0 Z = true) (hi : w = Int64.ofInt i ∧ R64 i) (h : Go l Z D n0 P y bytes maxL ret R pc2 L (vJ i :: S) os sz cu su Q) : Go l Z D n0 P y bytes maxL ret R pc L S os sz cu su Q := by
  subst hp
  refine Go.pure h (fun Ls hL hS => okS_cons hi.2 hS) (fun p e s m args below meth c hc T locs X H Ls hl hL hS target hr => ?_)
  subst ho
  exact X.ldc2J hc.1 hc.2.2.2.2.1 (mv hc.2.2.2.2.2.2.1 wc) rfl (hb hc.2.1 hd) (by rw [hi.1]; exact hr)
theorem Go.iadd {x y' : Int} (hd : decode bytes pc = .ok (.iadd, 1)) (hp : pc + 1 = pc2) (h : Go l Z D n0 P y bytes maxL ret R pc2 L (vI (w32 (x + y')) :: S) os sz cu su Q) : Go l Z D n0 P y bytes maxL ret R pc L (vI y' :: vI x :: S) os sz cu su Q := by
  subst hp
  refine Go.pure h (fun Ls hL hS => okS_cons (rw32 _) (okS_tail (okS_tail hS))) (fun p e s m args below meth c hc T locs X H Ls hl hL hS target hr => ?_)
  exact XS.iadd X.here hc.1 rfl (hb hc.2.1 hd) rfl (by rw [add32o]; exact hr)
theorem Go.isub {x y' : Int} (hd : decode bytes pc = .ok (.isub, 1)) (hp : pc + 1 = pc2) (h : Go l Z D n0 P y bytes maxL ret R pc2 L (vI (w32 (x - y')) :: S) os sz cu su Q) : Go l Z D n0 P y bytes maxL ret R pc L (vI y' :: vI x :: S) os sz cu su Q := by
  subst hp
  refine Go.pure h (fun Ls hL hS => okS_cons (rw32 _) (okS_tail (okS_tail hS))) (fun p e s m args below meth c hc T locs X H Ls hl hL hS target hr => ?_)
  exact XS.isub X.here hc.1 rfl (hb hc.2.1 hd) rfl (by rw [sub32o]; exact hr)
theorem Go.imul {x y' : Int} (hd : decode bytes pc = .ok (.imul, 1)) (hp : pc + 1 = pc2) (h : Go l Z D n0 P y bytes maxL ret R pc2 L (vI (w32 (x * y')) :: S) os sz cu su Q) : Go l Z D n0 P y bytes maxL ret R pc L (vI y' :: vI x :: S) os sz cu su Q := by
  subst hp
  refine Go.pure h (fun Ls hL hS => okS_cons (rw32 _) (okS_tail (okS_tail hS))) (fun p e s m args below meth c hc T locs X H Ls hl hL hS target hr => ?_)
  exact XS.imul X.here hc.1 rfl (hb hc.2.1 hd) rfl (by rw [mul32o]; exact hr)
theorem Go.iand {x y' : Int} (hd : decode bytes pc = .ok (.iand, 1)) (hp : pc + 1 = pc2) (h : Go l Z D n0 P y bytes maxL ret R pc2 L (vI (and32 x y') :: S) os sz cu su Q) : Go l Z D n0 P y bytes maxL ret R pc L (vI y' :: vI x :: S) os sz cu su Q := by
  subst hp
  refine Go.pure h (fun Ls hL hS => okS_cons (r32t _) (okS_tail (okS_tail hS))) (fun p e s m args below meth c hc T locs X H Ls hl hL hS target hr => ?_)
  exact XS.iand X.here hc.1 rfl (hb hc.2.1 hd) rfl (by rw [← of32 (Int32.ofInt x &&& Int32.ofInt y')]; exact hr)
theorem Go.ior {x y' : Int} (hd : decode bytes pc = .ok (.ior, 1)) (hp : pc + 1 = pc2) (h : Go l Z D n0 P y bytes maxL ret R pc2 L (vI (or32 x y') :: S) os sz cu su Q) : Go l Z D n0 P y bytes maxL ret R pc L (vI y' :: vI x :: S) os sz cu su Q := by
  subst hp
  refine Go.pure h (fun Ls hL hS => okS_cons (r32t _) (okS_tail (okS_tail hS))) (fun p e s m args below meth c hc T locs X H Ls hl hL hS target hr => ?_)
  exact XT.ior X.here hc.1 rfl (hb hc.2.1 hd) rfl (by rw [← of32 (Int32.ofInt x ||| Int32.ofInt y')]; exact hr)
theorem Go.ixor {x y' : Int} (hd : decode bytes pc = .ok (.ixor, 1)) (hp : pc + 1 = pc2) (h : Go l Z D n0 P y bytes maxL ret R pc2 L (vI (xor32 x y') :: S) os sz cu su Q) : Go l Z D n0 P y bytes maxL ret R pc L (vI y' :: vI x :: S) os sz cu su Q := by
  subst hp
  refine Go.pure h (fun Ls hL hS => okS_cons (r32t _) (okS_tail (okS_tail hS))) (fun p e s m args below meth c hc T locs X H Ls hl hL hS target hr => ?_)
  exact XT.ixor X.here hc.1 rfl (hb hc.2.1 hd) rfl (by rw [← of32 (Int32.ofInt x ^^^ Int32.ofInt y')]; exact hr)
theorem Go.ishl {x y' : Int} (hd : decode bytes pc = .ok (.ishl, 1)) (hp : pc + 1 = pc2) (h : Go l Z D n0 P y bytes maxL ret R pc2 L (vI (shl32 x y') :: S) os sz cu su Q) : Go l Z D n0 P y bytes maxL ret R pc L (vI y' :: vI x :: S) os sz cu su Q := by
  subst hp
  refine Go.pure h (fun Ls hL hS => okS_cons (r32t _) (okS_tail (okS_tail hS))) (fun p e s m args below meth c hc T locs X H Ls hl hL hS target hr => ?_)
  exact XT.ishl X.here hc.1 rfl (hb hc.2.1 hd) rfl (by rw [← of32 (Int32.ofInt x <<< (Int32.ofInt y' &&& 31))]; exact hr)
theorem Go.ishr {x y' : Int} (hd : decode bytes pc = .ok (.ishr, 1)) (hp : pc + 1 = pc2) (h : Go l Z D n0 P y bytes maxL ret R pc2 L (vI (shr32 x y') :: S) os sz cu su Q) : Go l Z D n0 P y bytes maxL ret R pc L (vI y' :: vI x :: S) os sz cu su Q := by
  subst hp
  refine Go.pure h (fun Ls hL hS => okS_cons (r32t _) (okS_tail (okS_tail hS))) (fun p e s m args below meth c hc T locs X H Ls hl hL hS target hr => ?_)
  exact XT.ishr X.here hc.1 rfl (hb hc.2.1 hd) rfl (by rw [← of32 (Int32.ofInt x >>> (Int32.ofInt y' &&& 31))]; exact hr)
theorem Go.iushr {x y' : Int} (hd : decode bytes pc = .ok (.iushr, 1)) (hp : pc + 1 = pc2) (h : Go l Z D n0 P y bytes maxL ret R pc2 L (vI (ushr32 x y') :: S) os sz cu su Q) : Go l Z D n0 P y bytes maxL ret R pc L (vI y' :: vI x :: S) os sz cu su Q := by
  subst hp
  refine Go.pure h (fun Ls hL hS => okS_cons (r32t _) (okS_tail (okS_tail hS))) (fun p e s m args below meth c hc T locs X H Ls hl hL hS target hr => ?_)
  exact XT.iushr X.here hc.1 rfl (hb hc.2.1 hd) rfl (by rw [← of32 (XT.ushr (Int32.ofInt x) (Int32.ofInt y'))]; exact hr)
theorem Go.ladd {x y' : Int} (hd : decode bytes pc = .ok (.ladd, 1)) (hp : pc + 1 = pc2) (h : Go l Z D n0 P y bytes maxL ret R pc2 L (vJ (w64 (x + y')) :: S) os sz cu su Q) : Go l Z D n0 P y bytes maxL ret R pc L (vJ y' :: vJ x :: S) os sz cu su Q := by
  subst hp
  refine Go.pure h (fun Ls hL hS => okS_cons (rw64 _) (okS_tail (okS_tail hS))) (fun p e s m args below meth c hc T locs X H Ls hl hL hS target hr => ?_)
  exact XT.ladd X.here hc.1 rfl (hb hc.2.1 hd) rfl (by rw [add64o]; exact hr)
theorem Go.lsub {x y' : Int} (hd : decode bytes pc = .ok (.lsub, 1)) (hp : pc + 1 = pc2) (h : Go l Z D n0 P y bytes maxL ret R pc2 L (vJ (w64 (x - y')) :: S) os sz cu su Q) : Go l Z D n0 P y bytes maxL ret R pc L (vJ y' :: vJ x :: S) os sz cu su Q := by
  subst hp
  refine Go.pure h (fun Ls hL hS => okS_cons (rw64 _) (okS_tail (okS_tail hS))) (fun p e s m args below meth c hc T locs X H Ls hl hL hS target hr => ?_)
  exact XT.lsub X.here hc.1 rfl (hb hc.2.1 hd) rfl (by rw [sub64o]; exact hr)
theorem Go.lmul {x y' : Int} (hd : decode bytes pc = .ok (.lmul, 1)) (hp : pc + 1 = pc2) (h : Go l Z D n0 P y bytes maxL ret R pc2 L (vJ (w64 (x * y')) :: S) os sz cu su Q) : Go l Z D n0 P y bytes maxL ret R pc L (vJ y' :: vJ x :: S) os sz cu su Q := by
  subst hp
  refine Go.pure h (fun Ls hL hS => okS_cons (rw64 _) (okS_tail (okS_tail hS))) (fun p e s m args below meth c hc T locs X H Ls hl hL hS target hr => ?_)
  exact XT.lmul X.here hc.1 rfl (hb hc.2.1 hd) rfl (by rw [mul64o]; exact hr)
theorem Go.land {x y' : Int} (hd : decode bytes pc = .ok (.land, 1)) (hp : pc + 1 = pc2) (h : Go l Z D n0 P y bytes maxL ret R pc2 L (vJ (and64 x y') :: S) os sz cu su Q) : Go l Z D n0 P y bytes maxL ret R pc L (vJ y' :: vJ x :: S) os sz cu su Q := by
  subst hp
  refine Go.pure h (fun Ls hL hS => okS_cons (r64t _) (okS_tail (okS_tail hS))) (fun p e s m args below meth c hc T locs X H Ls hl hL hS target hr => ?_)
  exact XT.land X.here hc.1 rfl (hb hc.2.1 hd) rfl (by rw [← of64 (Int64.ofInt x &&& Int64.ofInt y')]; exact hr)
theorem Go.lor {x y' : Int} (hd : decode bytes pc = .ok (.lor, 1)) (hp : pc + 1 = pc2) (h : Go l Z D n0 P y bytes maxL ret R pc2 L (vJ (or64 x y') :: S) os sz cu su Q) : Go l Z D n0 P y bytes maxL ret R pc L (vJ y' :: vJ x :: S) os sz cu su Q := by
  subst hp
  refine Go.pure h (fun Ls hL hS => okS_cons (r64t _) (okS_tail (okS_tail hS))) (fun p e s m args below meth c hc T locs X H Ls hl hL hS target hr => ?_)
  exact XT.lor X.here hc.1 rfl (hb hc.2.1 hd) rfl (by rw [← of64 (Int64.ofInt x ||| Int64.ofInt y')]; exact hr)
theorem Go.lxor {x y' : Int} (hd : decode bytes pc = .ok (.lxor, 1)) (hp : pc + 1 = pc2) (h : Go l Z D n0 P y bytes maxL ret R pc2 L (vJ (xor64 x y') :: S) os sz cu su Q) : Go l Z D n0 P y bytes maxL ret R pc L (vJ y' :: vJ x :: S) os sz cu su Q := by
  subst hp
  refine Go.pure h (fun Ls hL hS => okS_cons (r64t _) (okS_tail (okS_tail hS))) (fun p e s m args below meth c hc T locs X H Ls hl hL hS target hr => ?_)
  exact XT.lxor X.here hc.1 rfl (hb hc.2.1 hd) rfl (by rw [← of64 (Int64.ofInt x ^^^ Int64.ofInt y')]; exact hr)
theorem Go.idiv {x y' : Int} (hd : decode bytes pc = .ok (.idiv, 1)) (hp : pc + 1 = pc2) (hy : y' ≠ 0) (h : Go l Z D n0 P y bytes maxL ret R pc2 L (vI (w32 (x.tdiv y')) :: S) os sz cu su Q) : Go l Z D n0 P y bytes maxL ret R pc L (vI y' :: vI x :: S) os sz cu su Q := by
  subst hp
  refine Go.pure h (fun Ls hL hS => okS_cons (rw32 _) (okS_tail (okS_tail hS))) (fun p e s m args below meth c hc T locs X H Ls hl hL hS target hr => ?_)
  exact XS.idiv X.here hc.1 rfl (hb hc.2.1 hd) rfl (fun q => hy ((eq32 (okS_head hS) (by decide)).mp (q.trans rfl))) (by rw [div32o (okS_head (okS_tail hS)) (okS_head hS)]; exact hr)
theorem Go.irem {x y' : Int} (hd : decode bytes pc = .ok (.irem, 1)) (hp : pc + 1 = pc2) (hy : y' ≠ 0) (h : Go l Z D n0 P y bytes maxL ret R pc2 L (vI (w32 (x.tmod y')) :: S) os sz cu su Q) : Go l Z D n0 P y bytes maxL ret R pc L (vI y' :: vI x :: S) os sz cu su Q := by
  subst hp
  refine Go.pure h (fun Ls hL hS => okS_cons (rw32 _) (okS_tail (okS_tail hS))) (fun p e s m args below meth c hc T locs X H Ls hl hL hS target hr => ?_)
  exact XS.irem X.here hc.1 rfl (hb hc.2.1 hd) rfl (fun q => hy ((eq32 (okS_head hS) (by decide)).mp (q.trans rfl))) (by rw [rem32o (okS_head (okS_tail hS)) (okS_head hS)]; exact hr)
theorem Go.ldiv {x y' : Int} (hd : decode bytes pc = .ok (.ldiv, 1)) (hp : pc + 1 = pc2) (hy : y' ≠ 0) (h : Go l Z D n0 P y bytes maxL ret R pc2 L (vJ (w64 (x.tdiv y')) :: S) os sz cu su Q) : Go l Z D n0 P y bytes maxL ret R pc L (vJ y' :: vJ x :: S) os sz cu su Q := by
  subst hp
  refine Go.pure h (fun Ls hL hS => okS_cons (rw64 _) (okS_tail (okS_tail hS))) (fun p e s m args below meth c hc T locs X H Ls hl hL hS target hr => ?_)
  exact XT.ldiv X.here hc.1 rfl (hb hc.2.1 hd) rfl (fun q => hy ((eq64 (okS_head hS) (by decide)).mp (q.trans rfl))) (by rw [div64o (okS_head (okS_tail hS)) (okS_head hS)]; exact hr)
theorem Go.lrem {x y' : Int} (hd : decode bytes pc = .ok (.lrem, 1)) (hp : pc + 1 = pc2) (hy : y' ≠ 0) (h : Go l Z D n0 P y bytes maxL ret R pc2 L (vJ (w64 (x.tmod y')) :: S) os sz cu su Q) : Go l Z D n0 P y bytes maxL ret R pc L (vJ y' :: vJ x :: S) os sz cu su Q := by
  subst hp
  refine Go.pure h (fun Ls hL hS => okS_cons (rw64 _) (okS_tail (okS_tail hS))) (fun p e s m args below meth c hc T locs X H Ls hl hL hS target hr => ?_)
  exact XT.lrem X.here hc.1 rfl (hb hc.2.1 hd) rfl (fun q => hy ((eq64 (okS_head hS) (by decide)).mp (q.trans rfl))) (by rw [rem64o (okS_head (okS_tail hS)) (okS_head hS)]; exact hr)
theorem Go.lshl {x y' : Int} (hd : decode bytes pc = .ok (.lshl, 1)) (hp : pc + 1 = pc2) (h : Go l Z D n0 P y bytes maxL ret R pc2 L (vJ (shl64 x y') :: S) os sz cu su Q) : Go l Z D n0 P y bytes maxL ret R pc L (vI y' :: vJ x :: S) os sz cu su Q := by
  subst hp
  refine Go.pure h (fun Ls hL hS => okS_cons (r64t _) (okS_tail (okS_tail hS))) (fun p e s m args below meth c hc T locs X H Ls hl hL hS target hr => ?_)
  exact XT.lshl X.here hc.1 rfl (hb hc.2.1 hd) rfl (by rw [← of64 (Int64.ofInt x <<< ((Int32.ofInt y').toInt64 &&& 63))]; exact hr)
theorem Go.lshr {x y' : Int} (hd : decode bytes pc = .ok (.lshr, 1)) (hp : pc + 1 = pc2) (h : Go l Z D n0 P y bytes maxL ret R pc2 L (vJ (shr64 x y') :: S) os sz cu su Q) : Go l Z D n0 P y bytes maxL ret R pc L (vI y' :: vJ x :: S) os sz cu su Q := by
  subst hp
  refine Go.pure h (fun Ls hL hS => okS_cons (r64t _) (okS_tail (okS_tail hS))) (fun p e s m args below meth c hc T locs X H Ls hl hL hS target hr => ?_)
  exact XT.lshr X.here hc.1 rfl (hb hc.2.1 hd) rfl (by rw [← of64 (Int64.ofInt x >>> ((Int32.ofInt y').toInt64 &&& 63))]; exact hr)
theorem Go.lushr {x y' : Int} (hd : decode bytes pc = .ok (.lushr, 1)) (hp : pc + 1 = pc2) (h : Go l Z D n0 P y bytes maxL ret R pc2 L (vJ (ushr64 x y') :: S) os sz cu su Q) : Go l Z D n0 P y bytes maxL ret R pc L (vI y' :: vJ x :: S) os sz cu su Q := by
  subst hp
  refine Go.pure h (fun Ls hL hS => okS_cons (r64t _) (okS_tail (okS_tail hS))) (fun p e s m args below meth c hc T locs X H Ls hl hL hS target hr => ?_)
  exact XT.lushr X.here hc.1 rfl (hb hc.2.1 hd) rfl (by rw [← of64 (XT.ushrL (Int64.ofInt x) (Int32.ofInt y'))]; exact hr)
theorem Go.ineg {x : Int} (hd : decode bytes pc = .ok (.ineg, 1)) (hp : pc + 1 = pc2) (h : Go l Z D n0 P y bytes maxL ret R pc2 L (vI (w32 (-x)) :: S) os sz cu su Q) : Go l Z D n0 P y bytes maxL ret R pc L (vI x :: S) os sz cu su Q := by
  subst hp
  refine Go.pure h (fun Ls hL hS => okS_cons (rw32 _) (okS_tail hS)) (fun p e s m args below meth c hc T locs X H Ls hl hL hS target hr => ?_)
  exact XS.ineg X.here hc.1 rfl (hb hc.2.1 hd) rfl (by rw [neg32o]; exact hr)
theorem Go.lneg {x : Int} (hd : decode bytes pc = .ok (.lneg, 1)) (hp : pc + 1 = pc2) (h : Go l Z D n0 P y bytes maxL ret R pc2 L (vJ (w64 (-x)) :: S) os sz cu su Q) : Go l Z D n0 P y bytes maxL ret R pc L (vJ x :: S) os sz cu su Q := by
  subst hp
  refine Go.pure h (fun Ls hL hS => okS_cons (rw64 _) (okS_tail hS)) (fun p e s m args below meth c hc T locs X H Ls hl hL hS target hr => ?_)
  exact XT.lneg X.here hc.1 rfl (hb hc.2.1 hd) rfl (by rw [neg64o]; exact hr)
theorem Go.i2l {x : Int} (hd : decode bytes pc = .ok (.i2l, 1)) (hp : pc + 1 = pc2) (h : Go l Z D n0 P y bytes maxL ret R pc2 L (vJ x :: S) os sz cu su Q) : Go l Z D n0 P y bytes maxL ret R pc L (vI x :: S) os sz cu su Q := by
  subst hp
  refine Go.pure h (fun Ls hL hS => okS_cons (show R64 x from ⟨by have := (okS_head hS).1; omega, by have := (okS_head hS).2; omega⟩) (okS_tail hS)) (fun p e s m args below meth c hc T locs X H Ls hl hL hS target hr => ?_)
  exact XT.i2l X.here hc.1 rfl (hb hc.2.1 hd) rfl (by rw [i2l_o (okS_head hS)]; exact hr)
theorem Go.l2i {x : Int} (hd : decode bytes pc = .ok (.l2i, 1)) (hp : pc + 1 = pc2) (h : Go l Z D n0 P y bytes maxL ret R pc2 L (vI (w32 x) :: S) os sz cu su Q) : Go l Z D n0 P y bytes maxL ret R pc L (vJ x :: S) os sz cu su Q := by
  subst hp
  refine Go.pure h (fun Ls hL hS => okS_cons (rw32 _) (okS_tail hS)) (fun p e s m args below meth c hc T locs X H Ls hl hL hS target hr => ?_)
  exact XT.l2i X.here hc.1 rfl (hb hc.2.1 hd) rfl (by rw [l2i_o]; exact hr)
theorem Go.i2b {x : Int} (hd : decode bytes pc = .ok (.i2b, 1)) (hp : pc + 1 = pc2) (h : Go l Z D n0 P y bytes maxL ret R pc2 L (vI (w8 x) :: S) os sz cu su Q) : Go l Z D n0 P y bytes maxL ret R pc L (vI x :: S) os sz cu su Q := by
  subst hp
  refine Go.pure h (fun Ls hL hS => okS_cons (show R32 (w8 x) from ⟨by have := r8 x; omega, by have := r8 x; omega⟩) (okS_tail hS)) (fun p e s m args below meth c hc T locs X H Ls hl hL hS target hr => ?_)
  exact XT.i2b X.here hc.1 rfl (hb hc.2.1 hd) rfl (by rw [i2b_o]; exact hr)
theorem Go.dup {u : V} (hd : decode bytes pc = .ok (.dup, 1)) (hp : pc + 1 = pc2) (hu : (rv u).category = 1) (h : Go l Z D n0 P y bytes maxL ret R pc2 L (u :: u :: S) os sz cu su Q) : Go l Z D n0 P y bytes maxL ret R pc L (u :: S) os sz cu su Q := by
  subst hp
  refine Go.pure h (fun Ls hL hS => okS_cons (okS_head hS) hS) (fun p e s m args below meth c hc T locs X H Ls hl hL hS target hr => ?_)
  exact XS.dup X.here hc.1 rfl (hb hc.2.1 hd) rfl hu hr
theorem Go.pop {u : V} (hd : decode bytes pc = .ok (.pop, 1)) (hp : pc + 1 = pc2) (hu : (rv u).category = 1) (h : Go l Z D n0 P y bytes maxL ret R pc2 L S os sz cu su Q) : Go l Z D n0 P y bytes maxL ret R pc L (u :: S) os sz cu su Q := by
  subst hp
  refine Go.pure h (fun Ls hL hS => okS_tail hS) (fun p e s m args below meth c hc T locs X H Ls hl hL hS target hr => ?_)
  exact XT.pop X.here hc.1 rfl (hb hc.2.1 hd) rfl hu hr
theorem Go.dup2 {u w : V} (hd : decode bytes pc = .ok (.dup2, 1)) (hp : pc + 1 = pc2) (hu : (rv u).category = 1) (hw : (rv w).category = 1) (h : Go l Z D n0 P y bytes maxL ret R pc2 L (u :: w :: u :: w :: S) os sz cu su Q) : Go l Z D n0 P y bytes maxL ret R pc L (u :: w :: S) os sz cu su Q := by
  subst hp
  refine Go.pure h (fun Ls hL hS => okS_cons (okS_head hS) (okS_cons (okS_head (okS_tail hS)) hS)) (fun p e s m args below meth c hc T locs X H Ls hl hL hS target hr => ?_)
  exact XT.dup2 X.here hc.1 rfl (hb hc.2.1 hd) rfl hu hw hr
theorem Go.iinc {k : Nat} {i x : Int} (hd : decode bytes pc = .ok (.iinc k i, 3)) (hp : pc + 3 = pc2) (hx : L[k]? = some (some (vI x))) (hL2 : st1 L k (vI (w32 (x + i))) = L2) (h : Go l Z D n0 P y bytes maxL ret R pc2 L2 S os sz cu su Q) : Go l Z D n0 P y bytes maxL ret R pc L S os sz cu su Q := by
  subst hp hL2
  refine Go.step h fun p e s m args below meth c hc T locs X H hz hF Ls hl hL hS => ?_
  obtain ⟨Ls', e1, e2⟩ := st1_ok (u := vI (w32 (x + i))) hL (List.getElem?_eq_some_iff.mp hx).1 (rw32 _) (fun _ q => by cases q)
  exact ⟨T, locs, Ls', X, H, hz, hF, by rw [← hl, e2.1, hL.1]; simp [st1_len], e2, hS, fun target hr => XS.iinc X.here hc.1 rfl (hb hc.2.1 hd) (hL.2.2 _ _ hx).1 (by rw [add32o]; exact e1) hr⟩
def cmp : ClassFile.Cond → Int → Int → Prop
  | .eq, x, y => x = y
  | .ne, x, y => ¬ x = y
  | .lt, x, y => x < y
  | .ge, x, y => y ≤ x
  | .gt, x, y => y < x
  | .le, x, y => x ≤ y
theorem cmp_icmp {cd : ClassFile.Cond} {x y : Int} (hx : R32 x) (hy : R32 y) : if_icmp.holds cd (Int32.ofInt x) (Int32.ofInt y) = true ↔ cmp cd x y := by
  cases cd <;> simp [if_icmp.holds, cmp, eq32 hx hy, lt32 hx hy, lt32 hy hx, Int32.le_iff_toInt_le, ti32 hx, ti32 hy]
theorem cmp_if {cd : ClassFile.Cond} {x : Int} (hx : R32 x) : ifCond.holds cd (Int32.ofInt x) = true ↔ cmp cd x 0 := by
  have h0 : R32 0 := by decide
  have e0 : (0 : Int32) = Int32.ofInt 0 := rfl
  have e1 : (Int32.ofInt 0).toInt = 0 := rfl
  cases cd <;> simp only [ifCond.holds, cmp, e0, beq_iff_eq, bne_iff_ne, ne_eq, decide_eq_true_eq, gt_iff_lt, ge_iff_le, eq32 hx h0, lt32 hx h0, lt32 h0 hx, Int32.le_iff_toInt_le, ti32 hx, e1]
theorem cmp_l {cd : ClassFile.Cond} {x y : Int} (hx : R64 x) (hy : R64 y) : ifCond.holds cd (XT.cmpL (Int64.ofInt x) (Int64.ofInt y)) = true ↔ cmp cd x y := by
  have key : XT.cmpL (Int64.ofInt x) (Int64.ofInt y) = if y < x then 1 else if x = y then 0 else -1 := by
    unfold XT.cmpL; simp only [lt64 hy hx, eq64 hx hy]
  rw [key]
  by_cases a : y < x
  · rw [if_pos a]; cases cd <;> simp [ifCond.holds, cmp] <;> omega
  · rw [if_neg a]
    by_cases b : x = y
    · rw [if_pos b]; cases cd <;> simp [ifCond.holds, cmp] <;> omega
    · rw [if_neg b]; cases cd <;> simp [ifCond.holds, cmp] <;> omega
theorem Go.icmpT {cd : ClassFile.Cond} {o x y' : Int} (hd : decode bytes pc = .ok (.if_icmp cd o, 3)) (hc' : cmp cd x y') (ho : 0 ≤ (pc : Int) + o) (hp : ((pc : Int) + o).toNat = pc2) (h : Go l Z D n0 P y bytes maxL ret R pc2 L S os sz cu su Q) : Go l Z D n0 P y bytes maxL ret R pc L (vI y' :: vI x :: S) os sz cu su Q :=
  Go.pure h (fun Ls hL hS => okS_tail (okS_tail hS)) fun p e s m args below meth c hc T locs X H Ls hl hL hS target hr => XS.icmpYes X.here hc.1 rfl rfl (hb hc.2.1 hd) rfl ((cmp_icmp (okS_head (okS_tail hS)) (okS_head hS)).mpr hc') ho hp hr
theorem Go.icmpF {cd : ClassFile.Cond} {o x y' : Int} (hd : decode bytes pc = .ok (.if_icmp cd o, 3)) (hc' : ¬ cmp cd x y') (hp : pc + 3 = pc2) (h : Go l Z D n0 P y bytes maxL ret R pc2 L S os sz cu su Q) : Go l Z D n0 P y bytes maxL ret R pc L (vI y' :: vI x :: S) os sz cu su Q := by
  subst hp
  exact Go.pure h (fun Ls hL hS => okS_tail (okS_tail hS)) fun p e s m args below meth c hc T locs X H Ls hl hL hS target hr => XS.icmpNo X.here hc.1 rfl (hb hc.2.1 hd) rfl (Bool.eq_false_iff.mpr fun q => hc' ((cmp_icmp (okS_head (okS_tail hS)) (okS_head hS)).mp q)) hr
theorem Go.ifT {cd : ClassFile.Cond} {o x : Int} (hd : decode bytes pc = .ok (.ifCond cd o, 3)) (hc' : cmp cd x 0) (ho : 0 ≤ (pc : Int) + o) (hp : ((pc : Int) + o).toNat = pc2) (h : Go l Z D n0 P y bytes maxL ret R pc2 L S os sz cu su Q) : Go l Z D n0 P y bytes maxL ret R pc L (vI x :: S) os sz cu su Q :=
  Go.pure h (fun Ls hL hS => okS_tail hS) fun p e s m args below meth c hc T locs X H Ls hl hL hS target hr => XS.ifYes X.here hc.1 rfl rfl (hb hc.2.1 hd) rfl ((cmp_if (okS_head hS)).mpr hc') ho hp hr
theorem Go.ifF {cd : ClassFile.Cond} {o x : Int} (hd : decode bytes pc = .ok (.ifCond cd o, 3)) (hc' : ¬ cmp cd x 0) (hp : pc + 3 = pc2) (h : Go l Z D n0 P y bytes maxL ret R pc2 L S os sz cu su Q) : Go l Z D n0 P y bytes maxL ret R pc L (vI x :: S) os sz cu su Q := by
  subst hp
  exact Go.pure h (fun Ls hL hS => okS_tail hS) fun p e s m args below meth c hc T locs X H Ls hl hL hS target hr => XS.ifNo X.here hc.1 rfl (hb hc.2.1 hd) rfl (Bool.eq_false_iff.mpr fun q => hc' ((cmp_if (okS_head hS)).mp q)) hr
theorem Go.lcmpT {cd : ClassFile.Cond} {o x y' : Int} (hd : decode bytes pc = .ok (.lcmp, 1)) (hd2 : decode bytes pc3 = .ok (.ifCond cd o, 3)) (hp3 : pc + 1 = pc3) (hc' : cmp cd x y') (ho : 0 ≤ (pc3 : Int) + o) (hp : ((pc3 : Int) + o).toNat = pc2) (h : Go l Z D n0 P y bytes maxL ret R pc2 L S os sz cu su Q) : Go l Z D n0 P y bytes maxL ret R pc L (vJ y' :: vJ x :: S) os sz cu su Q := by
  subst hp3
  exact Go.pure h (fun Ls hL hS => okS_tail (okS_tail hS)) fun p e s m args below meth c hc T locs X H Ls hl hL hS target hr => XT.lcmp X.here hc.1 rfl (hb hc.2.1 hd) rfl (XS.ifYes X.here hc.1 rfl (pc0 := pc + 1) rfl (hb hc.2.1 hd2) rfl ((cmp_l (okS_head (okS_tail hS)) (okS_head hS)).mpr hc') ho hp hr)
theorem Go.lcmpF {cd : ClassFile.Cond} {o x y' : Int} (hd : decode bytes pc = .ok (.lcmp, 1)) (hd2 : decode bytes pc3 = .ok (.ifCond cd o, 3)) (hp3 : pc + 1 = pc3) (hc' : ¬ cmp cd x y') (hp : pc3 + 3 = pc2) (h : Go l Z D n0 P y bytes maxL ret R pc2 L S os sz cu su Q) : Go l Z D n0 P y bytes maxL ret R pc L (vJ y' :: vJ x :: S) os sz cu su Q := by
  subst hp3 hp
  exact Go.pure h (fun Ls hL hS => okS_tail (okS_tail hS)) fun p e s m args below meth c hc T locs X H Ls hl hL hS target hr => XT.lcmp X.here hc.1 rfl (hb hc.2.1 hd) rfl (XS.ifNo X.here hc.1 rfl (hb hc.2.1 hd2) rfl (Bool.eq_false_iff.mpr fun q => hc' ((cmp_l (okS_head (okS_tail hS)) (okS_head hS)).mp q)) hr)
theorem Go.goto {o : Int} (hd : decode bytes pc = .ok (.goto o, 3)) (ho : 0 ≤ (pc : Int) + o) (hp : ((pc : Int) + o).toNat = pc2) (h : Go l Z D n0 P y bytes maxL ret R pc2 L S os sz cu su Q) : Go l Z D n0 P y bytes maxL ret R pc L S os sz cu su Q :=
  Go.pure h (fun Ls hL hS => hS) fun p e s m args below meth c hc T locs X H Ls hl hL hS target hr => XS.goto X.here hc.1 rfl rfl (hb hc.2.1 hd) ho hp hr
theorem Go.getf {k q b kk i : Nat} {O : Mo} {n d : String} {t : FieldType} {x : Int} (hd : decode bytes pc = .ok (.getfield k, 3)) (hp : pc + 3 = pc2) {own C : String} (ho : y.cls = own) (hC : D.C = C) (w : (Cond.fieldLink own k C n d).before a0 Z = true) (hq : os[q]? = some (b, kk, O)) {u : V} (hf : (i, n, d, t) ∈ D.FS) (hx : O 0 i = x) (hu : tv t x = u)
    (h : Go l Z D n0 P y bytes maxL ret R pc2 L (u :: S) os sz cu su Q) : Go l Z D n0 P y bytes maxL ret R pc L (vR b :: S) os sz cu su Q := by
  subst hp hx hu ho hC
  refine Go.step h fun p e s m args below meth c hc T locs X H hz hF Ls hl hL hS => ?_
  obtain ⟨f1, f2⟩ := (H.2.2.1 _ _ _ _ hq).1.2.1 _ _ _ _ hf
  obtain ⟨T', X', eT, st⟩ := getF X hc.1 hc.2.2.2.2.2.2.1 hc.2.2.2.2.1 (host := "") (Or.inl w) Via.refl rfl f1 (g := mkF m pc Ls (rv (vR b) :: S.map rv)) rfl rfl (hb hc.2.1 hd)
  exact ⟨T', locs, Ls, X', by rw [eT]; exact H, hz, hF, hl, hL, okS_cons (okV_tv f2) (okS_tail hS), fun target hr => st _ (by rw [List.map_cons, rv_tv] at hr; exact hr)⟩
theorem Go.geta {k q b kk j len : Nat} {O : Mo} {n d : String} {t : FieldType} {a : Nat} (hd : decode bytes pc = .ok (.getfield k, 3)) (hp : pc + 3 = pc2) {own C : String} (ho : y.cls = own) (hC : D.C = C) (w : (Cond.fieldLink own k C n d).before a0 Z = true) (hq : os[q]? = some (b, kk, O)) (ha : D.AS[j]? = some (n, d, t, len)) (hj : j < kk) (hx : b + j + 1 = a)
    (h : Go l Z D n0 P y bytes maxL ret R pc2 L (vR a :: S) os sz cu su Q) : Go l Z D n0 P y bytes maxL ret R pc L (vR b :: S) os sz cu su Q := by
  subst hp hx ho hC
  refine Go.step h fun p e s m args below meth c hc T locs X H hz hF Ls hl hL hS => ?_
  have f1 := (H.2.2.1 _ _ _ _ hq).1.2.2.1 _ _ _ _ _ ha
  rw [if_pos hj] at f1
  obtain ⟨T', X', eT, st⟩ := getF X hc.1 hc.2.2.2.2.2.2.1 hc.2.2.2.2.1 (host := "") (Or.inl w) Via.refl rfl f1 (g := mkF m pc Ls (rv (vR b) :: S.map rv)) rfl rfl (hb hc.2.1 hd)
  exact ⟨T', locs, Ls, X', by rw [eT]; exact H, hz, hF, hl, hL, okS_cons trivial (okS_tail hS), fun target hr => st _ hr⟩
theorem Go.putf {k q b kk i kx : Nat} {O : Mo} {n d : String} {t : FieldType} {x x' : Int} (cw : CW Z a0 D) (hd : decode bytes pc = .ok (.putfield k, 3)) (hp : pc + 3 = pc2) {own C : String} (ho : y.cls = own) (hC : D.C = C) (w : (Cond.fieldLink own k C n d).before a0 Z = true) (wl : (Cond.lays C C n d).before a0 Z = true ∨ ((Cond.laysFinal C C n d).before a0 Z = true ∧ own = C ∧ y.name = "<init>")) (wi : (Cond.instantiable C kx).before a0 Z = true) (hq : os[q]? = some (b, kk, O)) {u : V} (hf : (i, n, d, t) ∈ D.FS) (hu : tv t x = u) (hx : norm t x = x') (hos : os.set q (b, kk, upd O 0 i x') = os2)
    (h : Go l Z D n0 P y bytes maxL ret R pc2 L S os2 sz cu su Q) : Go l Z D n0 P y bytes maxL ret R pc L (u :: vR b :: S) os sz cu su Q := by
  subst hp hx hos hu ho hC
  refine Go.step h fun p e s m args below meth c hc T locs X H hz hF Ls hl hL hS => ?_
  have HO := (H.2.2.1 _ _ _ _ hq).1
  obtain ⟨f1, f2⟩ := HO.2.1 _ _ _ _ hf
  obtain ⟨-, p1, t1⟩ := cw.1 _ _ _ _ hf
  obtain ⟨m1, m2, m3⟩ := norm_ok t1 (okS_head hS)
  obtain ⟨T', h', X', eT, W, st⟩ := putFN X hc.1 hc.2.2.2.2.2.2.1 hc.2.2.2.2.1 w Via.refl rfl f1 HO.1 (wl.imp id fun q => ⟨q.1, q.2.1, hc.2.2.2.2.2.1.trans q.2.2⟩) wi p1 m1 m2 (g := mkF m pc Ls (fv t x :: rv (vR b) :: S.map rv)) rfl rfl (hb hc.2.1 hd)
  subst eT
  exact ⟨T', _, Ls, X', H.wr hq (Nat.le_refl _) (Nat.le_add_right _ _) W (HO.putf cw hf W m3), hz, Fr.snoc X' hF (H.2.2.1 _ _ _ _ hq).2.1, hl, hL, okS_tail (okS_tail hS), fun target hr => by rw [List.map_cons, rv_tv]; exact st _ hr⟩
theorem Go.mkarr {k q b kk len kx : Nat} {O : Mo} {n d : String} {aty : ArrayType} {x : Int} (cw : CW Z a0 D) (hd : decode bytes pc = .ok (.newarray aty, 2)) (hd2 : decode bytes pc3 = .ok (.putfield k, 3)) (hp3 : pc + 2 = pc3) (hp : pc3 + 3 = pc2) (wa : (Cond.arrayClass (newarray.typeOf aty)).before a0 Z = true) {own C : String} (ho : y.cls = own) (hC : D.C = C) (w : (Cond.fieldLink own k C n d).before a0 Z = true) (wl : (Cond.lays C C n d).before a0 Z = true ∨ ((Cond.laysFinal C C n d).before a0 Z = true ∧ own = C ∧ y.name = "<init>")) (wi : (Cond.instantiable C kx).before a0 Z = true)
    (hq : os[q]? = some (b, kk, O)) (ha : D.AS[kk]? = some (n, d, newarray.typeOf aty, len)) (hx : x = (len : Int)) (hO : ∀ i, O (kk + 1) i = 0) (hsz : sz = b + kk + 1) (hcu : cu + 1 ≤ R.cells) (hsu : su + len ≤ R.slots) (hos : os.set q (b, kk + 1, O) = os2) (hs2 : sz + 1 = sz2) (hcu2 : cu + 1 = cu2) (hsu2 : su + len = su2)
    (h : Go l Z D n0 P y bytes maxL ret R pc2 L S os2 sz2 cu2 su2 Q) : Go l Z D n0 P y bytes maxL ret R pc L (vI x :: vR b :: S) os sz cu su Q := by
  subst hp hp3 hx hos hs2 hcu2 hsu2 hsz ho hC
  refine Go.step h fun p e s m args below meth c hc T locs X H hz hF Ls hl hL hS => ?_
  have HO := (H.2.2.1 _ _ _ _ hq).1
  obtain ⟨-, p1, t1, lb⟩ := cw.2.1 _ _ _ _ _ ha
  have hr32 : R32 (len : Int) := ⟨by omega, by omega⟩
  have en : (Int32.ofInt (len : Int)).toNatClampNeg = len := by unfold Int32.toNatClampNeg; rw [ti32 hr32]; simp
  obtain ⟨T1, h1, cA, X1, e1, E1, A1, st1'⟩ := newP X hc.1 hc.2.2.2.2.2.2.1 wa rfl (g := mkF m pc Ls (rv (vI (len : Int)) :: rv (vR b) :: S.map rv)) rfl (hb hc.2.1 hd) rfl (by rw [show (0 : Int32) = Int32.ofInt 0 from rfl, lt32 hr32 (by decide)]; omega) (cap := len) (Nat.le_of_eq en) lb hcu hsu
  have hsz1 : T.heap.size = b + kk + 1 := H.1
  rw [hsz1] at A1 st1'
  subst e1
  have H1 := H.ext E1
  have f1 := (HO.ext E1).2.2.1 _ _ _ _ _ ha
  have hs1 : T1.heap.size = b + kk + 1 + 1 := by
    have u1 := X1.heapSize
    have u2 : b + kk + 1 < T1.heap.size := A1.lt
    have u3 : T1.heap.size ≤ s.heap.size + (cu + 1) := u1
    have u4 : b + kk + 1 = s.heap.size + cu := hz
    omega
  obtain ⟨T', h', X', eT, W, st⟩ := putFN X1 hc.1 hc.2.2.2.2.2.2.1 hc.2.2.2.2.1 w Via.refl rfl f1 (HO.ext E1).1 (wl.imp id fun q => ⟨q.1, q.2.1, hc.2.2.2.2.2.1.trans q.2.2⟩) wi p1 (v := .ref (b + kk + 1)) (v' := .ref (b + kk + 1)) rfl rfl (g := mkF m (pc + 2) Ls (.ref (b + kk + 1) :: rv (vR b) :: S.map rv)) rfl rfl (hb hc.2.1 hd2)
  subst eT
  have hlt : kk < D.AS.length := (List.getElem?_eq_some_iff.mp ha).1
  rw [hs1] at H1
  exact ⟨T', _, Ls, X', H1.wr hq (Nat.le_refl _) (Nat.le_add_right _ _) W (HO.mkArr cw ha E1 A1 W hO), by omega, Fr.snoc X' hF (H.2.2.1 _ _ _ _ hq).2.1, hl, hL, okS_tail (okS_tail hS), fun target hr => st1' _ (st _ hr)⟩
theorem idx_ok {x : Int} {len : Nat} (hx : R32 x) (h : 0 ≤ x ∧ x < (len : Int)) : ¬ (Int32.ofInt x < 0 ∨ len ≤ (Int32.ofInt x).toNatClampNeg) ∧ (Int32.ofInt x).toNatClampNeg = x.toNat := by
  have e : (Int32.ofInt x).toNatClampNeg = x.toNat := by unfold Int32.toNatClampNeg; rw [ti32 hx]
  refine ⟨?_, e⟩
  rw [e, show (0 : Int32) = Int32.ofInt 0 from rfl, lt32 hx (by decide)]
  omega
theorem Go.iald {q b kk j len a : Nat} {O : Mo} {n d : String} {x z : Int} (hd : decode bytes pc = .ok (.iaload, 1)) (hp : pc + 1 = pc2) (hq : os[q]? = some (b, kk, O)) (ha : D.AS[j]? = some (n, d, .int, len)) (hj : j < kk) (hadr : b + j + 1 = a) (hx : 0 ≤ x ∧ x < (len : Int)) (hz : O (j + 1) x.toNat = z)
    (h : Go l Z D n0 P y bytes maxL ret R pc2 L (vI z :: S) os sz cu su Q) : Go l Z D n0 P y bytes maxL ret R pc L (vI x :: vR a :: S) os sz cu su Q := by
  subst hp hz hadr
  refine Go.step h fun p e s m args below meth c hc T locs X H hz hF Ls hl hL hS => ?_
  obtain ⟨cl, A, hs, g⟩ := (H.2.2.1 _ _ _ _ hq).1.2.2.2 _ _ _ _ _ ha hj
  obtain ⟨i1, i2⟩ := idx_ok (okS_head hS) hx
  obtain ⟨g1, g2⟩ := g x.toNat (by omega)
  exact ⟨T, locs, Ls, X, H, hz, hF, hl, hL, okS_cons (okV_tv (t := .int) g2) (okS_tail (okS_tail hS)), fun target hr => X.iaload hc.1 A.1 (State.isArrayOf_alike hc.2.2.2.2.2.2.1.alike A.2.1) A.2.2 (by rw [hs]; exact i1) (by rw [i2]; exact g1) (g := mkF m pc Ls (rv (vI x) :: rv (vR (b + j + 1)) :: S.map rv)) rfl rfl (hb hc.2.1 hd) _ hr⟩
theorem Go.lald {q b kk j len a : Nat} {O : Mo} {n d : String} {x z : Int} (hd : decode bytes pc = .ok (.laload, 1)) (hp : pc + 1 = pc2) (hq : os[q]? = some (b, kk, O)) (ha : D.AS[j]? = some (n, d, .long, len)) (hj : j < kk) (hadr : b + j + 1 = a) (hx : 0 ≤ x ∧ x < (len : Int)) (hz : O (j + 1) x.toNat = z)
    (h : Go l Z D n0 P y bytes maxL ret R pc2 L (vJ z :: S) os sz cu su Q) : Go l Z D n0 P y bytes maxL ret R pc L (vI x :: vR a :: S) os sz cu su Q := by
  subst hp hz hadr
  refine Go.step h fun p e s m args below meth c hc T locs X H hz hF Ls hl hL hS => ?_
  obtain ⟨cl, A, hs, g⟩ := (H.2.2.1 _ _ _ _ hq).1.2.2.2 _ _ _ _ _ ha hj
  obtain ⟨i1, i2⟩ := idx_ok (okS_head hS) hx
  obtain ⟨g1, g2⟩ := g x.toNat (by omega)
  exact ⟨T, locs, Ls, X, H, hz, hF, hl, hL, okS_cons (okV_tv (t := .long) g2) (okS_tail (okS_tail hS)), fun target hr => X.laload hc.1 A.1 (State.isArrayOf_alike hc.2.2.2.2.2.2.1.alike A.2.1) A.2.2 (by rw [hs]; exact i1) (by rw [i2]; exact g1) (g := mkF m pc Ls (rv (vI x) :: rv (vR (b + j + 1)) :: S.map rv)) rfl rfl (hb hc.2.1 hd) _ hr⟩
theorem Go.bald {q b kk j len a : Nat} {O : Mo} {n d : String} {x z : Int} (hd : decode bytes pc = .ok (.baload, 1)) (hp : pc + 1 = pc2) (hq : os[q]? = some (b, kk, O)) (ha : D.AS[j]? = some (n, d, .byte, len)) (hj : j < kk) (hadr : b + j + 1 = a) (hx : 0 ≤ x ∧ x < (len : Int)) (hz : O (j + 1) x.toNat = z)
    (h : Go l Z D n0 P y bytes maxL ret R pc2 L (vI z :: S) os sz cu su Q) : Go l Z D n0 P y bytes maxL ret R pc L (vI x :: vR a :: S) os sz cu su Q := by
  subst hp hz hadr
  refine Go.step h fun p e s m args below meth c hc T locs X H hz hF Ls hl hL hS => ?_
  obtain ⟨cl, A, hs, g⟩ := (H.2.2.1 _ _ _ _ hq).1.2.2.2 _ _ _ _ _ ha hj
  obtain ⟨i1, i2⟩ := idx_ok (okS_head hS) hx
  obtain ⟨g1, g2⟩ := g x.toNat (by omega)
  exact ⟨T, locs, Ls, X, H, hz, hF, hl, hL, okS_cons (okV_tv (t := .byte) g2) (okS_tail (okS_tail hS)), fun target hr => X.baloadBytes hc.1 A.1 (State.isArrayOf_alike hc.2.2.2.2.2.2.1.alike A.2.1) A.2.2 (by rw [hs]; exact i1) (by rw [i2]; exact g1) (g := mkF m pc Ls (rv (vI x) :: rv (vR (b + j + 1)) :: S.map rv)) rfl rfl (hb hc.2.1 hd) _ hr⟩
theorem Go.zald {q b kk j len a : Nat} {O : Mo} {n d : String} {x z : Int} (hd : decode bytes pc = .ok (.baload, 1)) (hp : pc + 1 = pc2) (hq : os[q]? = some (b, kk, O)) (ha : D.AS[j]? = some (n, d, .boolean, len)) (hj : j < kk) (hadr : b + j + 1 = a) (hx : 0 ≤ x ∧ x < (len : Int)) (hz : O (j + 1) x.toNat = z)
    (h : Go l Z D n0 P y bytes maxL ret R pc2 L (vI z :: S) os sz cu su Q) : Go l Z D n0 P y bytes maxL ret R pc L (vI x :: vR a :: S) os sz cu su Q := by
  subst hp hz hadr
  refine Go.step h fun p e s m args below meth c hc T locs X H hz hF Ls hl hL hS => ?_
  obtain ⟨cl, A, hs, g⟩ := (H.2.2.1 _ _ _ _ hq).1.2.2.2 _ _ _ _ _ ha hj
  obtain ⟨i1, i2⟩ := idx_ok (okS_head hS) hx
  obtain ⟨g1, g2⟩ := g x.toNat (by omega)
  exact ⟨T, locs, Ls, X, H, hz, hF, hl, hL, okS_cons (okV_tv (t := .boolean) g2) (okS_tail (okS_tail hS)), fun target hr => X.baloadBooleans hc.1 A.1 (State.isArrayOf_alike hc.2.2.2.2.2.2.1.alike A.2.1) A.2.2 (by rw [hs]; exact i1) (by rw [i2]; exact g1) (g := mkF m pc Ls (rv (vI x) :: rv (vR (b + j + 1)) :: S.map rv)) rfl rfl (hb hc.2.1 hd) _ hr⟩
theorem Go.iast {q b kk j len a : Nat} {O : Mo} {n d : String} {x z z' : Int} (hd : decode bytes pc = .ok (.iastore, 1)) (hp : pc + 1 = pc2) (hq : os[q]? = some (b, kk, O)) (ha : D.AS[j]? = some (n, d, .int, len)) (hj : j < kk) (hadr : b + j + 1 = a) (hx : 0 ≤ x ∧ x < (len : Int)) (hz : norm .int z = z') (hos : os.set q (b, kk, upd O (j + 1) x.toNat z') = os2)
    (h : Go l Z D n0 P y bytes maxL ret R pc2 L S os2 sz cu su Q) : Go l Z D n0 P y bytes maxL ret R pc L (vI z :: vI x :: vR a :: S) os sz cu su Q := by
  subst hp hz hadr hos
  refine Go.step h fun p e s m args below meth c hc T locs X H hz hF Ls hl hL hS => ?_
  have HO := (H.2.2.1 _ _ _ _ hq).1
  obtain ⟨cl, A, hs, g⟩ := HO.2.2.2 _ _ _ _ _ ha hj
  obtain ⟨i1, i2⟩ := idx_ok (okS_head (okS_tail hS)) hx
  have m3 := (norm_ok (t := .int) (x := z) (by simp [pt]) (okS_head hS)).2.2
  obtain ⟨T', h', X', eT, W, st⟩ := stI X hc.1 hc.2.2.2.2.2.2.1 rfl A (by rw [hs]; exact i1) (g := mkF m pc Ls (rv (vI z) :: rv (vI x) :: rv (vR (b + j + 1)) :: S.map rv)) rfl rfl (hb hc.2.1 hd)
  subst eT
  have hlt : j < D.AS.length := (List.getElem?_eq_some_iff.mp ha).1
  have W2 := W
  rw [i2] at W2
  exact ⟨T', _, Ls, X', H.wr hq (by omega) (by omega) W2 (HO.puta ha hj (by omega) W2 m3), hz, Fr.snoc X' hF (by have := (H.2.2.1 _ _ _ _ hq).2.1; omega), hl, hL, okS_tail (okS_tail (okS_tail hS)), fun target hr => st _ hr⟩
theorem Go.last {q b kk j len a : Nat} {O : Mo} {n d : String} {x z z' : Int} (hd : decode bytes pc = .ok (.lastore, 1)) (hp : pc + 1 = pc2) (hq : os[q]? = some (b, kk, O)) (ha : D.AS[j]? = some (n, d, .long, len)) (hj : j < kk) (hadr : b + j + 1 = a) (hx : 0 ≤ x ∧ x < (len : Int)) (hz : norm .long z = z') (hos : os.set q (b, kk, upd O (j + 1) x.toNat z') = os2)
    (h : Go l Z D n0 P y bytes maxL ret R pc2 L S os2 sz cu su Q) : Go l Z D n0 P y bytes maxL ret R pc L (vJ z :: vI x :: vR a :: S) os sz cu su Q := by
  subst hp hz hadr hos
  refine Go.step h fun p e s m args below meth c hc T locs X H hz hF Ls hl hL hS => ?_
  have HO := (H.2.2.1 _ _ _ _ hq).1
  obtain ⟨cl, A, hs, g⟩ := HO.2.2.2 _ _ _ _ _ ha hj
  obtain ⟨i1, i2⟩ := idx_ok (okS_head (okS_tail hS)) hx
  have m3 := (norm_ok (t := .long) (x := z) (by simp [pt]) (okS_head hS)).2.2
  obtain ⟨T', h', X', eT, W, st⟩ := stJ X hc.1 hc.2.2.2.2.2.2.1 rfl A (by rw [hs]; exact i1) (g := mkF m pc Ls (rv (vJ z) :: rv (vI x) :: rv (vR (b + j + 1)) :: S.map rv)) rfl rfl (hb hc.2.1 hd)
  subst eT
  have hlt : j < D.AS.length := (List.getElem?_eq_some_iff.mp ha).1
  have W2 := W
  rw [i2] at W2
  exact ⟨T', _, Ls, X', H.wr hq (by omega) (by omega) W2 (HO.puta ha hj (by omega) W2 m3), hz, Fr.snoc X' hF (by have := (H.2.2.1 _ _ _ _ hq).2.1; omega), hl, hL, okS_tail (okS_tail (okS_tail hS)), fun target hr => st _ hr⟩
theorem Go.bast {q b kk j len a : Nat} {O : Mo} {n d : String} {x z z' : Int} (hd : decode bytes pc = .ok (.bastore, 1)) (hp : pc + 1 = pc2) (hq : os[q]? = some (b, kk, O)) (ha : D.AS[j]? = some (n, d, .byte, len)) (hj : j < kk) (hadr : b + j + 1 = a) (hx : 0 ≤ x ∧ x < (len : Int)) (hz : norm .byte z = z') (hos : os.set q (b, kk, upd O (j + 1) x.toNat z') = os2)
    (h : Go l Z D n0 P y bytes maxL ret R pc2 L S os2 sz cu su Q) : Go l Z D n0 P y bytes maxL ret R pc L (vI z :: vI x :: vR a :: S) os sz cu su Q := by
  subst hp hz hadr hos
  refine Go.step h fun p e s m args below meth c hc T locs X H hz hF Ls hl hL hS => ?_
  have HO := (H.2.2.1 _ _ _ _ hq).1
  obtain ⟨cl, A, hs, g⟩ := HO.2.2.2 _ _ _ _ _ ha hj
  obtain ⟨i1, i2⟩ := idx_ok (okS_head (okS_tail hS)) hx
  have m3 := (norm_ok (t := .byte) (x := z) (by simp [pt]) (okS_head hS)).2.2
  obtain ⟨T', h', X', eT, W, st⟩ := stB X hc.1 hc.2.2.2.2.2.2.1 rfl A (by rw [hs]; exact i1) (g := mkF m pc Ls (rv (vI z) :: rv (vI x) :: rv (vR (b + j + 1)) :: S.map rv)) rfl rfl (hb hc.2.1 hd)
  rw [show nar .byte (Int32.ofInt z) = (Int32.ofInt z).toInt8.toInt32 from rfl, i2b_o] at W
  subst eT
  have hlt : j < D.AS.length := (List.getElem?_eq_some_iff.mp ha).1
  have W2 := W
  rw [i2] at W2
  exact ⟨T', _, Ls, X', H.wr hq (by omega) (by omega) W2 (HO.puta ha hj (by omega) W2 m3), hz, Fr.snoc X' hF (by have := (H.2.2.1 _ _ _ _ hq).2.1; omega), hl, hL, okS_tail (okS_tail (okS_tail hS)), fun target hr => st _ hr⟩
theorem Go.zast {q b kk j len a : Nat} {O : Mo} {n d : String} {x z z' : Int} (hd : decode bytes pc = .ok (.bastore, 1)) (hp : pc + 1 = pc2) (hq : os[q]? = some (b, kk, O)) (ha : D.AS[j]? = some (n, d, .boolean, len)) (hj : j < kk) (hadr : b + j + 1 = a) (hx : 0 ≤ x ∧ x < (len : Int)) (hz : norm .boolean z = z') (hos : os.set q (b, kk, upd O (j + 1) x.toNat z') = os2)
    (h : Go l Z D n0 P y bytes maxL ret R pc2 L S os2 sz cu su Q) : Go l Z D n0 P y bytes maxL ret R pc L (vI z :: vI x :: vR a :: S) os sz cu su Q := by
  subst hp hz hadr hos
  refine Go.step h fun p e s m args below meth c hc T locs X H hz hF Ls hl hL hS => ?_
  have HO := (H.2.2.1 _ _ _ _ hq).1
  obtain ⟨cl, A, hs, g⟩ := HO.2.2.2 _ _ _ _ _ ha hj
  obtain ⟨i1, i2⟩ := idx_ok (okS_head (okS_tail hS)) hx
  have m3 := (norm_ok (t := .boolean) (x := z) (by simp [pt]) (okS_head hS)).2.2
  obtain ⟨T', h', X', eT, W, st⟩ := stZ X hc.1 hc.2.2.2.2.2.2.1 rfl A (by rw [hs]; exact i1) (g := mkF m pc Ls (rv (vI z) :: rv (vI x) :: rv (vR (b + j + 1)) :: S.map rv)) rfl rfl (hb hc.2.1 hd)
  rw [show nar .boolean (Int32.ofInt z) = Int32.ofInt z &&& 1 from rfl, and1_o] at W
  subst eT
  have hlt : j < D.AS.length := (List.getElem?_eq_some_iff.mp ha).1
  have W2 := W
  rw [i2] at W2
  exact ⟨T', _, Ls, X', H.wr hq (by omega) (by omega) W2 (HO.puta ha hj (by omega) W2 m3), hz, Fr.snoc X' hF (by have := (H.2.2.1 _ _ _ _ hq).2.1; omega), hl, hL, okS_tail (okS_tail (okS_tail hS)), fun target hr => st _ hr⟩
/-- an int array that was there at the start: read only -/
def Scr (Z : State) (a : Nat) (xs : List Int) (h : Heap) : Prop := ∃ c : Cell, Arr Z h a c .int ∧ c.slots.size = xs.length ∧ ∀ (i : Nat) (x : Int), xs[i]? = some x → c.slots[i]? = some (.int (Int32.ofInt x)) ∧ R32 x
theorem Go.sald {a : Nat} {xs : List Int} {x z : Int} (hd : decode bytes pc = .ok (.iaload, 1)) (hp : pc + 1 = pc2) (hP : ∀ h, P h → Scr Z a xs h) (hx : 0 ≤ x ∧ x < (xs.length : Int)) (hz : xs.getD x.toNat 0 = z)
    (h : Go l Z D n0 P y bytes maxL ret R pc2 L (vI z :: S) os sz cu su Q) : Go l Z D n0 P y bytes maxL ret R pc L (vI x :: vR a :: S) os sz cu su Q := by
  subst hp hz
  refine Go.step h fun p e s m args below meth c hc T locs X H hz hF Ls hl hL hS => ?_
  obtain ⟨cl, A, hs, g⟩ := hP _ H.2.2.2.2.2
  obtain ⟨i1, i2⟩ := idx_ok (okS_head hS) hx
  have hlt : x.toNat < xs.length := by omega
  have e : xs[x.toNat]? = some (xs.getD x.toNat 0) := by simp [List.getD, hlt]
  obtain ⟨g1, g2⟩ := g _ _ e
  exact ⟨T, locs, Ls, X, H, hz, hF, hl, hL, okS_cons g2 (okS_tail (okS_tail hS)), fun target hr => X.iaload hc.1 A.1 (State.isArrayOf_alike hc.2.2.2.2.2.2.1.alike A.2.1) A.2.2 (by rw [hs]; exact i1) (by rw [i2]; exact g1) (g := mkF m pc Ls (rv (vI x) :: rv (vR a) :: S.map rv)) rfl rfl (hb hc.2.1 hd) _ hr⟩
theorem Go.alen {a : Nat} {xs : List Int} (hd : decode bytes pc = .ok (.arraylength, 1)) (hp : pc + 1 = pc2) (hP : ∀ h, P h → Scr Z a xs h) (hb32 : xs.length < 2147483648)
    (h : Go l Z D n0 P y bytes maxL ret R pc2 L (vI (xs.length : Int) :: S) os sz cu su Q) : Go l Z D n0 P y bytes maxL ret R pc L (vR a :: S) os sz cu su Q := by
  subst hp
  refine Go.step h fun p e s m args below meth c hc T locs X H hz hF Ls hl hL hS => ?_
  obtain ⟨cl, A, hs, g⟩ := hP _ H.2.2.2.2.2
  exact ⟨T, locs, Ls, X, H, hz, hF, hl, hL, okS_cons (show R32 (xs.length : Int) from ⟨by omega, by omega⟩) (okS_tail hS), fun target hr => X.arraylength hc.1 A.1 (State.isArrayOf_alike hc.2.2.2.2.2.2.1.alike A.2.1) (g := mkF m pc Ls (rv (vR a) :: S.map rv)) rfl rfl (hb hc.2.1 hd) _ (by rw [hs, show xs.length.toInt32 = Int32.ofInt (xs.length : Int) from rfl]; exact hr)⟩
theorem Go.newo {k kx : Nat} (cw : CW Z a0 D) (hd : decode bytes pc = .ok (.new k, 3)) (hp : pc + 3 = pc2) {own C : String} (ho : y.cls = own) (hC : D.C = C) (w : (Cond.classLink own k C).before a0 Z = true) (wi : (Cond.instantiable C kx).before a0 Z = true) (wz : (Cond.initialized C).before a0 Z = true) (hk : ∀ o ∈ os, o.2.1 = D.AS.length) (hP : ∀ b, n0 ≤ b → StB D b P) (hcu : cu + 1 ≤ R.cells) (hsu : su + kx ≤ R.slots) (hos : os ++ [(sz, 0, zM)] = os2) (hs2 : sz + 1 = sz2) (hcu2 : cu + 1 = cu2) (hsu2 : su + kx = su2)
    (h : Go l Z D n0 P y bytes maxL ret R pc2 L (vR sz :: S) os2 sz2 cu2 su2 Q) : Go l Z D n0 P y bytes maxL ret R pc L S os sz cu su Q := by
  subst hp hos hs2 hcu2 hsu2 ho hC
  refine Go.step h fun p e s m args below meth c hc T locs X H hz hF Ls hl hL hS => ?_
  obtain ⟨T', h', X', eT, E, A, F, -, st⟩ := newO X hc.1 hc.2.2.2.2.2.2.1 hc.2.2.2.2.1 w wi wz rfl (g := mkF m pc Ls (S.map rv)) rfl (hb hc.2.1 hd) hcu hsu
  subst eT
  have hs : T'.heap.size = sz + 1 := by
    have u1 : T'.heap.size ≤ s.heap.size + (cu + 1) := X'.heapSize
    have u2 : T.heap.size < T'.heap.size := A.lt
    have u3 : T.heap.size = sz := H.1
    omega
  refine ⟨T', locs, Ls, X', H.new cw hk hP E hs A F, by omega, hF, hl, hL, okS_cons trivial hS, fun target hr => st _ ?_⟩
  rw [H.1]; exact hr
theorem Go.inito {k b : Nat} (hd : decode bytes pc = .ok (.invokespecial k, 3)) (hp : pc + 3 = pc2) {own : String} (ho : y.cls = own) (w1 : (Cond.methodLink own k Lib.objectInit).before a0 Z = true) (w2 : (Cond.instanceMethod Lib.objectInit).before a0 Z = true) (w3 : (Cond.code Lib.objectInit ⟨#[0xb1]⟩ 1 none).before a0 Z = true) (hf : 1 ≤ R.frames) (hlo : (S.map fun u => (rv u).category).sum + 12 ≤ R.locals)
    (h : Go l Z D n0 P y bytes maxL ret R pc2 L S os sz cu su Q) : Go l Z D n0 P y bytes maxL ret R pc L (vR b :: S) os sz cu su Q := by
  subst hp ho
  refine Go.step h fun p e s m args below meth c hc T locs X H hz hF Ls hl hL hS => ?_
  obtain ⟨T', X', eT, st⟩ := initO X hc.1 hc.2.2.2.2.2.2.1 hc.2.2.2.2.1 w1 w2 w3 rfl (g := mkF m pc Ls (rv (vR b) :: S.map rv)) rfl (hl.trans hc.2.2.1.symm) rfl (hb hc.2.1 hd) hf (W := (S.map fun u => (rv u).category).sum) (by rw [List.map_map]; show 2 * 0 + _ ≤ _; exact Nat.le_of_eq (Nat.zero_add _)) hlo
  exact ⟨T', locs, Ls, X', by rw [eT]; exact H, hz, hF, hl, hL, okS_tail hS, st⟩
theorem Go.reti {x : Int} (hd : decode bytes pc = .ok (.ireturn, 1)) (hret : ret = some .int) (hcu : cu ≤ R.cells) (hsu : su ≤ R.slots) (hq : ∀ h, HS Z D n0 P os sz h → Q (some (vI x)) h) : Go l Z D n0 P y bytes maxL ret R pc L (vI x :: S) os sz cu su Q := by
  intro p e s m args below meth c hc T locs X H hz hF Ls hl hL hS
  have hlk : meth.locks = false := hc.2.2.2.2.2.2.2
  have hr0 : meth.sig.returnType = some .int := hc.2.2.2.1.trans hret
  obtain ⟨fs, hr, hrun, hended, hW, hsame⟩ := X.leave (v := some (rv (vI x))) (fun h => by rw [hr0] at h; cases h) hlk
  exact ⟨_, locs, cu, su, some (vI x), retI X hc.1 hr0 (hb hc.2.1 hd) hr, hrun, hended, hW, hsame, hcu, hsu, hq _ H, hF, fun w hw => by cases hw; exact okS_head hS⟩
theorem Go.retz {x : Int} {x' : Int} (hd : decode bytes pc = .ok (.ireturn, 1)) (hret : ret = some .boolean) (hx : x % 2 = x') (hcu : cu ≤ R.cells) (hsu : su ≤ R.slots) (hq : ∀ h, HS Z D n0 P os sz h → Q (some (vI x')) h) : Go l Z D n0 P y bytes maxL ret R pc L (vI x :: S) os sz cu su Q := by
  intro p e s m args below meth c hc T locs X H hz hF Ls hl hL hS
  have hlk : meth.locks = false := hc.2.2.2.2.2.2.2
  have hr0 : meth.sig.returnType = some .boolean := hc.2.2.2.1.trans hret
  obtain ⟨fs, hr, hrun, hended, hW, hsame⟩ := X.leave (v := some (rv (vI x'))) (fun h => by rw [hr0] at h; cases h) hlk
  subst hx
  exact ⟨_, locs, cu, su, some (vI (x % 2)), retN X hc.1 (t := .boolean) hr0 (by simp) (hb hc.2.1 hd) (by rw [show nar .boolean (Int32.ofInt x) = Int32.ofInt x &&& 1 from rfl, and1_o]; exact hr), hrun, hended, hW, hsame, hcu, hsu, hq _ H, hF, fun w hw => by cases hw; exact ⟨by omega, by omega⟩⟩
theorem Go.retj {x : Int} (hd : decode bytes pc = .ok (.lreturn, 1)) (hret : ret = some .long) (hcu : cu ≤ R.cells) (hsu : su ≤ R.slots) (hq : ∀ h, HS Z D n0 P os sz h → Q (some (vJ x)) h) : Go l Z D n0 P y bytes maxL ret R pc L (vJ x :: S) os sz cu su Q := by
  intro p e s m args below meth c hc T locs X H hz hF Ls hl hL hS
  have hlk : meth.locks = false := hc.2.2.2.2.2.2.2
  have hr0 : meth.sig.returnType = some .long := hc.2.2.2.1.trans hret
  obtain ⟨fs, hr, hrun, hended, hW, hsame⟩ := X.leave (v := some (rv (vJ x))) (fun h => by rw [hr0] at h; cases h) hlk
  exact ⟨_, locs, cu, su, some (vJ x), retOut X hc.1 hr0 rfl (Or.inr (Or.inl ⟨rfl, rfl, _, rfl⟩)) (hb hc.2.1 hd) hr, hrun, hended, hW, hsame, hcu, hsu, hq _ H, hF, fun w hw => by cases hw; exact okS_head hS⟩
theorem Go.retv (hd : decode bytes pc = .ok (.return_, 1)) (hret : ret = none) (hcu : cu ≤ R.cells) (hsu : su ≤ R.slots) (hq : ∀ h, HS Z D n0 P os sz h → Q none h) : Go l Z D n0 P y bytes maxL ret R pc L [] os sz cu su Q := by
  intro p e s m args below meth c hc T locs X H hz hF Ls hl hL hS
  have hlk : meth.locks = false := hc.2.2.2.2.2.2.2
  have hr0 : meth.sig.returnType = none := hc.2.2.2.1.trans hret
  obtain ⟨fs, hr, hrun, hended, hW, hsame⟩ := X.leave (v := none) (fun _ => rfl) hlk
  exact ⟨_, locs, cu, su, none, X.returnOut hc.1 hr0 (hb hc.2.1 hd) hr, hrun, hended, hW, hsame, hcu, hsu, hq _ H, hF, fun w hw => by cases hw⟩
/-- a method's contract -/
def Meth (l : Launch) (Z : State) (D : Cls) (n0 : Nat) (P : Heap → Prop) (y : MethodName) (bytes : ByteArray) (maxL : Nat) (ret : Option FieldType) (R : Room) (as : List V) (os : List OB) (sz : Nat) (Q : Option V → Heap → Prop) : Prop :=
  okS as → ∀ h0, HS Z D n0 P os sz h0 → ∀ ws : List Jvm.Cond, MetFree l y (head1 (Jvm.Cond.code y bytes maxL ret :: ws) R) (fun a U => a = (as.map rv).toArray ∧ Z.Warmed39 U.vm ∧ U.heap = h0) (fun _ _ _ _ _ => True)
    (fun _ U o U' => ∃ v' L, o = .returned v' ∧ (∃ v, v' = Option.map rv v ∧ Q v U'.heap ∧ Fr n0 L ∧ (∀ w, v = some w → okV w)) ∧ FrameEnd U o U' L R.cells R.slots)
theorem Meth.of (hy : plainFor y = true) {as : List V} (hlen : (laid as).length ≤ maxL) (h : Go l Z D n0 P y bytes maxL ret R 0 (ent as maxL) [] os sz 0 0 Q) : Meth l Z D n0 P y bytes maxL ret R as os sz Q := by
  intro hok h0 H ws
  refine MetFree.of_bodySF hy hisR ?_
  intro p e s m args below meth c s₁ Bd hml0 hP hK
  obtain ⟨rfl, hZ, hh⟩ := hP
  have X0 : Stand p l e R s m (as.map rv).toArray below meth c s₁ [] 0 0 := Stand.of_body Bd
  have e0 : s₁.heap = h0 := by rw [← hh, Bd.state]; rfl
  have hE := ent_ok (maxL := maxL) hok hlen
  obtain ⟨s2, locs', cu', su', v, g1, g2, g3, g4, g5, g6, g7, g8, g9, g10⟩ := h p e s m _ below meth c ⟨Bd.exec, Bd.bytes, hml0, Bd.returns, findClass_of_methodNamed Bd.named, (name_of_methodNamed Bd.named Bd.method).1, hZ, Bd.notSynchronized⟩ s₁ [] X0 (by rw [e0]; exact H) (by rw [← H.1, ← hh]; simp) (Fr.nil n0) (argsToLocals (as.map rv).toArray maxL) (by rw [hE.1]; simp [ent]; omega) hE (fun u hu => nomatch hu)
  exact ⟨s2, _, g1, g2, g3, _, locs', rfl, ⟨v, rfl, g8, g9, g10⟩, ⟨_, rfl⟩, g4, g5.mono g6 g7⟩
def QM (Z : State) (D : Cls) (n0 : Nat) (P : Heap → Prop) (v : Option V) (os' : List OB) (sz' : Nat) (w : Option V) (h : Heap) : Prop := w = v ∧ HS Z D n0 P os' sz' h
/-- the caller's side of a call: what the callee's contract must give -/
def Pays (l : Launch) (Z : State) (D : Cls) (n0 : Nat) (P : Heap → Prop) (z : MethodName) (zb : ByteArray) (zl : Nat) (zr : Option FieldType) (rm : Room) (as : List V) (os : List OB) (sz : Nat) (v : Option V) (os' : List OB) (sz' : Nat) : Prop :=
  ∃ P' os1 os1', (∀ h, HS Z D n0 P os sz h → HS Z D n0 P' os1 sz h) ∧ (∀ h h', HS Z D n0 P os sz h → HS Z D n0 P' os1' sz' h' → HS Z D n0 P os' sz' h') ∧ Meth l Z D n0 P' z zb zl zr rm as os1 sz (QM Z D n0 P' v os1' sz')
theorem Pays.one {z : MethodName} {zb : ByteArray} {zl : Nat} {zr : Option FieldType} {rm : Room} {as : List V} {w : Option V} {q b k k' : Nat} {O O' : Mo} (hq : os[q]? = some (b, k, O)) (hos : os.set q (b, k', O') = os2) (hm : ∀ P' : Heap → Prop, (∀ h, P' h → P h) → Meth l Z D n0 P' z zb zl zr rm as [(b, k, O)] sz (QM Z D n0 P' w [(b, k', O')] sz2)) : Pays l Z D n0 P z zb zl zr rm as os sz w os2 sz2 := by
  subst hos
  exact ⟨Rest Z D P os q, _, _, fun h H => H.split hq, fun h h' H M => H.merge hq M, hm _ fun h q => q.1⟩
theorem Pays.zero {z : MethodName} {zb : ByteArray} {zl : Nat} {zr : Option FieldType} {rm : Room} {as : List V} {w : Option V} (hm : ∀ P' : Heap → Prop, (∀ h, P' h → P h) → Meth l Z D n0 P' z zb zl zr rm as [] sz (QM Z D n0 P' w [] sz2)) : Pays l Z D n0 P z zb zl zr rm as os sz w os sz2 :=
  ⟨RestA Z D P os, _, _, fun h H => H.split0, fun h h' H M => H.merge0 M, hm _ fun h q => q.1⟩
theorem Pays.all {z : MethodName} {zb : ByteArray} {zl : Nat} {zr : Option FieldType} {rm : Room} {as : List V} {w : Option V} (hm : ∀ P' : Heap → Prop, (∀ h, P' h → P h) → Meth l Z D n0 P' z zb zl zr rm as os sz (QM Z D n0 P' w os2 sz2)) : Pays l Z D n0 P z zb zl zr rm as os sz w os2 sz2 :=
  ⟨P, _, _, fun h H => H, fun h h' H M => M, hm _ fun h q => q⟩
theorem Go.callv {k : Nat} {z : MethodName} {zb : ByteArray} {zl : Nat} {zr : Option FieldType} {rm : Room} {as : List V} {w : Option V} {ps : List FieldType} {rt : Option FieldType} (hd : decode bytes pc = .ok (.invokevirtual k, 3)) (hp : pc + 3 = pc2) {own : String} (ho : y.cls = own) (w1 : (Cond.methodLink own k z).before a0 Z = true) (w2 : (Cond.declares z).before a0 Z = true) {C : String} (hC : D.C = C) (w3 : (Cond.selects C z z).before a0 Z = true) (w4 : (Cond.instanceMethod z).before a0 Z = true) (w5 : (Cond.code z zb zl zr).before a0 Z = true) {zc : String} (hzc : z.cls = zc) (w6 : (Cond.initialized zc).before a0 Z = true) {b q kq : Nat} {O : Mo} (hq : os[q]? = some (b, kq, O)) (hy : z.cls ≠ "java/lang/invoke/MethodHandle" ∧ z.cls ≠ "java/lang/invoke/VarHandle") (hpd : parseMethodDescriptor z.desc = some ⟨ps, rt⟩) (hf : rm.frames + 1 ≤ R.frames) (hlo : (S.map fun u => (rv u).category).sum + (zl + 11) + rm.locals ≤ R.locals) (hcu : cu + rm.cells ≤ R.cells) (hsu : su + rm.slots ≤ R.slots) {nc ns : Nat} (hnc : rm.cells = nc) (hns : rm.slots = ns) (hsz : sz + nc = sz2) (hcu2 : cu + nc = cu2) (hsu2 : su + ns = su2) (hlen : as.length = ps.length) (hpay : Pays l Z D n0 P z zb zl zr rm (vR b :: as) os sz w os2 sz2) (hS2 : w.toList ++ S = S2)
    (h : Go l Z D n0 P y bytes maxL ret R pc2 L S2 os2 sz2 cu2 su2 Q) : Go l Z D n0 P y bytes maxL ret R pc L (as.reverse ++ vR b :: S) os sz cu su Q := by
  subst hp hS2 ho hzc hnc hns hcu2 hsu2 hC
  refine Go.step h fun p e s m args below meth c hc T locs X H hz hF Ls hl hL hS => ?_
  obtain ⟨P', os1, os1', hsp, hmg, hm⟩ := hpay
  have okA : okS (vR b :: as) := fun u hu => hS u (by simp only [List.mem_append, List.mem_reverse, List.mem_cons] at hu ⊢; rcases hu with hu | hu <;> simp [hu])
  have okR : okS S := fun u hu => hS u (by simp [hu])
  have M := hm okA T.heap (hsp _ H) []
  have E := (H.2.2.1 _ _ _ _ hq).1.1
  obtain ⟨cq, kq', qa, qb, qc⟩ := isOf hc.2.2.2.2.2.2.1 rfl E
  obtain ⟨_, _, ⟨T2, L2, k2, n2⟩, -, X2, ⟨Lc, hQ, l2, y2, z2⟩, st⟩ := X.virtualBack hc.1 (y := z) (z := z) hc.2.2.2.2.1 (mvT hc.2.2.2.2.2.2.1 w1) (mvT hc.2.2.2.2.2.2.1 w2) (notFace_of_selects (args := #[]) (mvT hc.2.2.2.2.2.2.1 w3)) (mvT hc.2.2.2.2.2.2.1 w3) (mvT hc.2.2.2.2.2.2.1 w4) hy (backOf (W := (S.map fun u => (rv u).category).sum) (Q := fun v' h L => ∃ v, v' = Option.map rv v ∧ QM Z D n0 P' w os1' sz2 v h ∧ Fr n0 L ∧ ∀ w, v = some w → okV w) M hc.2.2.2.2.2.2.1 w5 w6 hf hlo) qa qc (g := mkF m pc Ls ((as.reverse ++ vR b :: S).map rv)) rfl (hl.trans hc.2.2.1.symm) (Steps.refl _) (argsL := as.map rv) (rest := S.map rv) (lenOf hpd (by rw [List.length_map]; exact hlen)) (by simp [rv]) (by rw [List.map_map]; show 2 * 0 + _ ≤ _; exact Nat.le_of_eq (Nat.zero_add _)) (hb hc.2.1 hd) (fun _ _ => ⟨by simp [rv], rfl, hcu, hsu⟩)
  dsimp only [Pt.U, Pt.locs, Pt.cells, Pt.slots] at X2 l2 y2 z2 st hQ
  subst l2 y2 z2
  obtain ⟨w9, rfl, ⟨e9, H2⟩, F2, ok2⟩ := hQ
  subst e9
  refine ⟨T2, _, Ls, X2, hmg _ _ H H2, by omega, Fr.app hF F2, hl, hL, fun u hu => ?_, fun target hr => ?_⟩
  · rcases List.mem_append.mp hu with hu | hu
    · exact ok2 u (Option.mem_toList.mp hu)
    · exact okR u hu
  · rw [List.map_append] at hr
    refine st.trans ?_
    cases w9 <;> exact hr
theorem Go.callp {k : Nat} {z : MethodName} {zb : ByteArray} {zl : Nat} {zr : Option FieldType} {rm : Room} {as : List V} {w : Option V} {ps : List FieldType} {rt : Option FieldType} (hd : decode bytes pc = .ok (.invokevirtual k, 3)) (hp : pc + 3 = pc2) {own : String} (ho : y.cls = own) (w1 : (Cond.methodLink own k z).before a0 Z = true) (w3 : (Cond.privateMethod z).before a0 Z = true) (w4 : (Cond.instanceMethod z).before a0 Z = true) (w5 : (Cond.code z zb zl zr).before a0 Z = true) {zc : String} (hzc : z.cls = zc) (w6 : (Cond.initialized zc).before a0 Z = true) {kx : Nat} (wi : (Cond.instantiable zc kx).before a0 Z = true) {b q kq : Nat} {O : Mo} (hq : os[q]? = some (b, kq, O)) (hy : z.cls ≠ "java/lang/invoke/MethodHandle" ∧ z.cls ≠ "java/lang/invoke/VarHandle") (hpd : parseMethodDescriptor z.desc = some ⟨ps, rt⟩) (hf : rm.frames + 1 ≤ R.frames) (hlo : (S.map fun u => (rv u).category).sum + (zl + 11) + rm.locals ≤ R.locals) (hcu : cu + rm.cells ≤ R.cells) (hsu : su + rm.slots ≤ R.slots) {nc ns : Nat} (hnc : rm.cells = nc) (hns : rm.slots = ns) (hsz : sz + nc = sz2) (hcu2 : cu + nc = cu2) (hsu2 : su + ns = su2) (hlen : as.length = ps.length) (hpay : Pays l Z D n0 P z zb zl zr rm (vR b :: as) os sz w os2 sz2) (hS2 : w.toList ++ S = S2)
    (h : Go l Z D n0 P y bytes maxL ret R pc2 L S2 os2 sz2 cu2 su2 Q) : Go l Z D n0 P y bytes maxL ret R pc L (as.reverse ++ vR b :: S) os sz cu su Q := by
  subst hp hS2 ho hzc hnc hns hcu2 hsu2
  refine Go.step h fun p e s m args below meth c hc T locs X H hz hF Ls hl hL hS => ?_
  obtain ⟨P', os1, os1', hsp, hmg, hm⟩ := hpay
  have okA : okS (vR b :: as) := fun u hu => hS u (by simp only [List.mem_append, List.mem_reverse, List.mem_cons] at hu ⊢; rcases hu with hu | hu <;> simp [hu])
  have okR : okS S := fun u hu => hS u (by simp [hu])
  have M := hm okA T.heap (hsp _ H) []
  have E := (H.2.2.1 _ _ _ _ hq).1.1
  obtain ⟨cq, q4, q4'⟩ := E.cell
  have wi' : (Cond.instantiable z.cls kx).before args s = true := mv hc.2.2.2.2.2.2.1 wi
  obtain ⟨c9, k9, i1, i2, i3, i4, -⟩ := Cond.instantiable_spec wi'
  have hpr : s.PrivateAt z := Cond.privateMethod_at (mvP hc.2.2.2.2.2.2.1 w3 (args := #[]))
  have hin : (Cond.instanceMethod z).before args s = true := mvT hc.2.2.2.2.2.2.1 w4
  have hsel := selects_self_of_private i1 i2 (by simp at i4; exact i4.1) hpr hin hy
  obtain ⟨_, _, ⟨T2, L2, k2, n2⟩, -, X2, ⟨Lc, hQ, l2, y2, z2⟩, st⟩ := X.privateBack hc.1 (y := z) hc.2.2.2.2.1 (mvT hc.2.2.2.2.2.2.1 w1) hin hsel hpr (mvT hc.2.2.2.2.2.2.1 w5) hy (backOf (W := (S.map fun u => (rv u).category).sum) (Q := fun v' h L => ∃ v, v' = Option.map rv v ∧ QM Z D n0 P' w os1' sz2 v h ∧ Fr n0 L ∧ ∀ w, v = some w → okV w) M hc.2.2.2.2.2.2.1 w5 w6 hf hlo) (g := mkF m pc Ls ((as.reverse ++ vR b :: S).map rv)) rfl (hl.trans hc.2.2.1.symm) (Steps.refl _) (a := b) q4 q4' (argsL := as.map rv) (rest := S.map rv) (lenOf hpd (by rw [List.length_map]; exact hlen)) (by simp [rv]) (by rw [List.map_map]; show 2 * 0 + _ ≤ _; exact Nat.le_of_eq (Nat.zero_add _)) (hb hc.2.1 hd) (fun _ _ => ⟨by simp [rv], rfl, hcu, hsu⟩)
  dsimp only [Pt.U, Pt.locs, Pt.cells, Pt.slots] at X2 l2 y2 z2 st hQ
  subst l2 y2 z2
  obtain ⟨w9, rfl, ⟨e9, H2⟩, F2, ok2⟩ := hQ
  subst e9
  refine ⟨T2, _, Ls, X2, hmg _ _ H H2, by omega, Fr.app hF F2, hl, hL, fun u hu => ?_, fun target hr => ?_⟩
  · rcases List.mem_append.mp hu with hu | hu
    · exact ok2 u (Option.mem_toList.mp hu)
    · exact okR u hu
  · rw [List.map_append] at hr
    refine st.trans ?_
    cases w9 <;> exact hr
theorem Go.callc {k : Nat} {z : MethodName} {zb : ByteArray} {zl : Nat} {zr : Option FieldType} {rm : Room} {as : List V} {w : Option V} {ps : List FieldType} {rt : Option FieldType} (hd : decode bytes pc = .ok (.invokespecial k, 3)) (hp : pc + 3 = pc2) (hn : z.name = "<init>") (hzr : zr = none) {own : String} (ho : y.cls = own) (w1 : (Cond.methodLink own k z).before a0 Z = true) (w4 : (Cond.instanceMethod z).before a0 Z = true) (w5 : (Cond.code z zb zl zr).before a0 Z = true) {zc : String} (hzc : z.cls = zc) (w6 : (Cond.initialized zc).before a0 Z = true) {b : Nat} (hy : z.cls ≠ "java/lang/invoke/MethodHandle" ∧ z.cls ≠ "java/lang/invoke/VarHandle") (hpd : parseMethodDescriptor z.desc = some ⟨ps, rt⟩) (hf : rm.frames + 1 ≤ R.frames) (hlo : (S.map fun u => (rv u).category).sum + (zl + 11) + rm.locals ≤ R.locals) (hcu : cu + rm.cells ≤ R.cells) (hsu : su + rm.slots ≤ R.slots) {nc ns : Nat} (hnc : rm.cells = nc) (hns : rm.slots = ns) (hsz : sz + nc = sz2) (hcu2 : cu + nc = cu2) (hsu2 : su + ns = su2) (hlen : as.length = ps.length) (hpay : Pays l Z D n0 P z zb zl zr rm (vR b :: as) os sz w os2 sz2) (hS2 : w.toList ++ S = S2)
    (h : Go l Z D n0 P y bytes maxL ret R pc2 L S2 os2 sz2 cu2 su2 Q) : Go l Z D n0 P y bytes maxL ret R pc L (as.reverse ++ vR b :: S) os sz cu su Q := by
  subst hp hS2 ho hzc hnc hns hcu2 hsu2
  refine Go.step h fun p e s m args below meth c hc T locs X H hz hF Ls hl hL hS => ?_
  obtain ⟨P', os1, os1', hsp, hmg, hm⟩ := hpay
  have okA : okS (vR b :: as) := fun u hu => hS u (by simp only [List.mem_append, List.mem_reverse, List.mem_cons] at hu ⊢; rcases hu with hu | hu <;> simp [hu])
  have okR : okS S := fun u hu => hS u (by simp [hu])
  have M := hm okA T.heap (hsp _ H) []
  subst hzr
  obtain ⟨_, _, ⟨T2, L2, k2, n2⟩, -, X2, ⟨Lc, hQ, l2, y2, z2⟩, st⟩ := X.specialBack hc.1 (y := z) hn hc.2.2.2.2.1 (mvT hc.2.2.2.2.2.2.1 w1) (mvT hc.2.2.2.2.2.2.1 w4) (mvT hc.2.2.2.2.2.2.1 w5) hy (backOf (W := (S.map fun u => (rv u).category).sum) (Q := fun v' h L => ∃ v, v' = Option.map rv v ∧ QM Z D n0 P' w os1' sz2 v h ∧ Fr n0 L ∧ ∀ w, v = some w → okV w) M hc.2.2.2.2.2.2.1 w5 w6 hf hlo) (g := mkF m pc Ls ((as.reverse ++ vR b :: S).map rv)) rfl (hl.trans hc.2.2.1.symm) (Steps.refl _) (a := b) (argsL := as.map rv) (rest := S.map rv) (lenOf hpd (by rw [List.length_map]; exact hlen)) (by simp [rv]) (by rw [List.map_map]; show 2 * 0 + _ ≤ _; exact Nat.le_of_eq (Nat.zero_add _)) (hb hc.2.1 hd) (fun _ _ => ⟨by simp [rv], rfl, hcu, hsu⟩)
  dsimp only [Pt.U, Pt.locs, Pt.cells, Pt.slots] at X2 l2 y2 z2 st hQ
  subst l2 y2 z2
  obtain ⟨w9, rfl, ⟨e9, H2⟩, F2, ok2⟩ := hQ
  subst e9
  refine ⟨T2, _, Ls, X2, hmg _ _ H H2, by omega, Fr.app hF F2, hl, hL, fun u hu => ?_, fun target hr => ?_⟩
  · rcases List.mem_append.mp hu with hu | hu
    · exact ok2 u (Option.mem_toList.mp hu)
    · exact okR u hu
  · rw [List.map_append] at hr
    refine st.trans ?_
    cases w9 <;> exact hr
theorem Go.calls {k : Nat} {z : MethodName} {zb : ByteArray} {zl : Nat} {zr : Option FieldType} {rm : Room} {as : List V} {w : Option V} {ps : List FieldType} {rt : Option FieldType} (hd : decode bytes pc = .ok (.invokestatic k, 3)) (hp : pc + 3 = pc2) {own : String} (ho : y.cls = own) (w1 : (Cond.methodLink own k z).before a0 Z = true) (w2 : (Cond.static z).before a0 Z = true) (w5 : (Cond.code z zb zl zr).before a0 Z = true) {zc : String} (hzc : z.cls = zc) (w6 : (Cond.initialized zc).before a0 Z = true) (hy : z.cls ≠ "java/lang/invoke/MethodHandle" ∧ z.cls ≠ "java/lang/invoke/VarHandle") (hpd : parseMethodDescriptor z.desc = some ⟨ps, rt⟩) (hf : rm.frames + 1 ≤ R.frames) (hlo : (S.map fun u => (rv u).category).sum + (zl + 11) + rm.locals ≤ R.locals) (hcu : cu + rm.cells ≤ R.cells) (hsu : su + rm.slots ≤ R.slots) {nc ns : Nat} (hnc : rm.cells = nc) (hns : rm.slots = ns) (hsz : sz + nc = sz2) (hcu2 : cu + nc = cu2) (hsu2 : su + ns = su2) (hlen : as.length = ps.length) (hpay : Pays l Z D n0 P z zb zl zr rm as os sz w os2 sz2) (hS2 : w.toList ++ S = S2)
    (h : Go l Z D n0 P y bytes maxL ret R pc2 L S2 os2 sz2 cu2 su2 Q) : Go l Z D n0 P y bytes maxL ret R pc L (as.reverse ++ S) os sz cu su Q := by
  subst hp hS2 ho hzc hnc hns hcu2 hsu2
  refine Go.step h fun p e s m args below meth c hc T locs X H hz hF Ls hl hL hS => ?_
  obtain ⟨P', os1, os1', hsp, hmg, hm⟩ := hpay
  have okA : okS as := fun u hu => hS u (by simp only [List.mem_append, List.mem_reverse, List.mem_cons] at hu ⊢; exact Or.inl hu)
  have okR : okS S := fun u hu => hS u (by simp [hu])
  have M := hm okA T.heap (hsp _ H) []
  obtain ⟨_, _, ⟨T2, L2, k2, n2⟩, -, X2, ⟨Lc, hQ, l2, y2, z2⟩, st⟩ := Jvm.LawKit.callS X hc.1 (y := z) hc.2.2.2.2.1 (mvT hc.2.2.2.2.2.2.1 w1) (mvT hc.2.2.2.2.2.2.1 w2) (mvT hc.2.2.2.2.2.2.1 w6) (mvT hc.2.2.2.2.2.2.1 w5) hy (backOf (W := (S.map fun u => (rv u).category).sum) (Q := fun v' h L => ∃ v, v' = Option.map rv v ∧ QM Z D n0 P' w os1' sz2 v h ∧ Fr n0 L ∧ ∀ w, v = some w → okV w) M hc.2.2.2.2.2.2.1 w5 w6 hf hlo) (g := mkF m pc Ls ((as.reverse ++ S).map rv)) rfl (hl.trans hc.2.2.1.symm) (argsL := as.map rv) (rest := S.map rv) (lenOf hpd (by rw [List.length_map]; exact hlen)) (by simp) (by rw [List.map_map]; show 2 * 0 + _ ≤ _; exact Nat.le_of_eq (Nat.zero_add _)) (hb hc.2.1 hd) (fun _ _ => ⟨rfl, rfl, hcu, hsu⟩)
  dsimp only [Pt.U, Pt.locs, Pt.cells, Pt.slots] at X2 l2 y2 z2 st hQ
  subst l2 y2 z2
  obtain ⟨w9, rfl, ⟨e9, H2⟩, F2, ok2⟩ := hQ
  subst e9
  refine ⟨T2, _, Ls, X2, hmg _ _ H H2, by omega, Fr.app hF F2, hl, hL, fun u hu => ?_, fun target hr => ?_⟩
  · rcases List.mem_append.mp hu with hu | hu
    · exact ok2 u (Option.mem_toList.mp hu)
    · exact okR u hu
  · rw [List.map_append] at hr
    refine st _ ?_
    cases w9 <;> exact hr
theorem Scr.wr {a : Nat} {xs : List Int} {h h' : Heap} {b sl : Nat} {w : Value} (q : Scr Z a xs h) (W : Wr h h' b sl w) (ne : a ≠ b) : Scr Z a xs h' := by
  obtain ⟨c, A, r⟩ := q; exact ⟨c, A.other W ne, r⟩
theorem Scr.ext {a : Nat} {xs : List Int} {h h' : Heap} (q : Scr Z a xs h) (E : Ext h h') : Scr Z a xs h' := by
  obtain ⟨c, A, r⟩ := q; exact ⟨c, A.ext E, r⟩
theorem fnil {α : Type} {p : α → Prop} : ∀ x ∈ ([] : List α), p x := fun _ h => nomatch h
theorem fcons {α : Type} {p : α → Prop} {a : α} {l : List α} (h : p a) (hl : ∀ x ∈ l, p x) : ∀ x ∈ a :: l, p x := fun x hx => (List.mem_cons.mp hx).elim (fun e => e ▸ h) (hl x)
theorem CW.of (h1 : ∀ f ∈ D.FS, Laid Z a0 D.C D.C f.2.1 f.2.2.1 ∧ parseFieldDescriptor f.2.2.1 = some f.2.2.2 ∧ pt f.2.2.2) (h2 : ∀ f ∈ D.AS, Laid Z a0 D.C D.C f.1 f.2.1 ∧ parseFieldDescriptor f.2.1 = some (.array f.2.2.1) ∧ pt f.2.2.1 ∧ f.2.2.2 * 8 ≤ 536870912)
    (h3 : ∀ f ∈ D.FS, ∀ g ∈ D.FS, f = g ∨ (f.1 ≠ g.1 ∧ f.2.1 ≠ g.2.1)) (h4 : ∀ f ∈ D.FS, ∀ g ∈ D.AS, f.2.1 ≠ g.1) (h5 : ∀ j ∈ List.range D.AS.length, ∀ j' ∈ List.range D.AS.length, j ≠ j' → (D.AS[j]?.map (·.1)) ≠ (D.AS[j']?.map (·.1))) : CW Z a0 D := by
  refine ⟨fun i n d t h => h1 (i, n, d, t) h, fun j n d t len h => h2 (n, d, t, len) (List.mem_of_getElem? h), fun i n d t i' n' d' t' h h' => ?_, fun i n d t j n' d' t' len h h' => h4 (i, n, d, t) h (n', d', t', len) (List.mem_of_getElem? h'), fun j n d t len j' n' d' t' len' h h' ne e => ?_⟩
  · rcases h3 (i, n, d, t) h (i', n', d', t') h' with q | q
    · cases q; exact Or.inl ⟨rfl, rfl, rfl, rfl⟩
    · exact Or.inr q
  · refine h5 j (List.mem_range.mpr (List.getElem?_eq_some_iff.mp h).1) j' (List.mem_range.mpr (List.getElem?_eq_some_iff.mp h').1) ne ?_
    rw [h, h']; exact congrArg some e
theorem scr_start {s : State} {w0 : Value} (hfit : Fit s) (n1 : (Cond.arrayOf (Term.arg 0) .int).value #[w0] s none s [] = some true) (n2 : (Cond.le (Term.length (Term.arg 0)) (Term.int 260)).value #[w0] s none s [] = some true) :
    ∃ aa xs, w0 = .ref aa ∧ aa < s.heap.size ∧ Scr s aa xs s.heap ∧ xs.length ≤ 260 ∧ (∀ x ∈ xs, R32 x) := by
  obtain ⟨aa, ea⟩ := arr_v n1
  obtain rfl : w0 = .ref aa := Option.some.inj ea
  obtain ⟨cl, A⟩ := Arr.start ea n1
  have hl : cl.slots.size ≤ 260 := by
    by_cases h : cl.slots.size < 2 ^ 31
    · have e := len_f (t := Term.arg 0) (idx := []) ea (A.fin (Vm.Alike.refl _)) h
      have e2 : (Term.int 260).eval #[.ref aa] s none [] s = some (.int 260) := rfl
      have n3 := n2
      simp only [Cond.value, e, e2, Option.some.injEq, decide_eq_true_eq] at n3
      rw [Int32.le_iff_toInt_le, show cl.slots.size.toInt32 = Int32.ofInt (cl.slots.size : Int) from rfl, ti32 ⟨by omega, by omega⟩] at n3
      have : (260 : Int32).toInt = 260 := rfl
      omega
    · exfalso
      obtain ⟨x, y, e1, -⟩ := cmp_v (Or.inr (Or.inr n2))
      have q : (Term.length (Term.arg 0)).eval #[.ref aa] s none [] s = none := by
        have := A.fin (Vm.Alike.refl _)
        simp [Term.eval, this, h]
      rw [q] at e1; cases e1
  have key : ∀ i (hi : i < cl.slots.size), ∃ x : Int32, cl.slots[i] = .int x := fun i hi => by
    have q := hfit A.1 hi
    obtain ⟨hs, k, hk, comp, hkind⟩ := A.2.1
    have e : s.slotType? cl.cls cl.vm i = some .int := by
      cases hq : cl.vm <;> first | exact absurd hq (hs _) | simp [State.slotType?, hk, hkind]
    exact fit_I (by simpa [State.fitsSlot, e] using q) (Or.inl rfl)
  refine ⟨aa, cl.slots.toList.map (fun v => match v with | .int x => x.toInt | _ => 0), rfl, A.lt, ⟨cl, A, by simp, fun i x hx => ?_⟩, by simpa using hl, fun x hx => ?_⟩
  · rw [List.getElem?_map, Array.getElem?_toList] at hx
    cases hc : cl.slots[i]? with
    | none => rw [hc] at hx; cases hx
    | some u =>
      obtain ⟨hi, hu⟩ := Array.getElem?_eq_some_iff.mp hc
      obtain ⟨z, hz⟩ := key i hi
      rw [hz] at hu
      subst hu
      rw [hc] at hx
      simp at hx
      subst hx
      exact ⟨by rw [of32], r32t z⟩
  · obtain ⟨u, hu, rfl⟩ := List.mem_map.mp hx
    cases u with
    | int z => exact r32t z
    | _ => exact (show R32 0 by decide)
end Runs

end Jvm.Own

namespace Jvm.Own
-- functions of g-0161x4-1; fields: 0:cap, 1:rng, 2:n, 3:solved, 4:cxNum, 5:cyNum, 6:den, 7:rNum, 8:kindV, 9:bCount, 10:tnx, 11:tny, 12:td, 13:trr, 14:c, 15:s, 16:idx, 17:p, 18:v, 19:j, 20:t, 21:a, 22:b, 23:dx, 24:dy, 25:ax, 26:ay, 27:bx, 28:by, 29:d, 30:sa, 31:sb, 32:ux, 33:uy, 34:ab, 35:ac, 36:bc, 37:g1, 38:g, 39:best, 40:on, 41:tx, 42:ty, 43:sx, 44:sy; arrays: 1:xs[32] int, 2:ys[32] int, 3:order[32] int, 4:onB[32] boolean
def j_k_ctor_79 (F : Nat) (O0 : Mo) (v3 v4 : Int) : Option Mo :=
  some ((upd (upd (upd (upd (upd O0 0 0 v3) 0 1 v4) 0 2 0) 0 3 0) 0 12 1))
def j_k_ctor_68 (F : Nat) (O0 : Mo) (v3 v4 : Int) : Option Mo :=
  if v4 ≤ 65535 then
    j_k_ctor_79 F O0 v3 v4
  else
    j_k_ctor_79 F O0 v3 65535
def j_k_ctor_56 (F : Nat) (O0 : Mo) (v2 v3 : Int) : Option Mo :=
  if v2 < 1 then
    j_k_ctor_68 F O0 v3 1
  else
    j_k_ctor_68 F O0 v3 v2
def j_k_ctor_47 (F : Nat) (O0 : Mo) (v2 v3 : Int) : Option Mo :=
  if v3 ≤ 32 then
    j_k_ctor_56 F O0 v2 v3
  else
    j_k_ctor_56 F O0 v2 32
def k_ctor (F : Nat) (v1 v2 : Int) : Option Mo :=
  if v1 < 8 then
    j_k_ctor_47 F zM v2 8
  else
    j_k_ctor_47 F zM v2 v1
def k_inRange (v1 v2 : Int) : Int :=
  if v1 < (-255) then
    0
  else
    if 255 < v1 then
      0
    else
      if v2 < (-255) then
        0
      else
        if 255 < v2 then
          0
        else
          1
def b_k_addPoint_26 (F : Nat) (C26_0 : Mo) (c26_1 c26_2 : Int) (v3 : Int) : Option (Int ⊕ (Unit ⊕ ((Int × Mo)))) :=
  if v3 < C26_0 0 2 then
    if 0 ≤ v3 ∧ v3 < 32 then
      if C26_0 1 v3.toNat = c26_1 then
        if 0 ≤ v3 ∧ v3 < 32 then
          if C26_0 2 v3.toNat = c26_2 then
            some (Sum.inr (Sum.inr (((-1), C26_0))))
          else
            some (Sum.inl (w32 (v3 + 1)))
        else none
      else
        some (Sum.inl (w32 (v3 + 1)))
    else none
  else
    some (Sum.inr (Sum.inl (())))
def k_addPoint (F : Nat) (O0 : Mo) (v1 v2 : Int) : Option (Int × Mo) :=
  if k_inRange v1 v2 = 0 then
    some (((-1), O0))
  else
    if O0 0 2 < O0 0 0 then
      (loop (fun s => b_k_addPoint_26 F O0 v1 v2 s) F 0).bind fun r =>
      Sum.elim (fun r_1 =>
        if 0 ≤ (O0 0 2) ∧ (O0 0 2) < 32 then
          if 0 ≤ (O0 0 2) ∧ (O0 0 2) < 32 then
            some ((O0 0 2, (upd (upd (upd (upd O0 1 ((O0 0 2).toNat) v1) 2 ((O0 0 2).toNat) v2) 0 2 (w32 ((O0 0 2) + 1))) 0 3 0)))
          else none
        else none)
        (fun r_2 =>
        some r_2) r
    else
      some (((-1), O0))
def b_k_shuffle_2 (F : Nat) (v1 : Int) (O0 : Mo) : Option ((Int × Mo) ⊕ (Mo)) :=
  if v1 < O0 0 2 then
    if 0 ≤ v1 ∧ v1 < 32 then
      some (Sum.inl ((w32 (v1 + 1), (upd O0 3 (v1.toNat) v1))))
    else none
  else
    some (Sum.inr O0)
def k_shuffle (F : Nat) (O0 : Mo) : Option Mo :=
  (loop (fun s => b_k_shuffle_2 F s.1 s.2) F ((0, O0))).bind fun r =>
  if w32 ((r 0 2) - 1) ≤ 0 then
    some r
  else
    none
def k_setPoint (F : Nat) (O0 : Mo) (v1 : Int) : Option Mo :=
  if 0 ≤ v1 ∧ v1 < 32 then
    if 0 ≤ v1 ∧ v1 < 32 then
      some ((upd (upd (upd (upd O0 0 10 (O0 1 v1.toNat)) 0 11 ((upd O0 0 10 (O0 1 v1.toNat)) 2 v1.toNat)) 0 12 1) 0 13 0))
    else none
  else none
def k_runIncremental (F : Nat) (O0 : Mo) : Option Mo :=
  (k_setPoint F O0 (O0 3 0)).bind fun r =>
  if 1 < r 0 2 then
    none
  else
    some r
def k_absL (v1 : Int) : Int :=
  if v1 < 0 then
    w64 (-v1)
  else
    v1
def b_k_gcd_17 (F : Nat) (v5 v7 v9 : Int) : Option ((Int × Int × Int) ⊕ (Int)) :=
  if v9 < 200 then
    if v7 = 0 then
      some (Sum.inr v5)
    else
      if v7 = 0 then none else
      some (Sum.inl ((v7, w64 (Int.tmod v5 v7), w32 (v9 + 1))))
  else
    some (Sum.inr v5)
def k_gcd (F : Nat) (v1 v3 : Int) : Option Int :=
  (loop (fun s => b_k_gcd_17 F s.1 s.2.1 s.2.2) F ((k_absL v1, k_absL v3, 0))).bind fun r =>
  some r
def k_pwFinal (O0 : Mo) (v1 v2 : Int) : Int :=
  lt (w64 ((w64 (v1 * (O0 0 6))) - (O0 0 4))) fun v3 =>
  lt (w64 ((w64 (v2 * (O0 0 6))) - (O0 0 5))) fun v5 =>
  w64 ((w64 (v3 * v3)) + (w64 (v5 * v5)))
def b_k_recordRadius_4 (F : Nat) (C4_0 : Mo) (v1 v3 : Int) : Option ((Int × Int) ⊕ (Int)) :=
  if v3 < C4_0 0 2 then
    if 0 ≤ v3 ∧ v3 < 32 then
      if 0 ≤ v3 ∧ v3 < 32 then
        lt (k_pwFinal C4_0 (C4_0 1 v3.toNat) (C4_0 2 v3.toNat)) fun v4 =>
        if v4 ≤ v1 then
          some (Sum.inl ((v1, w32 (v3 + 1))))
        else
          some (Sum.inl ((v4, w32 (v3 + 1))))
      else none
    else none
  else
    some (Sum.inr v1)
def i_k_recordRadius_93 (F : Nat) (O0 : Mo) (c56_1 v3 v4 s0 : Int) : Option ((Int × Int × Mo) ⊕ ((Int × Mo))) :=
  if 0 ≤ v4 ∧ v4 < 32 then
    if s0 = 0 then
      some (Sum.inl ((v3, w32 (v4 + 1), (upd O0 4 (v4.toNat) (s0 % 2)))))
    else
      some (Sum.inl ((w32 (v3 + 1), w32 (v4 + 1), (upd O0 4 (v4.toNat) (s0 % 2)))))
  else none
def b_k_recordRadius_56 (F : Nat) (c56_1 : Int) (v3 v4 : Int) (O0 : Mo) : Option ((Int × Int × Mo) ⊕ ((Int × Mo))) :=
  if v4 < O0 0 2 then
    if 0 ≤ v4 ∧ v4 < 32 then
      if 0 ≤ v4 ∧ v4 < 32 then
        if k_pwFinal O0 (O0 1 v4.toNat) (O0 2 v4.toNat) = c56_1 then
          i_k_recordRadius_93 F O0 c56_1 v3 v4 1
        else
          i_k_recordRadius_93 F O0 c56_1 v3 v4 0
      else none
    else none
  else
    some (Sum.inr ((v3, O0)))
def k_recordRadius (F : Nat) (O0 : Mo) : Option Mo :=
  (loop (fun s => b_k_recordRadius_4 F O0 s.1 s.2) F ((0, 0))).bind fun r =>
  (loop (fun s => b_k_recordRadius_56 F r s.1 s.2.1 s.2.2) F ((0, 0, (upd O0 0 7 r)))).bind fun r_1 =>
  some ((upd r_1.2 0 9 r_1.1))
def b_k_computeKind_47 (F : Nat) (O0 : Mo) (c47_1 c47_3 c47_5 : Int) (v6 : Int) : Option (Int ⊕ (Unit ⊕ Int)) :=
  if v6 < O0 0 2 then
    if 0 ≤ c47_5 ∧ c47_5 < 32 then
      if 0 ≤ v6 ∧ v6 < 32 then
        lt (w64 ((w64 ((O0 1 c47_5.toNat) + (O0 1 v6.toNat))) * (O0 0 6))) fun v7 =>
        if 0 ≤ c47_5 ∧ c47_5 < 32 then
          if 0 ≤ v6 ∧ v6 < 32 then
            lt (w64 ((w64 ((O0 2 c47_5.toNat) + (O0 2 v6.toNat))) * (O0 0 6))) fun v9 =>
            if v7 = c47_1 then
              if v9 = c47_3 then
                some (Sum.inr (Sum.inr 2))
              else
                some (Sum.inl (w32 (v6 + 1)))
            else
              some (Sum.inl (w32 (v6 + 1)))
          else none
        else none
      else none
    else none
  else
    some (Sum.inr (Sum.inl (())))
def b_k_computeKind_32 (F : Nat) (O0 : Mo) (c32_1 c32_3 : Int) (v5 : Int) : Option (Int ⊕ (Unit ⊕ Int)) :=
  if v5 < O0 0 2 then
    (loop (fun s => b_k_computeKind_47 F O0 c32_1 c32_3 v5 s) F (w32 (v5 + 1))).bind fun r_1 =>
    Sum.elim (fun r_2 =>
      some (Sum.inl (w32 (v5 + 1))))
      (fun r_3 =>
      some (Sum.inr (Sum.inr r_3))) r_1
  else
    some (Sum.inr (Sum.inr 3))
def k_computeKind (F : Nat) (O0 : Mo) : Option Int :=
  if O0 0 7 = 0 then
    some 1
  else
    (loop (fun s => b_k_computeKind_32 F O0 (w64 (2 * (O0 0 4))) (w64 (2 * (O0 0 5))) s) F 0).bind fun r =>
    Sum.elim (fun r_1 =>
      some 2)
      (fun r_2 =>
      some r_2) r
def j_k_finishDisk_55 (F : Nat) (O0 : Mo) (v3 : Int) : Option Mo :=
  if v3 = 0 then none else
  if v3 = 0 then none else
  (k_recordRadius F ((upd (upd O0 0 4 (w64 (Int.tdiv (O0 0 10) v3))) 0 5 (w64 (Int.tdiv (O0 0 11) v3))))).bind fun r =>
  (k_computeKind F r).bind fun r_1 =>
  some ((upd r 0 8 r_1))
def j_k_finishDisk_31 (F : Nat) (O0 : Mo) (v3 : Int) : Option Mo :=
  if v3 = 0 then none else
  if 0 < w64 (Int.tdiv (O0 0 12) v3) then
    j_k_finishDisk_55 F ((upd O0 0 6 (w64 (Int.tdiv (O0 0 12) v3)))) v3
  else
    j_k_finishDisk_55 F ((upd (upd O0 0 6 (w64 (Int.tdiv (O0 0 12) v3))) 0 6 1)) v3
def k_finishDisk (F : Nat) (O0 : Mo) : Option Mo :=
  (k_gcd F (O0 0 10) (O0 0 11)).bind fun r =>
  (k_gcd F r (O0 0 12)).bind fun r_1 =>
  if 0 < r_1 then
    j_k_finishDisk_31 F O0 r_1
  else
    j_k_finishDisk_31 F O0 1
def k_solve (F : Nat) (O0 : Mo) : Option (Int × Mo) :=
  if 0 < O0 0 2 then
    if O0 0 3 = 0 then
      (k_shuffle F O0).bind fun r =>
      (k_runIncremental F r).bind fun r_1 =>
      (k_finishDisk F r_1).bind fun r_2 =>
      some ((r_2 0 9, (upd r_2 0 3 1)))
    else
      some ((O0 0 9, O0))
  else
    some (((-1), O0))
def k_isSolved (O0 : Mo) : Int :=
  (O0 0 3) % 2
def k_centreXNum (O0 : Mo) : Int :=
  if O0 0 3 = 0 then
    0
  else
    O0 0 4
def k_centreYNum (O0 : Mo) : Int :=
  if O0 0 3 = 0 then
    0
  else
    O0 0 5
def k_centreDen (O0 : Mo) : Int :=
  if O0 0 3 = 0 then
    0
  else
    O0 0 6
def k_radiusSqNum (O0 : Mo) : Int :=
  if O0 0 3 = 0 then
    0
  else
    O0 0 7
def k_kind (O0 : Mo) : Int :=
  if O0 0 3 = 0 then
    0
  else
    O0 0 8
def k_boundaryCount (O0 : Mo) : Int :=
  if O0 0 3 = 0 then
    0
  else
    O0 0 9
def j_u_law_44 (F : Nat) (O0 : Mo) (v0 v1 s0 : Int) : Option Int :=
  (k_addPoint F O0 v0 v1).bind fun r =>
  (k_solve F r.2).bind fun r_1 =>
  if s0 = 0 then
    if r.1 = (-1) then
      if r_1.1 = (-1) then
        if k_isSolved r_1.2 = 0 then
          if k_centreXNum r_1.2 = 0 then
            if k_centreYNum r_1.2 = 0 then
              if k_centreDen r_1.2 = 0 then
                if k_radiusSqNum r_1.2 = 0 then
                  if k_kind r_1.2 = 0 then
                    if k_boundaryCount r_1.2 = 0 then
                      some 1
                    else
                      some 0
                  else
                    some 0
                else
                  some 0
              else
                some 0
            else
              some 0
          else
            some 0
        else
          some 0
      else
        some 0
    else
      some 0
  else
    if r.1 = 0 then
      if r_1.1 = 1 then
        if k_isSolved r_1.2 = 0 then
          some 0
        else
          if k_centreXNum r_1.2 = v0 then
            if k_centreYNum r_1.2 = v1 then
              if k_centreDen r_1.2 = 1 then
                if k_radiusSqNum r_1.2 = 0 then
                  if k_kind r_1.2 = 1 then
                    if k_boundaryCount r_1.2 = 1 then
                      some 1
                    else
                      some 0
                  else
                    some 0
                else
                  some 0
              else
                some 0
            else
              some 0
          else
            some 0
      else
        some 0
    else
      some 0
def u_law (F : Nat) (v0 v1 v2 v3 : Int) : Option Int :=
  (k_ctor F v2 v3).bind fun r =>
  if v0 < (-255) then
    j_u_law_44 F r v0 v1 0
  else
    if 255 < v0 then
      j_u_law_44 F r v0 v1 0
    else
      if v1 < (-255) then
        j_u_law_44 F r v0 v1 0
      else
        if 255 < v1 then
          j_u_law_44 F r v0 v1 0
        else
          j_u_law_44 F r v0 v1 1
end Jvm.Own

namespace Jvm.Own
theorem t32 {x : Int} (h1 : -2147483648 ≤ x) (h2 : x < 2147483648) : w32 x = x := Int.bmod_eq_of_le (by omega) (by omega)
theorem t64 {x : Int} (h1 : -9223372036854775808 ≤ x) (h2 : x < 9223372036854775808) : w64 x = x := Int.bmod_eq_of_le (by omega) (by omega)
theorem t8 {x : Int} (h1 : -128 ≤ x) (h2 : x < 128) : w8 x = x := Int.bmod_eq_of_le (by omega) (by omega)
theorem w32_ge (x : Int) : -2147483648 ≤ w32 x := by have := Int.le_bmod (x := x) (m := 4294967296) (by decide); simpa [w32] using this
theorem w32_lt (x : Int) : w32 x < 2147483648 := by have := Int.bmod_lt (x := x) (m := 4294967296) (by decide); simpa [w32] using this
theorem loop_inl {σ ρ : Type} {body : σ → Option (σ ⊕ ρ)} {n : Nat} {s s' : σ} (h : body s = some (Sum.inl s')) : loop body (n + 1) s = loop body n s' := by simp [loop, h]
theorem loop_inr {σ ρ : Type} {body : σ → Option (σ ⊕ ρ)} {n : Nat} {s : σ} {r : ρ} (h : body s = some (Sum.inr r)) : loop body (n + 1) s = some r := by simp [loop, h]
theorem lp_spec {σ ρ : Type} {body : σ → Option (σ ⊕ ρ)} (Inv : σ → Prop) (μ : σ → Nat) (Post : ρ → Prop)
    (h : ∀ s, Inv s → ∃ x, body s = some x ∧ Sum.elim (fun s' => Inv s' ∧ μ s' < μ s) Post x) : ∀ n s, Inv s → μ s < n → ∃ r, loop body n s = some r ∧ Post r
  | 0, s, _, hn => absurd hn (Nat.not_lt_zero _)
  | n + 1, s, hi, hn => by
    obtain ⟨x, hx, hr⟩ := h s hi
    cases x with
    | inl s' =>
      have hr' : Inv s' ∧ μ s' < μ s := hr
      obtain ⟨r, e, p⟩ := lp_spec Inv μ Post h n s' hr'.1 (by have := hr'.2; omega)
      exact ⟨r, by simp [loop, hx, e], p⟩
    | inr r => exact ⟨r, by simp [loop, hx], hr⟩
theorem lp_one {σ ρ : Type} {body : σ → Option (σ ⊕ ρ)} {F : Nat} {s : σ} {r : ρ} (hF : 0 < F) (h : body s = some (Sum.inr r)) : loop body F s = some r := by
  cases F with
  | zero => omega
  | succ n => exact loop_inr h
theorem lp_iter_from {σ ρ : Type} {body : σ → Option (σ ⊕ ρ)} (g : Nat → σ) (N : Nat) (r : ρ) (hs : ∀ k, k < N → body (g k) = some (Sum.inl (g (k + 1)))) (he : body (g N) = some (Sum.inr r)) :
    ∀ F k, k ≤ N → N - k < F → loop body F (g k) = some r
  | 0, k, _, h => by omega
  | F + 1, k, hk, h => by
    by_cases e : k = N
    · subst e; exact loop_inr he
    · rw [loop_inl (hs k (by omega))]
      exact lp_iter_from g N r hs he F (k + 1) (by omega) (by omega)
theorem lp_iter {σ ρ : Type} {body : σ → Option (σ ⊕ ρ)} (g : Nat → σ) (N : Nat) (r : ρ) (hs : ∀ k, k < N → body (g k) = some (Sum.inl (g (k + 1)))) (he : body (g N) = some (Sum.inr r)) {F : Nat} (hF : N < F) :
    loop body F (g 0) = some r := lp_iter_from g N r hs he F 0 (by omega) (by omega)
theorem lp_fill {body : Int × Mo → Option ((Int × Mo) ⊕ Mo)} (N : Nat) (Q : Nat → Mo → Prop)
    (hs : ∀ (k : Nat) (O : Mo), k < N → Q k O → ∃ O', body ((k : Int), O) = some (Sum.inl (((k + 1 : Nat) : Int), O')) ∧ Q (k + 1) O') (he : ∀ O, Q N O → body ((N : Int), O) = some (Sum.inr O))
    {F : Nat} (hF : N < F) {O : Mo} (h0 : Q 0 O) : ∃ R, loop body F ((0 : Int), O) = some R ∧ Q N R :=
  lp_spec (body := body) (fun s => ∃ k : Nat, k ≤ N ∧ s.1 = (k : Int) ∧ Q k s.2) (fun s => N - s.1.toNat) (Q N)
    (by
      rintro ⟨i, R⟩ ⟨k, hk, h1, h2⟩
      dsimp only at h1 h2
      subst h1
      by_cases h : k < N
      · obtain ⟨O', e, q⟩ := hs k R h h2
        refine ⟨_, e, ⟨k + 1, by omega, rfl, q⟩, ?_⟩
        dsimp only; omega
      · have : k = N := by omega
        subst this
        exact ⟨_, he R h2, h2⟩) F (0, O) ⟨0, by omega, rfl, h0⟩ (by dsimp only; omega)
theorem t32s {k : Nat} (h : k < 2147483647) : w32 ((k : Int) + 1) = ((k + 1 : Nat) : Int) := by rw [t32 (by omega) (by omega)]; omega
end Jvm.Own

--USES Tools.lean
namespace Jvm.Own
theorem t64r {x : Int} (h1 : -2000000000 ≤ x) (h2 : x < 2000000000) : w64 x = x := t64 (by omega) (by omega)
theorem absL_eq (a : Int) (ha : -1000 ≤ a ∧ a ≤ 1000) : k_absL a = (a.natAbs : Int) := by
  simp only [k_absL]; split
  · rw [t64r (by omega) (by omega)]; omega
  · omega
theorem gcd_pos {F : Nat} (hF : 300 < F) (a b : Int) (ha : -1000 ≤ a ∧ a ≤ 1000) (hb : -1000 ≤ b ∧ b ≤ 1000) :
    ∃ g, k_gcd F a b = some g ∧ 0 ≤ g ∧ g ≤ 1000 ∧ (b = 0 → g = a.natAbs) ∧ (b = 1 → g = 1) := by
  have h1 := absL_eq a ha
  have h2 := absL_eq b hb
  by_cases h0 : b = 0
  · subst h0
    refine ⟨(a.natAbs : Int), ?_, by omega, by omega, fun _ => rfl, fun h => by omega⟩
    simp only [k_gcd, h1, h2]
    rw [lp_one (by omega) (r := (a.natAbs : Int)) (by simp [b_k_gcd_17])]; rfl
  · obtain ⟨r, e, p⟩ := lp_spec (body := fun s : Int × Int × Int => b_k_gcd_17 F s.1 s.2.1 s.2.2)
      (fun s => 0 ≤ s.1 ∧ s.1 ≤ 1000 ∧ 0 ≤ s.2.1 ∧ s.2.1 ≤ 1000 ∧ 0 ≤ s.2.2 ∧ s.2.2 ≤ 200 ∧ (s.2.2 = 0 ∧ s.2.1 = b.natAbs ∨ b = 1 → s.2.2 = 0 ∧ s.2.1 = 1 ∨ s.2.1 = 0 ∧ s.1 = 1 ∨ b ≠ 1))
      (fun s => (200 - s.2.2).toNat) (fun g => 0 ≤ g ∧ g ≤ 1000 ∧ (b = 1 → g = 1))
      (by
        rintro ⟨x, y, k⟩ ⟨x0, x1, y0, y1, k0, k1, hk⟩
        dsimp only at *
        simp only [b_k_gcd_17]
        by_cases c : k < 200
        · rw [if_pos c]
          by_cases y' : y = 0
          · rw [if_pos y']
            refine ⟨_, rfl, x0, x1, fun hb1 => ?_⟩
            have := hk (Or.inr hb1); omega
          · rw [if_neg y', if_neg y']
            have m0 : 0 ≤ Int.tmod x y := Int.tmod_nonneg _ x0
            have m1 : Int.tmod x y < y := Int.tmod_lt_of_pos _ (by omega)
            rw [t64r (by omega) (by omega), t32 (by omega) (by omega)]
            refine ⟨_, rfl, ⟨by dsimp only; omega, by dsimp only; omega, by dsimp only; omega, by dsimp only; omega, by dsimp only; omega, by dsimp only; omega, ?_⟩, by dsimp only; omega⟩
            dsimp only
            intro hh
            by_cases b1 : b = 1
            · have := hk (Or.inr b1)
              have : y = 1 := by omega
              subst this
              right; left; constructor
              · omega
              · rfl
            · right; right; exact b1
        · rw [if_neg c]
          refine ⟨_, rfl, x0, x1, fun hb1 => ?_⟩
          have := hk (Or.inr hb1); omega) F (k_absL a, k_absL b, 0)
      (by dsimp only; rw [h1, h2]; refine ⟨by omega, by omega, by omega, by omega, by omega, by omega, fun _ => ?_⟩
          by_cases b1 : b = 1
          · left; subst b1; exact ⟨rfl, rfl⟩
          · right; right; exact b1) (by dsimp only; omega)
    refine ⟨r, ?_, p.1, p.2.1, fun h => absurd h h0, p.2.2⟩
    simp only [k_gcd]; rw [e]; rfl
theorem u_law_ok {v0 v1 v2 v3 : Int} (_ : R32 v0) (_ : R32 v1) (_ : R32 v2) (_ : R32 v3) : u_law 1000 v0 v1 v2 v3 = some 1 := by
  obtain ⟨r, h1, h2, h3, h4⟩ : ∃ r, k_ctor 1000 v2 v3 = some r ∧ 8 ≤ r 0 0 ∧ r 0 2 = 0 ∧ r 0 3 = 0 := by
    simp only [k_ctor, j_k_ctor_47, j_k_ctor_56, j_k_ctor_68, j_k_ctor_79]
    repeat' split
    all_goals refine ⟨_, rfl, ?_, ?_, ?_⟩ <;> simp [upd] <;> omega
  by_cases hr : v0 < -255 ∨ 255 < v0 ∨ v1 < -255 ∨ 255 < v1
  · have hin : k_inRange v0 v1 = 0 := by
      simp only [k_inRange]; repeat' split
      all_goals first | rfl | (exfalso; omega)
    have k : j_u_law_44 1000 r v0 v1 0 = some 1 := by
      simp [j_u_law_44, k_addPoint, hin, k_solve, h3, k_isSolved, h4, k_centreXNum, k_centreYNum, k_centreDen, k_radiusSqNum, k_kind, k_boundaryCount]
    simp only [u_law, h1, Option.bind_some]
    repeat' split
    all_goals first | (exfalso; omega) | exact k
  · have hin : k_inRange v0 v1 = 1 := by
      simp only [k_inRange]; repeat' split
      all_goals first | rfl | (exfalso; omega)
    have a : k_addPoint 1000 r v0 v1 = some (0, upd (upd (upd (upd r 1 0 v0) 2 0 v1) 0 2 1) 0 3 0) := by
      have l : loop (fun s => b_k_addPoint_26 1000 r v0 v1 s) 1000 0 = some (Sum.inl ()) := lp_one (by omega) (by simp [b_k_addPoint_26, h3])
      simp only [k_addPoint, hin, h3, l, Option.bind_some]
      rw [if_neg (by decide), if_pos (by omega)]
      rfl
    generalize hA : upd (upd (upd (upd r 1 0 v0) 2 0 v1) 0 2 1) 0 3 0 = A at a
    have a1 : A 0 2 = 1 := by rw [← hA]; rfl
    have a2 : A 1 0 = v0 := by rw [← hA]; rfl
    have a3 : A 2 0 = v1 := by rw [← hA]; rfl
    have a4 : A 0 3 = 0 := by rw [← hA]; rfl
    clear hA
    have s1 : k_shuffle 1000 A = some (upd A 3 0 0) := by
      have l : loop (fun s => b_k_shuffle_2 1000 s.1 s.2) 1000 ((0, A)) = some (upd A 3 0 0) := by
        refine lp_iter (body := fun s : Int × Mo => b_k_shuffle_2 1000 s.1 s.2) (fun k => if k = 0 then (0, A) else (1, upd A 3 0 0)) 1 _ ?_ ?_ (by omega)
        · intro k hk
          have : k = 0 := by omega
          subst this
          simp only [↓reduceIte, b_k_shuffle_2, a1]
          rw [if_pos (by omega), if_pos (by omega)]; rfl
        · show b_k_shuffle_2 1000 1 (upd A 3 0 0) = _
          have : upd A 3 0 0 0 2 = 1 := a1
          simp only [b_k_shuffle_2, this]; rw [if_neg (by omega)]
      have : upd A 3 0 0 0 2 = 1 := a1
      simp only [k_shuffle, l, Option.bind_some, this]
      rw [if_pos (by decide)]
    generalize hB : upd A 3 0 0 = B at s1
    have b1 : B 0 2 = 1 := by rw [← hB]; exact a1
    have b2 : B 1 0 = v0 := by rw [← hB]; exact a2
    have b3 : B 2 0 = v1 := by rw [← hB]; exact a3
    have b4 : B 3 0 = 0 := by rw [← hB]; rfl
    clear hB
    have s2 : k_runIncremental 1000 B = some (upd (upd (upd (upd B 0 10 v0) 0 11 v1) 0 12 1) 0 13 0) := by
      have : k_setPoint 1000 B 0 = some (upd (upd (upd (upd B 0 10 v0) 0 11 v1) 0 12 1) 0 13 0) := by
        simp [k_setPoint, b2, upd, b3]
      simp only [k_runIncremental, b4, this, Option.bind_some]
      rw [if_neg (by simp [upd, b1])]
    generalize hC : upd (upd (upd (upd B 0 10 v0) 0 11 v1) 0 12 1) 0 13 0 = C at s2
    have c1 : C 0 2 = 1 := by rw [← hC]; exact b1
    have c2 : C 1 0 = v0 := by rw [← hC]; exact b2
    have c3 : C 2 0 = v1 := by rw [← hC]; exact b3
    have c4 : C 0 10 = v0 := by rw [← hC]; rfl
    have c5 : C 0 11 = v1 := by rw [← hC]; rfl
    have c6 : C 0 12 = 1 := by rw [← hC]; rfl
    clear hC
    obtain ⟨g, g1, g2, g3, _, _⟩ := gcd_pos (F := 1000) (by omega) v0 v1 (by omega) (by omega)
    obtain ⟨g', g1', _, _, _, g4'⟩ := gcd_pos (F := 1000) (by omega) g 1 (by omega) (by omega)
    have g5 := g4' rfl
    subst g5
    let D : Mo := upd (upd (upd C 0 6 1) 0 4 v0) 0 5 v1
    have pw : ∀ Q : Mo, Q 0 6 = 1 → Q 0 4 = v0 → Q 0 5 = v1 → k_pwFinal Q v0 v1 = 0 := by
      intro Q q1 q2 q3
      simp only [k_pwFinal, lt, q1, q2, q3, Int.mul_one]
      rw [t64r (x := v0) (by omega) (by omega), t64r (x := v1) (by omega) (by omega), Int.sub_self, Int.sub_self]; rfl
    have rr : k_recordRadius 1000 D = some (upd (upd (upd D 0 7 0) 4 0 1) 0 9 1) := by
      have d1 : D 0 2 = 1 := c1
      have d2 : D 1 0 = v0 := c2
      have d3 : D 2 0 = v1 := c3
      have l1 : loop (fun s => b_k_recordRadius_4 1000 D s.1 s.2) 1000 ((0, 0)) = some 0 := by
        refine lp_iter (body := fun s : Int × Int => b_k_recordRadius_4 1000 D s.1 s.2) (fun k => if k = 0 then (0, 0) else (0, 1)) 1 _ ?_ ?_ (by omega)
        · intro k hk
          have : k = 0 := by omega
          subst this
          have e0 : (0 : Int).toNat = 0 := rfl
          simp only [↓reduceIte, b_k_recordRadius_4, d1, e0, d2, d3, pw D rfl rfl rfl, lt]
          rw [if_pos (by omega), if_pos (by omega), if_pos (by omega), if_pos (by omega)]; rfl
        · show b_k_recordRadius_4 1000 D 0 1 = _
          simp only [b_k_recordRadius_4, d1]; rw [if_neg (by omega)]
      have l2 : loop (fun s => b_k_recordRadius_56 1000 0 s.1 s.2.1 s.2.2) 1000 ((0, 0, (upd D 0 7 0))) = some (1, upd (upd D 0 7 0) 4 0 1) := by
        refine lp_iter (body := fun s : Int × Int × Mo => b_k_recordRadius_56 1000 0 s.1 s.2.1 s.2.2) (fun k => if k = 0 then (0, 0, (upd D 0 7 0)) else (1, 1, upd (upd D 0 7 0) 4 0 1)) 1 _ ?_ ?_ (by omega)
        · intro k hk
          have : k = 0 := by omega
          subst this
          have e0 : (0 : Int).toNat = 0 := rfl
          have f1 : upd D 0 7 0 0 2 = 1 := d1
          have f2 : upd D 0 7 0 1 0 = v0 := d2
          have f3 : upd D 0 7 0 2 0 = v1 := d3
          simp only [↓reduceIte, b_k_recordRadius_56, f1, e0, f2, f3, pw (upd D 0 7 0) rfl rfl rfl, i_k_recordRadius_93]
          rw [if_pos (by omega), if_pos (by omega), if_pos (by omega)]; rfl
        · show b_k_recordRadius_56 1000 0 1 1 (upd (upd D 0 7 0) 4 0 1) = _
          have f1 : upd (upd D 0 7 0) 4 0 1 0 2 = 1 := d1
          simp only [b_k_recordRadius_56, f1]; rw [if_neg (by omega)]
      simp only [k_recordRadius, l1, l2, Option.bind_some]
    have fd : k_finishDisk 1000 C = some (upd (upd (upd (upd D 0 7 0) 4 0 1) 0 9 1) 0 8 1) := by
      have q0 : w64 (Int.tdiv 1 1) = 1 := rfl
      have q1 : w64 (Int.tdiv v0 1) = v0 := by rw [Int.tdiv_one]; exact t64r (by omega) (by omega)
      have q2 : w64 (Int.tdiv v1 1) = v1 := by rw [Int.tdiv_one]; exact t64r (by omega) (by omega)
      have m1 : upd C 0 6 1 0 10 = v0 := c4
      have m2 : upd C 0 6 1 0 11 = v1 := c5
      have ck : k_computeKind 1000 (upd (upd (upd D 0 7 0) 4 0 1) 0 9 1) = some 1 := by
        simp only [k_computeKind]; exact if_pos (show upd (upd (upd D 0 7 0) 4 0 1) 0 9 1 0 7 = 0 from rfl)
      simp only [k_finishDisk, c4, c5, c6, g1, g1', Option.bind_some]
      rw [if_pos (by omega)]
      simp only [j_k_finishDisk_31, c6, q0]
      rw [if_neg (by omega), if_pos (by omega)]
      simp only [j_k_finishDisk_55, m1, m2, q1, q2]
      rw [if_neg (by omega)]
      show (k_recordRadius 1000 D).bind _ = _
      rw [rr]
      simp only [Option.bind_some, ck]
    generalize hE : upd (upd (upd (upd D 0 7 0) 4 0 1) 0 9 1) 0 8 1 = E at fd
    have e4 : E 0 4 = v0 := by rw [← hE]; rfl
    have e5 : E 0 5 = v1 := by rw [← hE]; rfl
    have e6 : E 0 6 = 1 := by rw [← hE]; rfl
    have e7 : E 0 7 = 0 := by rw [← hE]; rfl
    have e8 : E 0 8 = 1 := by rw [← hE]; rfl
    have e9 : E 0 9 = 1 := by rw [← hE]; rfl
    clear hE rr pw
    have so : k_solve 1000 A = some (1, upd E 0 3 1) := by
      simp only [k_solve, a1, a4, s1, s2, fd, Option.bind_some, e9]; rfl
    have k : j_u_law_44 1000 r v0 v1 1 = some 1 := by
      simp [j_u_law_44, a, so, k_isSolved, k_centreXNum, k_centreYNum, k_centreDen, k_radiusSqNum, k_kind, k_boundaryCount, upd, e4, e5, e6, e7, e8, e9]
    simp only [u_law, h1, Option.bind_some]
    repeat' split
    all_goals first | (exfalso; omega) | exact k
end Jvm.Own

namespace Jvm.Pilot.@@N@@
open Jvm Jvm.ClassFile Sem Op Lib Jvm.Free Jvm.Stand Jvm.LawKit Jvm.RoadKit Bundle Jvm.Pilot.@@N@@.Jvm.D
open Jvm.Own
def D : Cls := ("MinCircle", [(0, "cap", "I", .int), (1, "rng", "I", .int), (2, "n", "I", .int), (3, "solved", "Z", .boolean), (4, "cxNum", "J", .long), (5, "cyNum", "J", .long), (6, "den", "J", .long), (7, "rNum", "J", .long), (8, "kindV", "I", .int), (9, "bCount", "I", .int), (10, "tnx", "J", .long), (11, "tny", "J", .long), (12, "td", "J", .long), (13, "trr", "J", .long)], [("xs", "[I", .int, 32), ("ys", "[I", .int, 32), ("order", "[I", .int, 32), ("onB", "[Z", .boolean, 32)])
theorem D_C : D.C = "MinCircle" := rfl
theorem xc : x.cls = "MinCircleL2" := rfl
theorem fs_cap : (0, "cap", "I", (.int : FieldType)) ∈ D.FS := List.mem_of_getElem? (i := 0) rfl
theorem fs_rng : (1, "rng", "I", (.int : FieldType)) ∈ D.FS := List.mem_of_getElem? (i := 1) rfl
theorem fs_n : (2, "n", "I", (.int : FieldType)) ∈ D.FS := List.mem_of_getElem? (i := 2) rfl
theorem fs_solved : (3, "solved", "Z", (.boolean : FieldType)) ∈ D.FS := List.mem_of_getElem? (i := 3) rfl
theorem fs_cxNum : (4, "cxNum", "J", (.long : FieldType)) ∈ D.FS := List.mem_of_getElem? (i := 4) rfl
theorem fs_cyNum : (5, "cyNum", "J", (.long : FieldType)) ∈ D.FS := List.mem_of_getElem? (i := 5) rfl
theorem fs_den : (6, "den", "J", (.long : FieldType)) ∈ D.FS := List.mem_of_getElem? (i := 6) rfl
theorem fs_rNum : (7, "rNum", "J", (.long : FieldType)) ∈ D.FS := List.mem_of_getElem? (i := 7) rfl
theorem fs_kindV : (8, "kindV", "I", (.int : FieldType)) ∈ D.FS := List.mem_of_getElem? (i := 8) rfl
theorem fs_bCount : (9, "bCount", "I", (.int : FieldType)) ∈ D.FS := List.mem_of_getElem? (i := 9) rfl
theorem fs_tnx : (10, "tnx", "J", (.long : FieldType)) ∈ D.FS := List.mem_of_getElem? (i := 10) rfl
theorem fs_tny : (11, "tny", "J", (.long : FieldType)) ∈ D.FS := List.mem_of_getElem? (i := 11) rfl
theorem fs_td : (12, "td", "J", (.long : FieldType)) ∈ D.FS := List.mem_of_getElem? (i := 12) rfl
theorem fs_trr : (13, "trr", "J", (.long : FieldType)) ∈ D.FS := List.mem_of_getElem? (i := 13) rfl
theorem w_0 {Z : State} {a0 : Array Value} (hw : ∀ d ∈ tables_1, d.before a0 Z = true) : (Jvm.Cond.classLink "MinCircleL2" 7 "MinCircle").before a0 Z = true := hw _ (List.mem_of_getElem? (i := 0) rfl)
theorem w_1 {Z : State} {a0 : Array Value} (hw : ∀ d ∈ tables_1, d.before a0 Z = true) : (Jvm.Cond.instantiable "MinCircle" 18).before a0 Z = true := hw _ (List.mem_of_getElem? (i := 1) rfl)
theorem w_2 {Z : State} {a0 : Array Value} (hw : ∀ d ∈ tables_1, d.before a0 Z = true) : (Jvm.Cond.initialized "MinCircle").before a0 Z = true := hw _ (List.mem_of_getElem? (i := 2) rfl)
theorem w_3 {Z : State} {a0 : Array Value} (hw : ∀ d ∈ tables_1, d.before a0 Z = true) : (Jvm.Cond.methodLink "MinCircleL2" 9 ({ cls := "MinCircle", name := "<init>", desc := "(II)V" } : Jvm.MethodName)).before a0 Z = true := hw _ (List.mem_of_getElem? (i := 3) rfl)
theorem w_4 {Z : State} {a0 : Array Value} (hw : ∀ d ∈ tables_1, d.before a0 Z = true) : (Jvm.Cond.instanceMethod ({ cls := "MinCircle", name := "<init>", desc := "(II)V" } : Jvm.MethodName)).before a0 Z = true := hw _ (List.mem_of_getElem? (i := 4) rfl)
theorem w_5 {Z : State} {a0 : Array Value} (hw : ∀ d ∈ tables_1, d.before a0 Z = true) : (Jvm.Cond.code ({ cls := "MinCircle", name := "<init>", desc := "(II)V" } : Jvm.MethodName) prog_1_method_1_code 5 (Option.none : Option Jvm.ClassFile.FieldType)).before a0 Z = true := hw _ (List.mem_of_getElem? (i := 5) rfl)
theorem w_6 {Z : State} {a0 : Array Value} (hw : ∀ d ∈ tables_1, d.before a0 Z = true) : (Jvm.Cond.methodLink "MinCircle" 1 ({ cls := "java/lang/Object", name := "<init>", desc := "()V" } : Jvm.MethodName)).before a0 Z = true := hw _ (List.mem_of_getElem? (i := 6) rfl)
theorem w_7 {Z : State} {a0 : Array Value} (hw : ∀ d ∈ tables_1, d.before a0 Z = true) : (Jvm.Cond.instanceMethod ({ cls := "java/lang/Object", name := "<init>", desc := "()V" } : Jvm.MethodName)).before a0 Z = true := hw _ (List.mem_of_getElem? (i := 7) rfl)
theorem w_8 {Z : State} {a0 : Array Value} (hw : ∀ d ∈ tables_1, d.before a0 Z = true) : (Jvm.Cond.code ({ cls := "java/lang/Object", name := "<init>", desc := "()V" } : Jvm.MethodName) object_method_1_code 1 (Option.none : Option Jvm.ClassFile.FieldType)).before a0 Z = true := hw _ (List.mem_of_getElem? (i := 8) rfl)
theorem w_9 {Z : State} {a0 : Array Value} (hw : ∀ d ∈ tables_1, d.before a0 Z = true) : (Jvm.Cond.arrayClass Jvm.ClassFile.FieldType.int).before a0 Z = true := hw _ (List.mem_of_getElem? (i := 9) rfl)
theorem w_10 {Z : State} {a0 : Array Value} (hw : ∀ d ∈ tables_1, d.before a0 Z = true) : (Jvm.Cond.fieldLink "MinCircle" 7 "MinCircle" "xs" "[I").before a0 Z = true := hw _ (List.mem_of_getElem? (i := 10) rfl)
theorem w_11 {Z : State} {a0 : Array Value} (hw : ∀ d ∈ tables_1, d.before a0 Z = true) : (Jvm.Cond.lays "MinCircle" "MinCircle" "xs" "[I").before a0 Z = true := hw _ (List.mem_of_getElem? (i := 11) rfl)
theorem w_12 {Z : State} {a0 : Array Value} (hw : ∀ d ∈ tables_1, d.before a0 Z = true) : (Jvm.Cond.fieldLink "MinCircle" 13 "MinCircle" "ys" "[I").before a0 Z = true := hw _ (List.mem_of_getElem? (i := 12) rfl)
theorem w_13 {Z : State} {a0 : Array Value} (hw : ∀ d ∈ tables_1, d.before a0 Z = true) : (Jvm.Cond.lays "MinCircle" "MinCircle" "ys" "[I").before a0 Z = true := hw _ (List.mem_of_getElem? (i := 13) rfl)
theorem w_14 {Z : State} {a0 : Array Value} (hw : ∀ d ∈ tables_1, d.before a0 Z = true) : (Jvm.Cond.fieldLink "MinCircle" 16 "MinCircle" "order" "[I").before a0 Z = true := hw _ (List.mem_of_getElem? (i := 14) rfl)
theorem w_15 {Z : State} {a0 : Array Value} (hw : ∀ d ∈ tables_1, d.before a0 Z = true) : (Jvm.Cond.lays "MinCircle" "MinCircle" "order" "[I").before a0 Z = true := hw _ (List.mem_of_getElem? (i := 15) rfl)
theorem w_16 {Z : State} {a0 : Array Value} (hw : ∀ d ∈ tables_1, d.before a0 Z = true) : (Jvm.Cond.arrayClass Jvm.ClassFile.FieldType.boolean).before a0 Z = true := hw _ (List.mem_of_getElem? (i := 16) rfl)
theorem w_17 {Z : State} {a0 : Array Value} (hw : ∀ d ∈ tables_1, d.before a0 Z = true) : (Jvm.Cond.fieldLink "MinCircle" 19 "MinCircle" "onB" "[Z").before a0 Z = true := hw _ (List.mem_of_getElem? (i := 17) rfl)
theorem w_18 {Z : State} {a0 : Array Value} (hw : ∀ d ∈ tables_1, d.before a0 Z = true) : (Jvm.Cond.lays "MinCircle" "MinCircle" "onB" "[Z").before a0 Z = true := hw _ (List.mem_of_getElem? (i := 18) rfl)
theorem w_19 {Z : State} {a0 : Array Value} (hw : ∀ d ∈ tables_1, d.before a0 Z = true) : (Jvm.Cond.constant "MinCircle" 23 65535).before a0 Z = true := hw _ (List.mem_of_getElem? (i := 19) rfl)
theorem w_20 {Z : State} {a0 : Array Value} (hw : ∀ d ∈ tables_1, d.before a0 Z = true) : (Jvm.Cond.fieldLink "MinCircle" 24 "MinCircle" "cap" "I").before a0 Z = true := hw _ (List.mem_of_getElem? (i := 20) rfl)
theorem w_21 {Z : State} {a0 : Array Value} (hw : ∀ d ∈ tables_1, d.before a0 Z = true) : (Jvm.Cond.lays "MinCircle" "MinCircle" "cap" "I").before a0 Z = true := hw _ (List.mem_of_getElem? (i := 21) rfl)
theorem w_22 {Z : State} {a0 : Array Value} (hw : ∀ d ∈ tables_1, d.before a0 Z = true) : (Jvm.Cond.fieldLink "MinCircle" 28 "MinCircle" "rng" "I").before a0 Z = true := hw _ (List.mem_of_getElem? (i := 22) rfl)
theorem w_23 {Z : State} {a0 : Array Value} (hw : ∀ d ∈ tables_1, d.before a0 Z = true) : (Jvm.Cond.lays "MinCircle" "MinCircle" "rng" "I").before a0 Z = true := hw _ (List.mem_of_getElem? (i := 23) rfl)
theorem w_24 {Z : State} {a0 : Array Value} (hw : ∀ d ∈ tables_1, d.before a0 Z = true) : (Jvm.Cond.fieldLink "MinCircle" 31 "MinCircle" "n" "I").before a0 Z = true := hw _ (List.mem_of_getElem? (i := 24) rfl)
theorem w_25 {Z : State} {a0 : Array Value} (hw : ∀ d ∈ tables_1, d.before a0 Z = true) : (Jvm.Cond.lays "MinCircle" "MinCircle" "n" "I").before a0 Z = true := hw _ (List.mem_of_getElem? (i := 25) rfl)
theorem w_26 {Z : State} {a0 : Array Value} (hw : ∀ d ∈ tables_1, d.before a0 Z = true) : (Jvm.Cond.fieldLink "MinCircle" 34 "MinCircle" "solved" "Z").before a0 Z = true := hw _ (List.mem_of_getElem? (i := 26) rfl)
theorem w_27 {Z : State} {a0 : Array Value} (hw : ∀ d ∈ tables_1, d.before a0 Z = true) : (Jvm.Cond.lays "MinCircle" "MinCircle" "solved" "Z").before a0 Z = true := hw _ (List.mem_of_getElem? (i := 27) rfl)
theorem w_28 {Z : State} {a0 : Array Value} (hw : ∀ d ∈ tables_1, d.before a0 Z = true) : (Jvm.Cond.fieldLink "MinCircle" 38 "MinCircle" "td" "J").before a0 Z = true := hw _ (List.mem_of_getElem? (i := 28) rfl)
theorem w_29 {Z : State} {a0 : Array Value} (hw : ∀ d ∈ tables_1, d.before a0 Z = true) : (Jvm.Cond.lays "MinCircle" "MinCircle" "td" "J").before a0 Z = true := hw _ (List.mem_of_getElem? (i := 29) rfl)
theorem w_30 {Z : State} {a0 : Array Value} (hw : ∀ d ∈ tables_1, d.before a0 Z = true) : (Jvm.Cond.methodLink "MinCircleL2" 12 ({ cls := "MinCircle", name := "addPoint", desc := "(II)I" } : Jvm.MethodName)).before a0 Z = true := hw _ (List.mem_of_getElem? (i := 30) rfl)
theorem w_31 {Z : State} {a0 : Array Value} (hw : ∀ d ∈ tables_1, d.before a0 Z = true) : (Jvm.Cond.declares ({ cls := "MinCircle", name := "addPoint", desc := "(II)I" } : Jvm.MethodName)).before a0 Z = true := hw _ (List.mem_of_getElem? (i := 31) rfl)
theorem w_32 {Z : State} {a0 : Array Value} (hw : ∀ d ∈ tables_1, d.before a0 Z = true) : (Jvm.Cond.instanceMethod ({ cls := "MinCircle", name := "addPoint", desc := "(II)I" } : Jvm.MethodName)).before a0 Z = true := hw _ (List.mem_of_getElem? (i := 32) rfl)
theorem w_33 {Z : State} {a0 : Array Value} (hw : ∀ d ∈ tables_1, d.before a0 Z = true) : (Jvm.Cond.selects "MinCircle" ({ cls := "MinCircle", name := "addPoint", desc := "(II)I" } : Jvm.MethodName) ({ cls := "MinCircle", name := "addPoint", desc := "(II)I" } : Jvm.MethodName)).before a0 Z = true := hw _ (List.mem_of_getElem? (i := 33) rfl)
theorem w_34 {Z : State} {a0 : Array Value} (hw : ∀ d ∈ tables_1, d.before a0 Z = true) : (Jvm.Cond.code ({ cls := "MinCircle", name := "addPoint", desc := "(II)I" } : Jvm.MethodName) prog_1_method_2_code 4 (Option.some Jvm.ClassFile.FieldType.int)).before a0 Z = true := hw _ (List.mem_of_getElem? (i := 34) rfl)
theorem w_35 {Z : State} {a0 : Array Value} (hw : ∀ d ∈ tables_1, d.before a0 Z = true) : (Jvm.Cond.methodLink "MinCircle" 42 ({ cls := "MinCircle", name := "inRange", desc := "(II)Z" } : Jvm.MethodName)).before a0 Z = true := hw _ (List.mem_of_getElem? (i := 35) rfl)
theorem w_36 {Z : State} {a0 : Array Value} (hw : ∀ d ∈ tables_1, d.before a0 Z = true) : (Jvm.Cond.instanceMethod ({ cls := "MinCircle", name := "inRange", desc := "(II)Z" } : Jvm.MethodName)).before a0 Z = true := hw _ (List.mem_of_getElem? (i := 36) rfl)
theorem w_37 {Z : State} {a0 : Array Value} (hw : ∀ d ∈ tables_1, d.before a0 Z = true) : (Jvm.Cond.privateMethod ({ cls := "MinCircle", name := "inRange", desc := "(II)Z" } : Jvm.MethodName)).before a0 Z = true := hw _ (List.mem_of_getElem? (i := 37) rfl)
theorem w_38 {Z : State} {a0 : Array Value} (hw : ∀ d ∈ tables_1, d.before a0 Z = true) : (Jvm.Cond.code ({ cls := "MinCircle", name := "inRange", desc := "(II)Z" } : Jvm.MethodName) prog_1_method_18_code 3 (Option.some Jvm.ClassFile.FieldType.boolean)).before a0 Z = true := hw _ (List.mem_of_getElem? (i := 38) rfl)
theorem w_39 {Z : State} {a0 : Array Value} (hw : ∀ d ∈ tables_1, d.before a0 Z = true) : (Jvm.Cond.methodLink "MinCircleL2" 16 ({ cls := "MinCircle", name := "solve", desc := "()I" } : Jvm.MethodName)).before a0 Z = true := hw _ (List.mem_of_getElem? (i := 39) rfl)
theorem w_40 {Z : State} {a0 : Array Value} (hw : ∀ d ∈ tables_1, d.before a0 Z = true) : (Jvm.Cond.declares ({ cls := "MinCircle", name := "solve", desc := "()I" } : Jvm.MethodName)).before a0 Z = true := hw _ (List.mem_of_getElem? (i := 40) rfl)
theorem w_41 {Z : State} {a0 : Array Value} (hw : ∀ d ∈ tables_1, d.before a0 Z = true) : (Jvm.Cond.instanceMethod ({ cls := "MinCircle", name := "solve", desc := "()I" } : Jvm.MethodName)).before a0 Z = true := hw _ (List.mem_of_getElem? (i := 41) rfl)
theorem w_42 {Z : State} {a0 : Array Value} (hw : ∀ d ∈ tables_1, d.before a0 Z = true) : (Jvm.Cond.selects "MinCircle" ({ cls := "MinCircle", name := "solve", desc := "()I" } : Jvm.MethodName) ({ cls := "MinCircle", name := "solve", desc := "()I" } : Jvm.MethodName)).before a0 Z = true := hw _ (List.mem_of_getElem? (i := 42) rfl)
theorem w_43 {Z : State} {a0 : Array Value} (hw : ∀ d ∈ tables_1, d.before a0 Z = true) : (Jvm.Cond.code ({ cls := "MinCircle", name := "solve", desc := "()I" } : Jvm.MethodName) prog_1_method_5_code 1 (Option.some Jvm.ClassFile.FieldType.int)).before a0 Z = true := hw _ (List.mem_of_getElem? (i := 43) rfl)
theorem w_44 {Z : State} {a0 : Array Value} (hw : ∀ d ∈ tables_1, d.before a0 Z = true) : (Jvm.Cond.methodLink "MinCircle" 49 ({ cls := "MinCircle", name := "shuffle", desc := "()V" } : Jvm.MethodName)).before a0 Z = true := hw _ (List.mem_of_getElem? (i := 44) rfl)
theorem w_45 {Z : State} {a0 : Array Value} (hw : ∀ d ∈ tables_1, d.before a0 Z = true) : (Jvm.Cond.instanceMethod ({ cls := "MinCircle", name := "shuffle", desc := "()V" } : Jvm.MethodName)).before a0 Z = true := hw _ (List.mem_of_getElem? (i := 45) rfl)
theorem w_46 {Z : State} {a0 : Array Value} (hw : ∀ d ∈ tables_1, d.before a0 Z = true) : (Jvm.Cond.privateMethod ({ cls := "MinCircle", name := "shuffle", desc := "()V" } : Jvm.MethodName)).before a0 Z = true := hw _ (List.mem_of_getElem? (i := 46) rfl)
theorem w_47 {Z : State} {a0 : Array Value} (hw : ∀ d ∈ tables_1, d.before a0 Z = true) : (Jvm.Cond.code ({ cls := "MinCircle", name := "shuffle", desc := "()V" } : Jvm.MethodName) prog_1_method_20_code 4 (Option.none : Option Jvm.ClassFile.FieldType)).before a0 Z = true := hw _ (List.mem_of_getElem? (i := 47) rfl)
theorem w_48 {Z : State} {a0 : Array Value} (hw : ∀ d ∈ tables_1, d.before a0 Z = true) : (Jvm.Cond.methodLink "MinCircle" 52 ({ cls := "MinCircle", name := "runIncremental", desc := "()V" } : Jvm.MethodName)).before a0 Z = true := hw _ (List.mem_of_getElem? (i := 48) rfl)
theorem w_49 {Z : State} {a0 : Array Value} (hw : ∀ d ∈ tables_1, d.before a0 Z = true) : (Jvm.Cond.instanceMethod ({ cls := "MinCircle", name := "runIncremental", desc := "()V" } : Jvm.MethodName)).before a0 Z = true := hw _ (List.mem_of_getElem? (i := 49) rfl)
theorem w_50 {Z : State} {a0 : Array Value} (hw : ∀ d ∈ tables_1, d.before a0 Z = true) : (Jvm.Cond.privateMethod ({ cls := "MinCircle", name := "runIncremental", desc := "()V" } : Jvm.MethodName)).before a0 Z = true := hw _ (List.mem_of_getElem? (i := 50) rfl)
theorem w_51 {Z : State} {a0 : Array Value} (hw : ∀ d ∈ tables_1, d.before a0 Z = true) : (Jvm.Cond.code ({ cls := "MinCircle", name := "runIncremental", desc := "()V" } : Jvm.MethodName) prog_1_method_21_code 2 (Option.none : Option Jvm.ClassFile.FieldType)).before a0 Z = true := hw _ (List.mem_of_getElem? (i := 51) rfl)
theorem w_52 {Z : State} {a0 : Array Value} (hw : ∀ d ∈ tables_1, d.before a0 Z = true) : (Jvm.Cond.methodLink "MinCircle" 83 ({ cls := "MinCircle", name := "setPoint", desc := "(I)V" } : Jvm.MethodName)).before a0 Z = true := hw _ (List.mem_of_getElem? (i := 52) rfl)
theorem w_53 {Z : State} {a0 : Array Value} (hw : ∀ d ∈ tables_1, d.before a0 Z = true) : (Jvm.Cond.instanceMethod ({ cls := "MinCircle", name := "setPoint", desc := "(I)V" } : Jvm.MethodName)).before a0 Z = true := hw _ (List.mem_of_getElem? (i := 53) rfl)
theorem w_54 {Z : State} {a0 : Array Value} (hw : ∀ d ∈ tables_1, d.before a0 Z = true) : (Jvm.Cond.privateMethod ({ cls := "MinCircle", name := "setPoint", desc := "(I)V" } : Jvm.MethodName)).before a0 Z = true := hw _ (List.mem_of_getElem? (i := 54) rfl)
theorem w_55 {Z : State} {a0 : Array Value} (hw : ∀ d ∈ tables_1, d.before a0 Z = true) : (Jvm.Cond.code ({ cls := "MinCircle", name := "setPoint", desc := "(I)V" } : Jvm.MethodName) prog_1_method_25_code 2 (Option.none : Option Jvm.ClassFile.FieldType)).before a0 Z = true := hw _ (List.mem_of_getElem? (i := 55) rfl)
theorem w_56 {Z : State} {a0 : Array Value} (hw : ∀ d ∈ tables_1, d.before a0 Z = true) : (Jvm.Cond.fieldLink "MinCircle" 105 "MinCircle" "tnx" "J").before a0 Z = true := hw _ (List.mem_of_getElem? (i := 56) rfl)
theorem w_57 {Z : State} {a0 : Array Value} (hw : ∀ d ∈ tables_1, d.before a0 Z = true) : (Jvm.Cond.lays "MinCircle" "MinCircle" "tnx" "J").before a0 Z = true := hw _ (List.mem_of_getElem? (i := 57) rfl)
theorem w_58 {Z : State} {a0 : Array Value} (hw : ∀ d ∈ tables_1, d.before a0 Z = true) : (Jvm.Cond.fieldLink "MinCircle" 108 "MinCircle" "tny" "J").before a0 Z = true := hw _ (List.mem_of_getElem? (i := 58) rfl)
theorem w_59 {Z : State} {a0 : Array Value} (hw : ∀ d ∈ tables_1, d.before a0 Z = true) : (Jvm.Cond.lays "MinCircle" "MinCircle" "tny" "J").before a0 Z = true := hw _ (List.mem_of_getElem? (i := 59) rfl)
theorem w_60 {Z : State} {a0 : Array Value} (hw : ∀ d ∈ tables_1, d.before a0 Z = true) : (Jvm.Cond.fieldLink "MinCircle" 111 "MinCircle" "trr" "J").before a0 Z = true := hw _ (List.mem_of_getElem? (i := 60) rfl)
theorem w_61 {Z : State} {a0 : Array Value} (hw : ∀ d ∈ tables_1, d.before a0 Z = true) : (Jvm.Cond.lays "MinCircle" "MinCircle" "trr" "J").before a0 Z = true := hw _ (List.mem_of_getElem? (i := 61) rfl)
theorem w_62 {Z : State} {a0 : Array Value} (hw : ∀ d ∈ tables_1, d.before a0 Z = true) : (Jvm.Cond.methodLink "MinCircle" 55 ({ cls := "MinCircle", name := "finishDisk", desc := "()V" } : Jvm.MethodName)).before a0 Z = true := hw _ (List.mem_of_getElem? (i := 62) rfl)
theorem w_63 {Z : State} {a0 : Array Value} (hw : ∀ d ∈ tables_1, d.before a0 Z = true) : (Jvm.Cond.instanceMethod ({ cls := "MinCircle", name := "finishDisk", desc := "()V" } : Jvm.MethodName)).before a0 Z = true := hw _ (List.mem_of_getElem? (i := 63) rfl)
theorem w_64 {Z : State} {a0 : Array Value} (hw : ∀ d ∈ tables_1, d.before a0 Z = true) : (Jvm.Cond.privateMethod ({ cls := "MinCircle", name := "finishDisk", desc := "()V" } : Jvm.MethodName)).before a0 Z = true := hw _ (List.mem_of_getElem? (i := 64) rfl)
theorem w_65 {Z : State} {a0 : Array Value} (hw : ∀ d ∈ tables_1, d.before a0 Z = true) : (Jvm.Cond.code ({ cls := "MinCircle", name := "finishDisk", desc := "()V" } : Jvm.MethodName) prog_1_method_32_code 5 (Option.none : Option Jvm.ClassFile.FieldType)).before a0 Z = true := hw _ (List.mem_of_getElem? (i := 65) rfl)
theorem w_66 {Z : State} {a0 : Array Value} (hw : ∀ d ∈ tables_1, d.before a0 Z = true) : (Jvm.Cond.methodLink "MinCircle" 126 ({ cls := "MinCircle", name := "gcd", desc := "(JJ)J" } : Jvm.MethodName)).before a0 Z = true := hw _ (List.mem_of_getElem? (i := 66) rfl)
theorem w_67 {Z : State} {a0 : Array Value} (hw : ∀ d ∈ tables_1, d.before a0 Z = true) : (Jvm.Cond.instanceMethod ({ cls := "MinCircle", name := "gcd", desc := "(JJ)J" } : Jvm.MethodName)).before a0 Z = true := hw _ (List.mem_of_getElem? (i := 67) rfl)
theorem w_68 {Z : State} {a0 : Array Value} (hw : ∀ d ∈ tables_1, d.before a0 Z = true) : (Jvm.Cond.privateMethod ({ cls := "MinCircle", name := "gcd", desc := "(JJ)J" } : Jvm.MethodName)).before a0 Z = true := hw _ (List.mem_of_getElem? (i := 68) rfl)
theorem w_69 {Z : State} {a0 : Array Value} (hw : ∀ d ∈ tables_1, d.before a0 Z = true) : (Jvm.Cond.code ({ cls := "MinCircle", name := "gcd", desc := "(JJ)J" } : Jvm.MethodName) prog_1_method_31_code 12 (Option.some Jvm.ClassFile.FieldType.long)).before a0 Z = true := hw _ (List.mem_of_getElem? (i := 69) rfl)
theorem w_70 {Z : State} {a0 : Array Value} (hw : ∀ d ∈ tables_1, d.before a0 Z = true) : (Jvm.Cond.methodLink "MinCircle" 122 ({ cls := "MinCircle", name := "absL", desc := "(J)J" } : Jvm.MethodName)).before a0 Z = true := hw _ (List.mem_of_getElem? (i := 70) rfl)
theorem w_71 {Z : State} {a0 : Array Value} (hw : ∀ d ∈ tables_1, d.before a0 Z = true) : (Jvm.Cond.instanceMethod ({ cls := "MinCircle", name := "absL", desc := "(J)J" } : Jvm.MethodName)).before a0 Z = true := hw _ (List.mem_of_getElem? (i := 71) rfl)
theorem w_72 {Z : State} {a0 : Array Value} (hw : ∀ d ∈ tables_1, d.before a0 Z = true) : (Jvm.Cond.privateMethod ({ cls := "MinCircle", name := "absL", desc := "(J)J" } : Jvm.MethodName)).before a0 Z = true := hw _ (List.mem_of_getElem? (i := 72) rfl)
theorem w_73 {Z : State} {a0 : Array Value} (hw : ∀ d ∈ tables_1, d.before a0 Z = true) : (Jvm.Cond.code ({ cls := "MinCircle", name := "absL", desc := "(J)J" } : Jvm.MethodName) prog_1_method_30_code 3 (Option.some Jvm.ClassFile.FieldType.long)).before a0 Z = true := hw _ (List.mem_of_getElem? (i := 73) rfl)
theorem w_74 {Z : State} {a0 : Array Value} (hw : ∀ d ∈ tables_1, d.before a0 Z = true) : (Jvm.Cond.fieldLink "MinCircle" 64 "MinCircle" "den" "J").before a0 Z = true := hw _ (List.mem_of_getElem? (i := 74) rfl)
theorem w_75 {Z : State} {a0 : Array Value} (hw : ∀ d ∈ tables_1, d.before a0 Z = true) : (Jvm.Cond.lays "MinCircle" "MinCircle" "den" "J").before a0 Z = true := hw _ (List.mem_of_getElem? (i := 75) rfl)
theorem w_76 {Z : State} {a0 : Array Value} (hw : ∀ d ∈ tables_1, d.before a0 Z = true) : (Jvm.Cond.fieldLink "MinCircle" 58 "MinCircle" "cxNum" "J").before a0 Z = true := hw _ (List.mem_of_getElem? (i := 76) rfl)
theorem w_77 {Z : State} {a0 : Array Value} (hw : ∀ d ∈ tables_1, d.before a0 Z = true) : (Jvm.Cond.lays "MinCircle" "MinCircle" "cxNum" "J").before a0 Z = true := hw _ (List.mem_of_getElem? (i := 77) rfl)
theorem w_78 {Z : State} {a0 : Array Value} (hw : ∀ d ∈ tables_1, d.before a0 Z = true) : (Jvm.Cond.fieldLink "MinCircle" 61 "MinCircle" "cyNum" "J").before a0 Z = true := hw _ (List.mem_of_getElem? (i := 78) rfl)
theorem w_79 {Z : State} {a0 : Array Value} (hw : ∀ d ∈ tables_1, d.before a0 Z = true) : (Jvm.Cond.lays "MinCircle" "MinCircle" "cyNum" "J").before a0 Z = true := hw _ (List.mem_of_getElem? (i := 79) rfl)
theorem w_80 {Z : State} {a0 : Array Value} (hw : ∀ d ∈ tables_1, d.before a0 Z = true) : (Jvm.Cond.methodLink "MinCircle" 130 ({ cls := "MinCircle", name := "recordRadius", desc := "()V" } : Jvm.MethodName)).before a0 Z = true := hw _ (List.mem_of_getElem? (i := 80) rfl)
theorem w_81 {Z : State} {a0 : Array Value} (hw : ∀ d ∈ tables_1, d.before a0 Z = true) : (Jvm.Cond.instanceMethod ({ cls := "MinCircle", name := "recordRadius", desc := "()V" } : Jvm.MethodName)).before a0 Z = true := hw _ (List.mem_of_getElem? (i := 81) rfl)
theorem w_82 {Z : State} {a0 : Array Value} (hw : ∀ d ∈ tables_1, d.before a0 Z = true) : (Jvm.Cond.privateMethod ({ cls := "MinCircle", name := "recordRadius", desc := "()V" } : Jvm.MethodName)).before a0 Z = true := hw _ (List.mem_of_getElem? (i := 82) rfl)
theorem w_83 {Z : State} {a0 : Array Value} (hw : ∀ d ∈ tables_1, d.before a0 Z = true) : (Jvm.Cond.code ({ cls := "MinCircle", name := "recordRadius", desc := "()V" } : Jvm.MethodName) prog_1_method_33_code 6 (Option.none : Option Jvm.ClassFile.FieldType)).before a0 Z = true := hw _ (List.mem_of_getElem? (i := 83) rfl)
theorem w_84 {Z : State} {a0 : Array Value} (hw : ∀ d ∈ tables_1, d.before a0 Z = true) : (Jvm.Cond.methodLink "MinCircle" 73 ({ cls := "MinCircle", name := "pwFinal", desc := "(II)J" } : Jvm.MethodName)).before a0 Z = true := hw _ (List.mem_of_getElem? (i := 84) rfl)
theorem w_85 {Z : State} {a0 : Array Value} (hw : ∀ d ∈ tables_1, d.before a0 Z = true) : (Jvm.Cond.instanceMethod ({ cls := "MinCircle", name := "pwFinal", desc := "(II)J" } : Jvm.MethodName)).before a0 Z = true := hw _ (List.mem_of_getElem? (i := 85) rfl)
theorem w_86 {Z : State} {a0 : Array Value} (hw : ∀ d ∈ tables_1, d.before a0 Z = true) : (Jvm.Cond.privateMethod ({ cls := "MinCircle", name := "pwFinal", desc := "(II)J" } : Jvm.MethodName)).before a0 Z = true := hw _ (List.mem_of_getElem? (i := 86) rfl)
theorem w_87 {Z : State} {a0 : Array Value} (hw : ∀ d ∈ tables_1, d.before a0 Z = true) : (Jvm.Cond.code ({ cls := "MinCircle", name := "pwFinal", desc := "(II)J" } : Jvm.MethodName) prog_1_method_34_code 7 (Option.some Jvm.ClassFile.FieldType.long)).before a0 Z = true := hw _ (List.mem_of_getElem? (i := 87) rfl)
theorem w_88 {Z : State} {a0 : Array Value} (hw : ∀ d ∈ tables_1, d.before a0 Z = true) : (Jvm.Cond.fieldLink "MinCircle" 67 "MinCircle" "rNum" "J").before a0 Z = true := hw _ (List.mem_of_getElem? (i := 88) rfl)
theorem w_89 {Z : State} {a0 : Array Value} (hw : ∀ d ∈ tables_1, d.before a0 Z = true) : (Jvm.Cond.lays "MinCircle" "MinCircle" "rNum" "J").before a0 Z = true := hw _ (List.mem_of_getElem? (i := 89) rfl)
theorem w_90 {Z : State} {a0 : Array Value} (hw : ∀ d ∈ tables_1, d.before a0 Z = true) : (Jvm.Cond.fieldLink "MinCircle" 46 "MinCircle" "bCount" "I").before a0 Z = true := hw _ (List.mem_of_getElem? (i := 90) rfl)
theorem w_91 {Z : State} {a0 : Array Value} (hw : ∀ d ∈ tables_1, d.before a0 Z = true) : (Jvm.Cond.lays "MinCircle" "MinCircle" "bCount" "I").before a0 Z = true := hw _ (List.mem_of_getElem? (i := 91) rfl)
theorem w_92 {Z : State} {a0 : Array Value} (hw : ∀ d ∈ tables_1, d.before a0 Z = true) : (Jvm.Cond.methodLink "MinCircle" 133 ({ cls := "MinCircle", name := "computeKind", desc := "()I" } : Jvm.MethodName)).before a0 Z = true := hw _ (List.mem_of_getElem? (i := 92) rfl)
theorem w_93 {Z : State} {a0 : Array Value} (hw : ∀ d ∈ tables_1, d.before a0 Z = true) : (Jvm.Cond.instanceMethod ({ cls := "MinCircle", name := "computeKind", desc := "()I" } : Jvm.MethodName)).before a0 Z = true := hw _ (List.mem_of_getElem? (i := 93) rfl)
theorem w_94 {Z : State} {a0 : Array Value} (hw : ∀ d ∈ tables_1, d.before a0 Z = true) : (Jvm.Cond.privateMethod ({ cls := "MinCircle", name := "computeKind", desc := "()I" } : Jvm.MethodName)).before a0 Z = true := hw _ (List.mem_of_getElem? (i := 94) rfl)
theorem w_95 {Z : State} {a0 : Array Value} (hw : ∀ d ∈ tables_1, d.before a0 Z = true) : (Jvm.Cond.code ({ cls := "MinCircle", name := "computeKind", desc := "()I" } : Jvm.MethodName) prog_1_method_35_code 11 (Option.some Jvm.ClassFile.FieldType.int)).before a0 Z = true := hw _ (List.mem_of_getElem? (i := 95) rfl)
theorem w_96 {Z : State} {a0 : Array Value} (hw : ∀ d ∈ tables_1, d.before a0 Z = true) : (Jvm.Cond.fieldLink "MinCircle" 70 "MinCircle" "kindV" "I").before a0 Z = true := hw _ (List.mem_of_getElem? (i := 96) rfl)
theorem w_97 {Z : State} {a0 : Array Value} (hw : ∀ d ∈ tables_1, d.before a0 Z = true) : (Jvm.Cond.lays "MinCircle" "MinCircle" "kindV" "I").before a0 Z = true := hw _ (List.mem_of_getElem? (i := 97) rfl)
theorem w_98 {Z : State} {a0 : Array Value} (hw : ∀ d ∈ tables_1, d.before a0 Z = true) : (Jvm.Cond.methodLink "MinCircleL2" 20 ({ cls := "MinCircle", name := "isSolved", desc := "()Z" } : Jvm.MethodName)).before a0 Z = true := hw _ (List.mem_of_getElem? (i := 98) rfl)
theorem w_99 {Z : State} {a0 : Array Value} (hw : ∀ d ∈ tables_1, d.before a0 Z = true) : (Jvm.Cond.declares ({ cls := "MinCircle", name := "isSolved", desc := "()Z" } : Jvm.MethodName)).before a0 Z = true := hw _ (List.mem_of_getElem? (i := 99) rfl)
theorem w_100 {Z : State} {a0 : Array Value} (hw : ∀ d ∈ tables_1, d.before a0 Z = true) : (Jvm.Cond.instanceMethod ({ cls := "MinCircle", name := "isSolved", desc := "()Z" } : Jvm.MethodName)).before a0 Z = true := hw _ (List.mem_of_getElem? (i := 100) rfl)
theorem w_101 {Z : State} {a0 : Array Value} (hw : ∀ d ∈ tables_1, d.before a0 Z = true) : (Jvm.Cond.selects "MinCircle" ({ cls := "MinCircle", name := "isSolved", desc := "()Z" } : Jvm.MethodName) ({ cls := "MinCircle", name := "isSolved", desc := "()Z" } : Jvm.MethodName)).before a0 Z = true := hw _ (List.mem_of_getElem? (i := 101) rfl)
theorem w_102 {Z : State} {a0 : Array Value} (hw : ∀ d ∈ tables_1, d.before a0 Z = true) : (Jvm.Cond.code ({ cls := "MinCircle", name := "isSolved", desc := "()Z" } : Jvm.MethodName) prog_1_method_9_code 1 (Option.some Jvm.ClassFile.FieldType.boolean)).before a0 Z = true := hw _ (List.mem_of_getElem? (i := 102) rfl)
theorem w_103 {Z : State} {a0 : Array Value} (hw : ∀ d ∈ tables_1, d.before a0 Z = true) : (Jvm.Cond.methodLink "MinCircleL2" 24 ({ cls := "MinCircle", name := "centreXNum", desc := "()J" } : Jvm.MethodName)).before a0 Z = true := hw _ (List.mem_of_getElem? (i := 103) rfl)
theorem w_104 {Z : State} {a0 : Array Value} (hw : ∀ d ∈ tables_1, d.before a0 Z = true) : (Jvm.Cond.declares ({ cls := "MinCircle", name := "centreXNum", desc := "()J" } : Jvm.MethodName)).before a0 Z = true := hw _ (List.mem_of_getElem? (i := 104) rfl)
theorem w_105 {Z : State} {a0 : Array Value} (hw : ∀ d ∈ tables_1, d.before a0 Z = true) : (Jvm.Cond.instanceMethod ({ cls := "MinCircle", name := "centreXNum", desc := "()J" } : Jvm.MethodName)).before a0 Z = true := hw _ (List.mem_of_getElem? (i := 105) rfl)
theorem w_106 {Z : State} {a0 : Array Value} (hw : ∀ d ∈ tables_1, d.before a0 Z = true) : (Jvm.Cond.selects "MinCircle" ({ cls := "MinCircle", name := "centreXNum", desc := "()J" } : Jvm.MethodName) ({ cls := "MinCircle", name := "centreXNum", desc := "()J" } : Jvm.MethodName)).before a0 Z = true := hw _ (List.mem_of_getElem? (i := 106) rfl)
theorem w_107 {Z : State} {a0 : Array Value} (hw : ∀ d ∈ tables_1, d.before a0 Z = true) : (Jvm.Cond.code ({ cls := "MinCircle", name := "centreXNum", desc := "()J" } : Jvm.MethodName) prog_1_method_10_code 1 (Option.some Jvm.ClassFile.FieldType.long)).before a0 Z = true := hw _ (List.mem_of_getElem? (i := 107) rfl)
theorem w_108 {Z : State} {a0 : Array Value} (hw : ∀ d ∈ tables_1, d.before a0 Z = true) : (Jvm.Cond.methodLink "MinCircleL2" 28 ({ cls := "MinCircle", name := "centreYNum", desc := "()J" } : Jvm.MethodName)).before a0 Z = true := hw _ (List.mem_of_getElem? (i := 108) rfl)
theorem w_109 {Z : State} {a0 : Array Value} (hw : ∀ d ∈ tables_1, d.before a0 Z = true) : (Jvm.Cond.declares ({ cls := "MinCircle", name := "centreYNum", desc := "()J" } : Jvm.MethodName)).before a0 Z = true := hw _ (List.mem_of_getElem? (i := 109) rfl)
theorem w_110 {Z : State} {a0 : Array Value} (hw : ∀ d ∈ tables_1, d.before a0 Z = true) : (Jvm.Cond.instanceMethod ({ cls := "MinCircle", name := "centreYNum", desc := "()J" } : Jvm.MethodName)).before a0 Z = true := hw _ (List.mem_of_getElem? (i := 110) rfl)
theorem w_111 {Z : State} {a0 : Array Value} (hw : ∀ d ∈ tables_1, d.before a0 Z = true) : (Jvm.Cond.selects "MinCircle" ({ cls := "MinCircle", name := "centreYNum", desc := "()J" } : Jvm.MethodName) ({ cls := "MinCircle", name := "centreYNum", desc := "()J" } : Jvm.MethodName)).before a0 Z = true := hw _ (List.mem_of_getElem? (i := 111) rfl)
theorem w_112 {Z : State} {a0 : Array Value} (hw : ∀ d ∈ tables_1, d.before a0 Z = true) : (Jvm.Cond.code ({ cls := "MinCircle", name := "centreYNum", desc := "()J" } : Jvm.MethodName) prog_1_method_11_code 1 (Option.some Jvm.ClassFile.FieldType.long)).before a0 Z = true := hw _ (List.mem_of_getElem? (i := 112) rfl)
theorem w_113 {Z : State} {a0 : Array Value} (hw : ∀ d ∈ tables_1, d.before a0 Z = true) : (Jvm.Cond.methodLink "MinCircleL2" 31 ({ cls := "MinCircle", name := "centreDen", desc := "()J" } : Jvm.MethodName)).before a0 Z = true := hw _ (List.mem_of_getElem? (i := 113) rfl)
theorem w_114 {Z : State} {a0 : Array Value} (hw : ∀ d ∈ tables_1, d.before a0 Z = true) : (Jvm.Cond.declares ({ cls := "MinCircle", name := "centreDen", desc := "()J" } : Jvm.MethodName)).before a0 Z = true := hw _ (List.mem_of_getElem? (i := 114) rfl)
theorem w_115 {Z : State} {a0 : Array Value} (hw : ∀ d ∈ tables_1, d.before a0 Z = true) : (Jvm.Cond.instanceMethod ({ cls := "MinCircle", name := "centreDen", desc := "()J" } : Jvm.MethodName)).before a0 Z = true := hw _ (List.mem_of_getElem? (i := 115) rfl)
theorem w_116 {Z : State} {a0 : Array Value} (hw : ∀ d ∈ tables_1, d.before a0 Z = true) : (Jvm.Cond.selects "MinCircle" ({ cls := "MinCircle", name := "centreDen", desc := "()J" } : Jvm.MethodName) ({ cls := "MinCircle", name := "centreDen", desc := "()J" } : Jvm.MethodName)).before a0 Z = true := hw _ (List.mem_of_getElem? (i := 116) rfl)
theorem w_117 {Z : State} {a0 : Array Value} (hw : ∀ d ∈ tables_1, d.before a0 Z = true) : (Jvm.Cond.code ({ cls := "MinCircle", name := "centreDen", desc := "()J" } : Jvm.MethodName) prog_1_method_12_code 1 (Option.some Jvm.ClassFile.FieldType.long)).before a0 Z = true := hw _ (List.mem_of_getElem? (i := 117) rfl)
theorem w_118 {Z : State} {a0 : Array Value} (hw : ∀ d ∈ tables_1, d.before a0 Z = true) : (Jvm.Cond.methodLink "MinCircleL2" 34 ({ cls := "MinCircle", name := "radiusSqNum", desc := "()J" } : Jvm.MethodName)).before a0 Z = true := hw _ (List.mem_of_getElem? (i := 118) rfl)
theorem w_119 {Z : State} {a0 : Array Value} (hw : ∀ d ∈ tables_1, d.before a0 Z = true) : (Jvm.Cond.declares ({ cls := "MinCircle", name := "radiusSqNum", desc := "()J" } : Jvm.MethodName)).before a0 Z = true := hw _ (List.mem_of_getElem? (i := 119) rfl)
theorem w_120 {Z : State} {a0 : Array Value} (hw : ∀ d ∈ tables_1, d.before a0 Z = true) : (Jvm.Cond.instanceMethod ({ cls := "MinCircle", name := "radiusSqNum", desc := "()J" } : Jvm.MethodName)).before a0 Z = true := hw _ (List.mem_of_getElem? (i := 120) rfl)
theorem w_121 {Z : State} {a0 : Array Value} (hw : ∀ d ∈ tables_1, d.before a0 Z = true) : (Jvm.Cond.selects "MinCircle" ({ cls := "MinCircle", name := "radiusSqNum", desc := "()J" } : Jvm.MethodName) ({ cls := "MinCircle", name := "radiusSqNum", desc := "()J" } : Jvm.MethodName)).before a0 Z = true := hw _ (List.mem_of_getElem? (i := 121) rfl)
theorem w_122 {Z : State} {a0 : Array Value} (hw : ∀ d ∈ tables_1, d.before a0 Z = true) : (Jvm.Cond.code ({ cls := "MinCircle", name := "radiusSqNum", desc := "()J" } : Jvm.MethodName) prog_1_method_13_code 1 (Option.some Jvm.ClassFile.FieldType.long)).before a0 Z = true := hw _ (List.mem_of_getElem? (i := 122) rfl)
theorem w_123 {Z : State} {a0 : Array Value} (hw : ∀ d ∈ tables_1, d.before a0 Z = true) : (Jvm.Cond.methodLink "MinCircleL2" 37 ({ cls := "MinCircle", name := "kind", desc := "()I" } : Jvm.MethodName)).before a0 Z = true := hw _ (List.mem_of_getElem? (i := 123) rfl)
theorem w_124 {Z : State} {a0 : Array Value} (hw : ∀ d ∈ tables_1, d.before a0 Z = true) : (Jvm.Cond.declares ({ cls := "MinCircle", name := "kind", desc := "()I" } : Jvm.MethodName)).before a0 Z = true := hw _ (List.mem_of_getElem? (i := 124) rfl)
theorem w_125 {Z : State} {a0 : Array Value} (hw : ∀ d ∈ tables_1, d.before a0 Z = true) : (Jvm.Cond.instanceMethod ({ cls := "MinCircle", name := "kind", desc := "()I" } : Jvm.MethodName)).before a0 Z = true := hw _ (List.mem_of_getElem? (i := 125) rfl)
theorem w_126 {Z : State} {a0 : Array Value} (hw : ∀ d ∈ tables_1, d.before a0 Z = true) : (Jvm.Cond.selects "MinCircle" ({ cls := "MinCircle", name := "kind", desc := "()I" } : Jvm.MethodName) ({ cls := "MinCircle", name := "kind", desc := "()I" } : Jvm.MethodName)).before a0 Z = true := hw _ (List.mem_of_getElem? (i := 126) rfl)
theorem w_127 {Z : State} {a0 : Array Value} (hw : ∀ d ∈ tables_1, d.before a0 Z = true) : (Jvm.Cond.code ({ cls := "MinCircle", name := "kind", desc := "()I" } : Jvm.MethodName) prog_1_method_14_code 1 (Option.some Jvm.ClassFile.FieldType.int)).before a0 Z = true := hw _ (List.mem_of_getElem? (i := 127) rfl)
theorem w_128 {Z : State} {a0 : Array Value} (hw : ∀ d ∈ tables_1, d.before a0 Z = true) : (Jvm.Cond.methodLink "MinCircleL2" 40 ({ cls := "MinCircle", name := "boundaryCount", desc := "()I" } : Jvm.MethodName)).before a0 Z = true := hw _ (List.mem_of_getElem? (i := 128) rfl)
theorem w_129 {Z : State} {a0 : Array Value} (hw : ∀ d ∈ tables_1, d.before a0 Z = true) : (Jvm.Cond.declares ({ cls := "MinCircle", name := "boundaryCount", desc := "()I" } : Jvm.MethodName)).before a0 Z = true := hw _ (List.mem_of_getElem? (i := 129) rfl)
theorem w_130 {Z : State} {a0 : Array Value} (hw : ∀ d ∈ tables_1, d.before a0 Z = true) : (Jvm.Cond.instanceMethod ({ cls := "MinCircle", name := "boundaryCount", desc := "()I" } : Jvm.MethodName)).before a0 Z = true := hw _ (List.mem_of_getElem? (i := 130) rfl)
theorem w_131 {Z : State} {a0 : Array Value} (hw : ∀ d ∈ tables_1, d.before a0 Z = true) : (Jvm.Cond.selects "MinCircle" ({ cls := "MinCircle", name := "boundaryCount", desc := "()I" } : Jvm.MethodName) ({ cls := "MinCircle", name := "boundaryCount", desc := "()I" } : Jvm.MethodName)).before a0 Z = true := hw _ (List.mem_of_getElem? (i := 131) rfl)
theorem w_132 {Z : State} {a0 : Array Value} (hw : ∀ d ∈ tables_1, d.before a0 Z = true) : (Jvm.Cond.code ({ cls := "MinCircle", name := "boundaryCount", desc := "()I" } : Jvm.MethodName) prog_1_method_15_code 1 (Option.some Jvm.ClassFile.FieldType.int)).before a0 Z = true := hw _ (List.mem_of_getElem? (i := 132) rfl)
theorem w_133 {Z : State} {a0 : Array Value} (hw : ∀ d ∈ tables_1, d.before a0 Z = true) : (Jvm.Cond.constantLong "MinCircle" 114 2).before a0 Z = true := hw _ (List.mem_of_getElem? (i := 133) rfl)
theorem cw_ok {Z : State} {a0 : Array Value} (hw : ∀ d ∈ tables_1, d.before a0 Z = true) : CW Z a0 D := CW.of
  (fcons ⟨Or.inl (w_21 hw), (by decide +kernel), (by simp [pt])⟩ (fcons ⟨Or.inl (w_23 hw), (by decide +kernel), (by simp [pt])⟩ (fcons ⟨Or.inl (w_25 hw), (by decide +kernel), (by simp [pt])⟩ (fcons ⟨Or.inl (w_27 hw), (by decide +kernel), (by simp [pt])⟩ (fcons ⟨Or.inl (w_77 hw), (by decide +kernel), (by simp [pt])⟩ (fcons ⟨Or.inl (w_79 hw), (by decide +kernel), (by simp [pt])⟩ (fcons ⟨Or.inl (w_75 hw), (by decide +kernel), (by simp [pt])⟩ (fcons ⟨Or.inl (w_89 hw), (by decide +kernel), (by simp [pt])⟩ (fcons ⟨Or.inl (w_97 hw), (by decide +kernel), (by simp [pt])⟩ (fcons ⟨Or.inl (w_91 hw), (by decide +kernel), (by simp [pt])⟩ (fcons ⟨Or.inl (w_57 hw), (by decide +kernel), (by simp [pt])⟩ (fcons ⟨Or.inl (w_59 hw), (by decide +kernel), (by simp [pt])⟩ (fcons ⟨Or.inl (w_29 hw), (by decide +kernel), (by simp [pt])⟩ (fcons ⟨Or.inl (w_61 hw), (by decide +kernel), (by simp [pt])⟩ fnil))))))))))))))
  (fcons ⟨Or.inl (w_11 hw), (by decide +kernel), (by simp [pt]), (by decide)⟩ (fcons ⟨Or.inl (w_13 hw), (by decide +kernel), (by simp [pt]), (by decide)⟩ (fcons ⟨Or.inl (w_15 hw), (by decide +kernel), (by simp [pt]), (by decide)⟩ (fcons ⟨Or.inl (w_18 hw), (by decide +kernel), (by simp [pt]), (by decide)⟩ fnil))))
  (by decide +kernel) (by decide +kernel) (by decide +kernel)
theorem pn_cls : plainName "MinCircle" = true := by first | (simp [plainName, overriddenIn]; done) | decide +kernel
theorem pn_law : plainName "MinCircleL2" = true := by first | (simp [plainName, overriddenIn]; done) | decide +kernel
def QL (r : Int) (w : Option V) (_ : Heap) : Prop := w = some (vI r)
theorem d_k_ctor_0 : decode prog_1_method_1_code 0 = .ok (.aload_n 0, 1) := by decide +kernel
theorem d_k_ctor_1 : decode prog_1_method_1_code 1 = .ok (.invokespecial 1, 3) := by decide +kernel
theorem d_k_ctor_4 : decode prog_1_method_1_code 4 = .ok (.aload_n 0, 1) := by decide +kernel
theorem d_k_ctor_5 : decode prog_1_method_1_code 5 = .ok (.bipush 32, 2) := by decide +kernel
theorem d_k_ctor_7 : decode prog_1_method_1_code 7 = .ok (.newarray .int, 2) := by decide +kernel
theorem d_k_ctor_9 : decode prog_1_method_1_code 9 = .ok (.putfield 7, 3) := by decide +kernel
theorem d_k_ctor_12 : decode prog_1_method_1_code 12 = .ok (.aload_n 0, 1) := by decide +kernel
theorem d_k_ctor_13 : decode prog_1_method_1_code 13 = .ok (.bipush 32, 2) := by decide +kernel
theorem d_k_ctor_15 : decode prog_1_method_1_code 15 = .ok (.newarray .int, 2) := by decide +kernel
theorem d_k_ctor_17 : decode prog_1_method_1_code 17 = .ok (.putfield 13, 3) := by decide +kernel
theorem d_k_ctor_20 : decode prog_1_method_1_code 20 = .ok (.aload_n 0, 1) := by decide +kernel
theorem d_k_ctor_21 : decode prog_1_method_1_code 21 = .ok (.bipush 32, 2) := by decide +kernel
theorem d_k_ctor_23 : decode prog_1_method_1_code 23 = .ok (.newarray .int, 2) := by decide +kernel
theorem d_k_ctor_25 : decode prog_1_method_1_code 25 = .ok (.putfield 16, 3) := by decide +kernel
theorem d_k_ctor_28 : decode prog_1_method_1_code 28 = .ok (.aload_n 0, 1) := by decide +kernel
theorem d_k_ctor_29 : decode prog_1_method_1_code 29 = .ok (.bipush 32, 2) := by decide +kernel
theorem d_k_ctor_31 : decode prog_1_method_1_code 31 = .ok (.newarray .boolean, 2) := by decide +kernel
theorem d_k_ctor_33 : decode prog_1_method_1_code 33 = .ok (.putfield 19, 3) := by decide +kernel
theorem d_k_ctor_36 : decode prog_1_method_1_code 36 = .ok (.iload_n 1, 1) := by decide +kernel
theorem d_k_ctor_37 : decode prog_1_method_1_code 37 = .ok (.istore_n 3, 1) := by decide +kernel
theorem d_k_ctor_38 : decode prog_1_method_1_code 38 = .ok (.iload_n 3, 1) := by decide +kernel
theorem d_k_ctor_39 : decode prog_1_method_1_code 39 = .ok (.bipush 8, 2) := by decide +kernel
theorem d_k_ctor_41 : decode prog_1_method_1_code 41 = .ok (.if_icmp .ge 6, 3) := by decide +kernel
theorem d_k_ctor_44 : decode prog_1_method_1_code 44 = .ok (.bipush 8, 2) := by decide +kernel
theorem d_k_ctor_46 : decode prog_1_method_1_code 46 = .ok (.istore_n 3, 1) := by decide +kernel
theorem d_k_ctor_47 : decode prog_1_method_1_code 47 = .ok (.iload_n 3, 1) := by decide +kernel
theorem d_k_ctor_48 : decode prog_1_method_1_code 48 = .ok (.bipush 32, 2) := by decide +kernel
theorem d_k_ctor_50 : decode prog_1_method_1_code 50 = .ok (.if_icmp .le 6, 3) := by decide +kernel
theorem d_k_ctor_56 : decode prog_1_method_1_code 56 = .ok (.iload_n 2, 1) := by decide +kernel
theorem d_k_ctor_57 : decode prog_1_method_1_code 57 = .ok (.istore 4, 2) := by decide +kernel
theorem d_k_ctor_59 : decode prog_1_method_1_code 59 = .ok (.iload 4, 2) := by decide +kernel
theorem d_k_ctor_61 : decode prog_1_method_1_code 61 = .ok (.iconst 1, 1) := by decide +kernel
theorem d_k_ctor_62 : decode prog_1_method_1_code 62 = .ok (.if_icmp .ge 6, 3) := by decide +kernel
theorem d_k_ctor_65 : decode prog_1_method_1_code 65 = .ok (.iconst 1, 1) := by decide +kernel
theorem d_k_ctor_66 : decode prog_1_method_1_code 66 = .ok (.istore 4, 2) := by decide +kernel
theorem d_k_ctor_68 : decode prog_1_method_1_code 68 = .ok (.iload 4, 2) := by decide +kernel
theorem d_k_ctor_70 : decode prog_1_method_1_code 70 = .ok (.ldc 23, 2) := by decide +kernel
theorem d_k_ctor_72 : decode prog_1_method_1_code 72 = .ok (.if_icmp .le 7, 3) := by decide +kernel
theorem d_k_ctor_79 : decode prog_1_method_1_code 79 = .ok (.aload_n 0, 1) := by decide +kernel
theorem d_k_ctor_80 : decode prog_1_method_1_code 80 = .ok (.iload_n 3, 1) := by decide +kernel
theorem d_k_ctor_81 : decode prog_1_method_1_code 81 = .ok (.putfield 24, 3) := by decide +kernel
theorem d_k_ctor_84 : decode prog_1_method_1_code 84 = .ok (.aload_n 0, 1) := by decide +kernel
theorem d_k_ctor_85 : decode prog_1_method_1_code 85 = .ok (.iload 4, 2) := by decide +kernel
theorem d_k_ctor_87 : decode prog_1_method_1_code 87 = .ok (.putfield 28, 3) := by decide +kernel
theorem d_k_ctor_90 : decode prog_1_method_1_code 90 = .ok (.aload_n 0, 1) := by decide +kernel
theorem d_k_ctor_91 : decode prog_1_method_1_code 91 = .ok (.iconst 0, 1) := by decide +kernel
theorem d_k_ctor_92 : decode prog_1_method_1_code 92 = .ok (.putfield 31, 3) := by decide +kernel
theorem d_k_ctor_95 : decode prog_1_method_1_code 95 = .ok (.aload_n 0, 1) := by decide +kernel
theorem d_k_ctor_96 : decode prog_1_method_1_code 96 = .ok (.iconst 0, 1) := by decide +kernel
theorem d_k_ctor_97 : decode prog_1_method_1_code 97 = .ok (.putfield 34, 3) := by decide +kernel
theorem d_k_ctor_100 : decode prog_1_method_1_code 100 = .ok (.aload_n 0, 1) := by decide +kernel
theorem d_k_ctor_101 : decode prog_1_method_1_code 101 = .ok (.lconst 1, 1) := by decide +kernel
theorem d_k_ctor_102 : decode prog_1_method_1_code 102 = .ok (.putfield 38, 3) := by decide +kernel
theorem d_k_ctor_105 : decode prog_1_method_1_code 105 = .ok (.return_, 1) := by decide +kernel
theorem d_k_ctor_75 : decode prog_1_method_1_code 75 = .ok (.ldc 23, 2) := by decide +kernel
theorem d_k_ctor_77 : decode prog_1_method_1_code 77 = .ok (.istore 4, 2) := by decide +kernel
theorem d_k_ctor_53 : decode prog_1_method_1_code 53 = .ok (.bipush 32, 2) := by decide +kernel
theorem d_k_ctor_55 : decode prog_1_method_1_code 55 = .ok (.istore_n 3, 1) := by decide +kernel
def R_k_ctor : Room := { frames := 1, cells := 4, slots := 128, locals := 12 }
abbrev G_k_ctor (l : Launch) (Z : State) (n0 : Nat) (P : Heap → Prop) := Go l Z D n0 P (⟨"MinCircle", "<init>", "(II)V"⟩ : MethodName) prog_1_method_1_code 5 none R_k_ctor
theorem pd_k_ctor : parseMethodDescriptor "(II)V" = some ⟨[.int, .int], none⟩ := by decide +kernel
theorem d_k_inRange_0 : decode prog_1_method_18_code 0 = .ok (.iload_n 1, 1) := by decide +kernel
theorem d_k_inRange_1 : decode prog_1_method_18_code 1 = .ok (.sipush (-255), 3) := by decide +kernel
theorem d_k_inRange_4 : decode prog_1_method_18_code 4 = .ok (.if_icmp .lt 28, 3) := by decide +kernel
theorem d_k_inRange_32 : decode prog_1_method_18_code 32 = .ok (.iconst 0, 1) := by decide +kernel
theorem d_k_inRange_33 : decode prog_1_method_18_code 33 = .ok (.ireturn, 1) := by decide +kernel
theorem d_k_inRange_7 : decode prog_1_method_18_code 7 = .ok (.iload_n 1, 1) := by decide +kernel
theorem d_k_inRange_8 : decode prog_1_method_18_code 8 = .ok (.sipush 255, 3) := by decide +kernel
theorem d_k_inRange_11 : decode prog_1_method_18_code 11 = .ok (.if_icmp .gt 21, 3) := by decide +kernel
theorem d_k_inRange_14 : decode prog_1_method_18_code 14 = .ok (.iload_n 2, 1) := by decide +kernel
theorem d_k_inRange_15 : decode prog_1_method_18_code 15 = .ok (.sipush (-255), 3) := by decide +kernel
theorem d_k_inRange_18 : decode prog_1_method_18_code 18 = .ok (.if_icmp .lt 14, 3) := by decide +kernel
theorem d_k_inRange_21 : decode prog_1_method_18_code 21 = .ok (.iload_n 2, 1) := by decide +kernel
theorem d_k_inRange_22 : decode prog_1_method_18_code 22 = .ok (.sipush 255, 3) := by decide +kernel
theorem d_k_inRange_25 : decode prog_1_method_18_code 25 = .ok (.if_icmp .gt 7, 3) := by decide +kernel
theorem d_k_inRange_28 : decode prog_1_method_18_code 28 = .ok (.iconst 1, 1) := by decide +kernel
theorem d_k_inRange_29 : decode prog_1_method_18_code 29 = .ok (.goto 4, 3) := by decide +kernel
def R_k_inRange : Room := { frames := 0, cells := 0, slots := 0, locals := 0 }
abbrev G_k_inRange (l : Launch) (Z : State) (n0 : Nat) (P : Heap → Prop) := Go l Z D n0 P (⟨"MinCircle", "inRange", "(II)Z"⟩ : MethodName) prog_1_method_18_code 3 (some .boolean) R_k_inRange
theorem pd_k_inRange : parseMethodDescriptor "(II)Z" = some ⟨[.int, .int], some .boolean⟩ := by decide +kernel
theorem d_k_addPoint_0 : decode prog_1_method_2_code 0 = .ok (.aload_n 0, 1) := by decide +kernel
theorem d_k_addPoint_1 : decode prog_1_method_2_code 1 = .ok (.iload_n 1, 1) := by decide +kernel
theorem d_k_addPoint_2 : decode prog_1_method_2_code 2 = .ok (.iload_n 2, 1) := by decide +kernel
theorem d_k_addPoint_3 : decode prog_1_method_2_code 3 = .ok (.invokevirtual 42, 3) := by decide +kernel
theorem d_k_addPoint_6 : decode prog_1_method_2_code 6 = .ok (.ifCond .ne 5, 3) := by decide +kernel
theorem d_k_addPoint_9 : decode prog_1_method_2_code 9 = .ok (.iconst (-1), 1) := by decide +kernel
theorem d_k_addPoint_10 : decode prog_1_method_2_code 10 = .ok (.ireturn, 1) := by decide +kernel
theorem d_k_addPoint_11 : decode prog_1_method_2_code 11 = .ok (.aload_n 0, 1) := by decide +kernel
theorem d_k_addPoint_12 : decode prog_1_method_2_code 12 = .ok (.getfield 31, 3) := by decide +kernel
theorem d_k_addPoint_15 : decode prog_1_method_2_code 15 = .ok (.aload_n 0, 1) := by decide +kernel
theorem d_k_addPoint_16 : decode prog_1_method_2_code 16 = .ok (.getfield 24, 3) := by decide +kernel
theorem d_k_addPoint_19 : decode prog_1_method_2_code 19 = .ok (.if_icmp .lt 5, 3) := by decide +kernel
theorem d_k_addPoint_24 : decode prog_1_method_2_code 24 = .ok (.iconst 0, 1) := by decide +kernel
theorem d_k_addPoint_25 : decode prog_1_method_2_code 25 = .ok (.istore_n 3, 1) := by decide +kernel
theorem d_k_addPoint_26 : decode prog_1_method_2_code 26 = .ok (.iload_n 3, 1) := by decide +kernel
theorem d_k_addPoint_27 : decode prog_1_method_2_code 27 = .ok (.aload_n 0, 1) := by decide +kernel
theorem d_k_addPoint_28 : decode prog_1_method_2_code 28 = .ok (.getfield 31, 3) := by decide +kernel
theorem d_k_addPoint_31 : decode prog_1_method_2_code 31 = .ok (.if_icmp .ge 31, 3) := by decide +kernel
theorem d_k_addPoint_34 : decode prog_1_method_2_code 34 = .ok (.aload_n 0, 1) := by decide +kernel
theorem d_k_addPoint_35 : decode prog_1_method_2_code 35 = .ok (.getfield 7, 3) := by decide +kernel
theorem d_k_addPoint_38 : decode prog_1_method_2_code 38 = .ok (.iload_n 3, 1) := by decide +kernel
theorem d_k_addPoint_39 : decode prog_1_method_2_code 39 = .ok (.iaload, 1) := by decide +kernel
theorem d_k_addPoint_40 : decode prog_1_method_2_code 40 = .ok (.iload_n 1, 1) := by decide +kernel
theorem d_k_addPoint_41 : decode prog_1_method_2_code 41 = .ok (.if_icmp .ne 15, 3) := by decide +kernel
theorem d_k_addPoint_44 : decode prog_1_method_2_code 44 = .ok (.aload_n 0, 1) := by decide +kernel
theorem d_k_addPoint_45 : decode prog_1_method_2_code 45 = .ok (.getfield 13, 3) := by decide +kernel
theorem d_k_addPoint_48 : decode prog_1_method_2_code 48 = .ok (.iload_n 3, 1) := by decide +kernel
theorem d_k_addPoint_49 : decode prog_1_method_2_code 49 = .ok (.iaload, 1) := by decide +kernel
theorem d_k_addPoint_50 : decode prog_1_method_2_code 50 = .ok (.iload_n 2, 1) := by decide +kernel
theorem d_k_addPoint_51 : decode prog_1_method_2_code 51 = .ok (.if_icmp .ne 5, 3) := by decide +kernel
theorem d_k_addPoint_54 : decode prog_1_method_2_code 54 = .ok (.iconst (-1), 1) := by decide +kernel
theorem d_k_addPoint_55 : decode prog_1_method_2_code 55 = .ok (.ireturn, 1) := by decide +kernel
theorem d_k_addPoint_56 : decode prog_1_method_2_code 56 = .ok (.iinc 3 1, 3) := by decide +kernel
theorem d_k_addPoint_59 : decode prog_1_method_2_code 59 = .ok (.goto (-33), 3) := by decide +kernel
theorem d_k_addPoint_62 : decode prog_1_method_2_code 62 = .ok (.aload_n 0, 1) := by decide +kernel
theorem d_k_addPoint_63 : decode prog_1_method_2_code 63 = .ok (.getfield 31, 3) := by decide +kernel
theorem d_k_addPoint_66 : decode prog_1_method_2_code 66 = .ok (.istore_n 3, 1) := by decide +kernel
theorem d_k_addPoint_67 : decode prog_1_method_2_code 67 = .ok (.aload_n 0, 1) := by decide +kernel
theorem d_k_addPoint_68 : decode prog_1_method_2_code 68 = .ok (.getfield 7, 3) := by decide +kernel
theorem d_k_addPoint_71 : decode prog_1_method_2_code 71 = .ok (.iload_n 3, 1) := by decide +kernel
theorem d_k_addPoint_72 : decode prog_1_method_2_code 72 = .ok (.iload_n 1, 1) := by decide +kernel
theorem d_k_addPoint_73 : decode prog_1_method_2_code 73 = .ok (.iastore, 1) := by decide +kernel
theorem d_k_addPoint_74 : decode prog_1_method_2_code 74 = .ok (.aload_n 0, 1) := by decide +kernel
theorem d_k_addPoint_75 : decode prog_1_method_2_code 75 = .ok (.getfield 13, 3) := by decide +kernel
theorem d_k_addPoint_78 : decode prog_1_method_2_code 78 = .ok (.iload_n 3, 1) := by decide +kernel
theorem d_k_addPoint_79 : decode prog_1_method_2_code 79 = .ok (.iload_n 2, 1) := by decide +kernel
theorem d_k_addPoint_80 : decode prog_1_method_2_code 80 = .ok (.iastore, 1) := by decide +kernel
theorem d_k_addPoint_81 : decode prog_1_method_2_code 81 = .ok (.aload_n 0, 1) := by decide +kernel
theorem d_k_addPoint_82 : decode prog_1_method_2_code 82 = .ok (.iload_n 3, 1) := by decide +kernel
theorem d_k_addPoint_83 : decode prog_1_method_2_code 83 = .ok (.iconst 1, 1) := by decide +kernel
theorem d_k_addPoint_84 : decode prog_1_method_2_code 84 = .ok (.iadd, 1) := by decide +kernel
theorem d_k_addPoint_85 : decode prog_1_method_2_code 85 = .ok (.putfield 31, 3) := by decide +kernel
theorem d_k_addPoint_88 : decode prog_1_method_2_code 88 = .ok (.aload_n 0, 1) := by decide +kernel
theorem d_k_addPoint_89 : decode prog_1_method_2_code 89 = .ok (.iconst 0, 1) := by decide +kernel
theorem d_k_addPoint_90 : decode prog_1_method_2_code 90 = .ok (.putfield 34, 3) := by decide +kernel
theorem d_k_addPoint_93 : decode prog_1_method_2_code 93 = .ok (.iload_n 3, 1) := by decide +kernel
theorem d_k_addPoint_94 : decode prog_1_method_2_code 94 = .ok (.ireturn, 1) := by decide +kernel
theorem d_k_addPoint_22 : decode prog_1_method_2_code 22 = .ok (.iconst (-1), 1) := by decide +kernel
theorem d_k_addPoint_23 : decode prog_1_method_2_code 23 = .ok (.ireturn, 1) := by decide +kernel
def R_k_addPoint : Room := { frames := 1, cells := 0, slots := 0, locals := 14 }
abbrev G_k_addPoint (l : Launch) (Z : State) (n0 : Nat) (P : Heap → Prop) := Go l Z D n0 P (⟨"MinCircle", "addPoint", "(II)I"⟩ : MethodName) prog_1_method_2_code 4 (some .int) R_k_addPoint
theorem pd_k_addPoint : parseMethodDescriptor "(II)I" = some ⟨[.int, .int], some .int⟩ := by decide +kernel
theorem d_k_shuffle_0 : decode prog_1_method_20_code 0 = .ok (.iconst 0, 1) := by decide +kernel
theorem d_k_shuffle_1 : decode prog_1_method_20_code 1 = .ok (.istore_n 1, 1) := by decide +kernel
theorem d_k_shuffle_2 : decode prog_1_method_20_code 2 = .ok (.iload_n 1, 1) := by decide +kernel
theorem d_k_shuffle_3 : decode prog_1_method_20_code 3 = .ok (.aload_n 0, 1) := by decide +kernel
theorem d_k_shuffle_4 : decode prog_1_method_20_code 4 = .ok (.getfield 31, 3) := by decide +kernel
theorem d_k_shuffle_7 : decode prog_1_method_20_code 7 = .ok (.if_icmp .ge 16, 3) := by decide +kernel
theorem d_k_shuffle_10 : decode prog_1_method_20_code 10 = .ok (.aload_n 0, 1) := by decide +kernel
theorem d_k_shuffle_11 : decode prog_1_method_20_code 11 = .ok (.getfield 16, 3) := by decide +kernel
theorem d_k_shuffle_14 : decode prog_1_method_20_code 14 = .ok (.iload_n 1, 1) := by decide +kernel
theorem d_k_shuffle_15 : decode prog_1_method_20_code 15 = .ok (.iload_n 1, 1) := by decide +kernel
theorem d_k_shuffle_16 : decode prog_1_method_20_code 16 = .ok (.iastore, 1) := by decide +kernel
theorem d_k_shuffle_17 : decode prog_1_method_20_code 17 = .ok (.iinc 1 1, 3) := by decide +kernel
theorem d_k_shuffle_20 : decode prog_1_method_20_code 20 = .ok (.goto (-18), 3) := by decide +kernel
theorem d_k_shuffle_23 : decode prog_1_method_20_code 23 = .ok (.aload_n 0, 1) := by decide +kernel
theorem d_k_shuffle_24 : decode prog_1_method_20_code 24 = .ok (.getfield 31, 3) := by decide +kernel
theorem d_k_shuffle_27 : decode prog_1_method_20_code 27 = .ok (.iconst 1, 1) := by decide +kernel
theorem d_k_shuffle_28 : decode prog_1_method_20_code 28 = .ok (.isub, 1) := by decide +kernel
theorem d_k_shuffle_29 : decode prog_1_method_20_code 29 = .ok (.istore_n 1, 1) := by decide +kernel
theorem d_k_shuffle_30 : decode prog_1_method_20_code 30 = .ok (.iload_n 1, 1) := by decide +kernel
theorem d_k_shuffle_31 : decode prog_1_method_20_code 31 = .ok (.ifCond .le 54, 3) := by decide +kernel
theorem d_k_shuffle_85 : decode prog_1_method_20_code 85 = .ok (.return_, 1) := by decide +kernel
theorem d_k_shuffle_34 : decode prog_1_method_20_code 34 = .ok (.aload_n 0, 1) := by decide +kernel
theorem d_k_shuffle_35 : decode prog_1_method_20_code 35 = .ok (.iload_n 1, 1) := by decide +kernel
theorem d_k_shuffle_36 : decode prog_1_method_20_code 36 = .ok (.iconst 1, 1) := by decide +kernel
theorem d_k_shuffle_37 : decode prog_1_method_20_code 37 = .ok (.iadd, 1) := by decide +kernel
def R_k_shuffle : Room := { frames := 0, cells := 0, slots := 0, locals := 0 }
abbrev G_k_shuffle (l : Launch) (Z : State) (n0 : Nat) (P : Heap → Prop) := Go l Z D n0 P (⟨"MinCircle", "shuffle", "()V"⟩ : MethodName) prog_1_method_20_code 4 none R_k_shuffle
theorem pd_k_shuffle : parseMethodDescriptor "()V" = some ⟨[], none⟩ := by decide +kernel
theorem d_k_setPoint_0 : decode prog_1_method_25_code 0 = .ok (.aload_n 0, 1) := by decide +kernel
theorem d_k_setPoint_1 : decode prog_1_method_25_code 1 = .ok (.aload_n 0, 1) := by decide +kernel
theorem d_k_setPoint_2 : decode prog_1_method_25_code 2 = .ok (.getfield 7, 3) := by decide +kernel
theorem d_k_setPoint_5 : decode prog_1_method_25_code 5 = .ok (.iload_n 1, 1) := by decide +kernel
theorem d_k_setPoint_6 : decode prog_1_method_25_code 6 = .ok (.iaload, 1) := by decide +kernel
theorem d_k_setPoint_7 : decode prog_1_method_25_code 7 = .ok (.i2l, 1) := by decide +kernel
theorem d_k_setPoint_8 : decode prog_1_method_25_code 8 = .ok (.putfield 105, 3) := by decide +kernel
theorem d_k_setPoint_11 : decode prog_1_method_25_code 11 = .ok (.aload_n 0, 1) := by decide +kernel
theorem d_k_setPoint_12 : decode prog_1_method_25_code 12 = .ok (.aload_n 0, 1) := by decide +kernel
theorem d_k_setPoint_13 : decode prog_1_method_25_code 13 = .ok (.getfield 13, 3) := by decide +kernel
theorem d_k_setPoint_16 : decode prog_1_method_25_code 16 = .ok (.iload_n 1, 1) := by decide +kernel
theorem d_k_setPoint_17 : decode prog_1_method_25_code 17 = .ok (.iaload, 1) := by decide +kernel
theorem d_k_setPoint_18 : decode prog_1_method_25_code 18 = .ok (.i2l, 1) := by decide +kernel
theorem d_k_setPoint_19 : decode prog_1_method_25_code 19 = .ok (.putfield 108, 3) := by decide +kernel
theorem d_k_setPoint_22 : decode prog_1_method_25_code 22 = .ok (.aload_n 0, 1) := by decide +kernel
theorem d_k_setPoint_23 : decode prog_1_method_25_code 23 = .ok (.lconst 1, 1) := by decide +kernel
theorem d_k_setPoint_24 : decode prog_1_method_25_code 24 = .ok (.putfield 38, 3) := by decide +kernel
theorem d_k_setPoint_27 : decode prog_1_method_25_code 27 = .ok (.aload_n 0, 1) := by decide +kernel
theorem d_k_setPoint_28 : decode prog_1_method_25_code 28 = .ok (.lconst 0, 1) := by decide +kernel
theorem d_k_setPoint_29 : decode prog_1_method_25_code 29 = .ok (.putfield 111, 3) := by decide +kernel
theorem d_k_setPoint_32 : decode prog_1_method_25_code 32 = .ok (.return_, 1) := by decide +kernel
def R_k_setPoint : Room := { frames := 0, cells := 0, slots := 0, locals := 0 }
abbrev G_k_setPoint (l : Launch) (Z : State) (n0 : Nat) (P : Heap → Prop) := Go l Z D n0 P (⟨"MinCircle", "setPoint", "(I)V"⟩ : MethodName) prog_1_method_25_code 2 none R_k_setPoint
theorem pd_k_setPoint : parseMethodDescriptor "(I)V" = some ⟨[.int], none⟩ := by decide +kernel
theorem d_k_runIncremental_0 : decode prog_1_method_21_code 0 = .ok (.aload_n 0, 1) := by decide +kernel
theorem d_k_runIncremental_1 : decode prog_1_method_21_code 1 = .ok (.aload_n 0, 1) := by decide +kernel
theorem d_k_runIncremental_2 : decode prog_1_method_21_code 2 = .ok (.getfield 16, 3) := by decide +kernel
theorem d_k_runIncremental_5 : decode prog_1_method_21_code 5 = .ok (.iconst 0, 1) := by decide +kernel
theorem d_k_runIncremental_6 : decode prog_1_method_21_code 6 = .ok (.iaload, 1) := by decide +kernel
theorem d_k_runIncremental_7 : decode prog_1_method_21_code 7 = .ok (.invokevirtual 83, 3) := by decide +kernel
theorem d_k_runIncremental_10 : decode prog_1_method_21_code 10 = .ok (.iconst 1, 1) := by decide +kernel
theorem d_k_runIncremental_11 : decode prog_1_method_21_code 11 = .ok (.istore_n 1, 1) := by decide +kernel
theorem d_k_runIncremental_12 : decode prog_1_method_21_code 12 = .ok (.iload_n 1, 1) := by decide +kernel
theorem d_k_runIncremental_13 : decode prog_1_method_21_code 13 = .ok (.aload_n 0, 1) := by decide +kernel
theorem d_k_runIncremental_14 : decode prog_1_method_21_code 14 = .ok (.getfield 31, 3) := by decide +kernel
theorem d_k_runIncremental_17 : decode prog_1_method_21_code 17 = .ok (.if_icmp .ge 27, 3) := by decide +kernel
theorem d_k_runIncremental_20 : decode prog_1_method_21_code 20 = .ok (.aload_n 0, 1) := by decide +kernel
theorem d_k_runIncremental_21 : decode prog_1_method_21_code 21 = .ok (.aload_n 0, 1) := by decide +kernel
theorem d_k_runIncremental_22 : decode prog_1_method_21_code 22 = .ok (.getfield 16, 3) := by decide +kernel
theorem d_k_runIncremental_25 : decode prog_1_method_21_code 25 = .ok (.iload_n 1, 1) := by decide +kernel
theorem d_k_runIncremental_26 : decode prog_1_method_21_code 26 = .ok (.iaload, 1) := by decide +kernel
theorem d_k_runIncremental_44 : decode prog_1_method_21_code 44 = .ok (.return_, 1) := by decide +kernel
def R_k_runIncremental : Room := { frames := 1, cells := 0, slots := 0, locals := 13 }
abbrev G_k_runIncremental (l : Launch) (Z : State) (n0 : Nat) (P : Heap → Prop) := Go l Z D n0 P (⟨"MinCircle", "runIncremental", "()V"⟩ : MethodName) prog_1_method_21_code 2 none R_k_runIncremental
theorem pd_k_runIncremental : parseMethodDescriptor "()V" = some ⟨[], none⟩ := by decide +kernel
theorem d_k_absL_0 : decode prog_1_method_30_code 0 = .ok (.lload_n 1, 1) := by decide +kernel
theorem d_k_absL_1 : decode prog_1_method_30_code 1 = .ok (.lconst 0, 1) := by decide +kernel
theorem d_k_absL_3 : decode prog_1_method_30_code 3 = .ok (.ifCond .ge 8, 3) := by decide +kernel
theorem d_k_absL_2 : decode prog_1_method_30_code 2 = .ok (.lcmp, 1) := by decide +kernel
theorem d_k_absL_6 : decode prog_1_method_30_code 6 = .ok (.lload_n 1, 1) := by decide +kernel
theorem d_k_absL_7 : decode prog_1_method_30_code 7 = .ok (.lneg, 1) := by decide +kernel
theorem d_k_absL_8 : decode prog_1_method_30_code 8 = .ok (.goto 4, 3) := by decide +kernel
theorem d_k_absL_12 : decode prog_1_method_30_code 12 = .ok (.lreturn, 1) := by decide +kernel
theorem d_k_absL_11 : decode prog_1_method_30_code 11 = .ok (.lload_n 1, 1) := by decide +kernel
def R_k_absL : Room := { frames := 0, cells := 0, slots := 0, locals := 0 }
abbrev G_k_absL (l : Launch) (Z : State) (n0 : Nat) (P : Heap → Prop) := Go l Z D n0 P (⟨"MinCircle", "absL", "(J)J"⟩ : MethodName) prog_1_method_30_code 3 (some .long) R_k_absL
theorem pd_k_absL : parseMethodDescriptor "(J)J" = some ⟨[.long], some .long⟩ := by decide +kernel
theorem d_k_gcd_0 : decode prog_1_method_31_code 0 = .ok (.aload_n 0, 1) := by decide +kernel
theorem d_k_gcd_1 : decode prog_1_method_31_code 1 = .ok (.lload_n 1, 1) := by decide +kernel
theorem d_k_gcd_2 : decode prog_1_method_31_code 2 = .ok (.invokevirtual 122, 3) := by decide +kernel
theorem d_k_gcd_5 : decode prog_1_method_31_code 5 = .ok (.lstore 5, 2) := by decide +kernel
theorem d_k_gcd_7 : decode prog_1_method_31_code 7 = .ok (.aload_n 0, 1) := by decide +kernel
theorem d_k_gcd_8 : decode prog_1_method_31_code 8 = .ok (.lload_n 3, 1) := by decide +kernel
theorem d_k_gcd_9 : decode prog_1_method_31_code 9 = .ok (.invokevirtual 122, 3) := by decide +kernel
theorem d_k_gcd_12 : decode prog_1_method_31_code 12 = .ok (.lstore 7, 2) := by decide +kernel
theorem d_k_gcd_14 : decode prog_1_method_31_code 14 = .ok (.iconst 0, 1) := by decide +kernel
theorem d_k_gcd_15 : decode prog_1_method_31_code 15 = .ok (.istore 9, 2) := by decide +kernel
theorem d_k_gcd_17 : decode prog_1_method_31_code 17 = .ok (.iload 9, 2) := by decide +kernel
theorem d_k_gcd_19 : decode prog_1_method_31_code 19 = .ok (.sipush 200, 3) := by decide +kernel
theorem d_k_gcd_22 : decode prog_1_method_31_code 22 = .ok (.if_icmp .ge 31, 3) := by decide +kernel
theorem d_k_gcd_25 : decode prog_1_method_31_code 25 = .ok (.lload 7, 2) := by decide +kernel
theorem d_k_gcd_27 : decode prog_1_method_31_code 27 = .ok (.lconst 0, 1) := by decide +kernel
theorem d_k_gcd_29 : decode prog_1_method_31_code 29 = .ok (.ifCond .eq 24, 3) := by decide +kernel
theorem d_k_gcd_28 : decode prog_1_method_31_code 28 = .ok (.lcmp, 1) := by decide +kernel
theorem d_k_gcd_32 : decode prog_1_method_31_code 32 = .ok (.lload 5, 2) := by decide +kernel
theorem d_k_gcd_34 : decode prog_1_method_31_code 34 = .ok (.lload 7, 2) := by decide +kernel
theorem d_k_gcd_36 : decode prog_1_method_31_code 36 = .ok (.lrem, 1) := by decide +kernel
theorem d_k_gcd_37 : decode prog_1_method_31_code 37 = .ok (.lstore 10, 2) := by decide +kernel
theorem d_k_gcd_39 : decode prog_1_method_31_code 39 = .ok (.lload 7, 2) := by decide +kernel
theorem d_k_gcd_41 : decode prog_1_method_31_code 41 = .ok (.lstore 5, 2) := by decide +kernel
theorem d_k_gcd_43 : decode prog_1_method_31_code 43 = .ok (.lload 10, 2) := by decide +kernel
theorem d_k_gcd_45 : decode prog_1_method_31_code 45 = .ok (.lstore 7, 2) := by decide +kernel
theorem d_k_gcd_47 : decode prog_1_method_31_code 47 = .ok (.iinc 9 1, 3) := by decide +kernel
theorem d_k_gcd_50 : decode prog_1_method_31_code 50 = .ok (.goto (-33), 3) := by decide +kernel
theorem d_k_gcd_53 : decode prog_1_method_31_code 53 = .ok (.lload 5, 2) := by decide +kernel
theorem d_k_gcd_55 : decode prog_1_method_31_code 55 = .ok (.lreturn, 1) := by decide +kernel
def R_k_gcd : Room := { frames := 1, cells := 0, slots := 0, locals := 14 }
abbrev G_k_gcd (l : Launch) (Z : State) (n0 : Nat) (P : Heap → Prop) := Go l Z D n0 P (⟨"MinCircle", "gcd", "(JJ)J"⟩ : MethodName) prog_1_method_31_code 12 (some .long) R_k_gcd
theorem pd_k_gcd : parseMethodDescriptor "(JJ)J" = some ⟨[.long, .long], some .long⟩ := by decide +kernel
theorem d_k_pwFinal_0 : decode prog_1_method_34_code 0 = .ok (.iload_n 1, 1) := by decide +kernel
theorem d_k_pwFinal_1 : decode prog_1_method_34_code 1 = .ok (.i2l, 1) := by decide +kernel
theorem d_k_pwFinal_2 : decode prog_1_method_34_code 2 = .ok (.aload_n 0, 1) := by decide +kernel
theorem d_k_pwFinal_3 : decode prog_1_method_34_code 3 = .ok (.getfield 64, 3) := by decide +kernel
theorem d_k_pwFinal_6 : decode prog_1_method_34_code 6 = .ok (.lmul, 1) := by decide +kernel
theorem d_k_pwFinal_7 : decode prog_1_method_34_code 7 = .ok (.aload_n 0, 1) := by decide +kernel
theorem d_k_pwFinal_8 : decode prog_1_method_34_code 8 = .ok (.getfield 58, 3) := by decide +kernel
theorem d_k_pwFinal_11 : decode prog_1_method_34_code 11 = .ok (.lsub, 1) := by decide +kernel
theorem d_k_pwFinal_12 : decode prog_1_method_34_code 12 = .ok (.lstore_n 3, 1) := by decide +kernel
theorem d_k_pwFinal_13 : decode prog_1_method_34_code 13 = .ok (.iload_n 2, 1) := by decide +kernel
theorem d_k_pwFinal_14 : decode prog_1_method_34_code 14 = .ok (.i2l, 1) := by decide +kernel
theorem d_k_pwFinal_15 : decode prog_1_method_34_code 15 = .ok (.aload_n 0, 1) := by decide +kernel
theorem d_k_pwFinal_16 : decode prog_1_method_34_code 16 = .ok (.getfield 64, 3) := by decide +kernel
theorem d_k_pwFinal_19 : decode prog_1_method_34_code 19 = .ok (.lmul, 1) := by decide +kernel
theorem d_k_pwFinal_20 : decode prog_1_method_34_code 20 = .ok (.aload_n 0, 1) := by decide +kernel
theorem d_k_pwFinal_21 : decode prog_1_method_34_code 21 = .ok (.getfield 61, 3) := by decide +kernel
theorem d_k_pwFinal_24 : decode prog_1_method_34_code 24 = .ok (.lsub, 1) := by decide +kernel
theorem d_k_pwFinal_25 : decode prog_1_method_34_code 25 = .ok (.lstore 5, 2) := by decide +kernel
theorem d_k_pwFinal_27 : decode prog_1_method_34_code 27 = .ok (.lload_n 3, 1) := by decide +kernel
theorem d_k_pwFinal_28 : decode prog_1_method_34_code 28 = .ok (.lload_n 3, 1) := by decide +kernel
theorem d_k_pwFinal_29 : decode prog_1_method_34_code 29 = .ok (.lmul, 1) := by decide +kernel
theorem d_k_pwFinal_30 : decode prog_1_method_34_code 30 = .ok (.lload 5, 2) := by decide +kernel
theorem d_k_pwFinal_32 : decode prog_1_method_34_code 32 = .ok (.lload 5, 2) := by decide +kernel
theorem d_k_pwFinal_34 : decode prog_1_method_34_code 34 = .ok (.lmul, 1) := by decide +kernel
theorem d_k_pwFinal_35 : decode prog_1_method_34_code 35 = .ok (.ladd, 1) := by decide +kernel
theorem d_k_pwFinal_36 : decode prog_1_method_34_code 36 = .ok (.lreturn, 1) := by decide +kernel
def R_k_pwFinal : Room := { frames := 0, cells := 0, slots := 0, locals := 0 }
abbrev G_k_pwFinal (l : Launch) (Z : State) (n0 : Nat) (P : Heap → Prop) := Go l Z D n0 P (⟨"MinCircle", "pwFinal", "(II)J"⟩ : MethodName) prog_1_method_34_code 7 (some .long) R_k_pwFinal
theorem pd_k_pwFinal : parseMethodDescriptor "(II)J" = some ⟨[.int, .int], some .long⟩ := by decide +kernel
theorem d_k_recordRadius_0 : decode prog_1_method_33_code 0 = .ok (.lconst 0, 1) := by decide +kernel
theorem d_k_recordRadius_1 : decode prog_1_method_33_code 1 = .ok (.lstore_n 1, 1) := by decide +kernel
theorem d_k_recordRadius_2 : decode prog_1_method_33_code 2 = .ok (.iconst 0, 1) := by decide +kernel
theorem d_k_recordRadius_3 : decode prog_1_method_33_code 3 = .ok (.istore_n 3, 1) := by decide +kernel
theorem d_k_recordRadius_4 : decode prog_1_method_33_code 4 = .ok (.iload_n 3, 1) := by decide +kernel
theorem d_k_recordRadius_5 : decode prog_1_method_33_code 5 = .ok (.aload_n 0, 1) := by decide +kernel
theorem d_k_recordRadius_6 : decode prog_1_method_33_code 6 = .ok (.getfield 31, 3) := by decide +kernel
theorem d_k_recordRadius_9 : decode prog_1_method_33_code 9 = .ok (.if_icmp .ge 37, 3) := by decide +kernel
theorem d_k_recordRadius_12 : decode prog_1_method_33_code 12 = .ok (.aload_n 0, 1) := by decide +kernel
theorem d_k_recordRadius_13 : decode prog_1_method_33_code 13 = .ok (.aload_n 0, 1) := by decide +kernel
theorem d_k_recordRadius_14 : decode prog_1_method_33_code 14 = .ok (.getfield 7, 3) := by decide +kernel
theorem d_k_recordRadius_17 : decode prog_1_method_33_code 17 = .ok (.iload_n 3, 1) := by decide +kernel
theorem d_k_recordRadius_18 : decode prog_1_method_33_code 18 = .ok (.iaload, 1) := by decide +kernel
theorem d_k_recordRadius_19 : decode prog_1_method_33_code 19 = .ok (.aload_n 0, 1) := by decide +kernel
theorem d_k_recordRadius_20 : decode prog_1_method_33_code 20 = .ok (.getfield 13, 3) := by decide +kernel
theorem d_k_recordRadius_23 : decode prog_1_method_33_code 23 = .ok (.iload_n 3, 1) := by decide +kernel
theorem d_k_recordRadius_24 : decode prog_1_method_33_code 24 = .ok (.iaload, 1) := by decide +kernel
theorem d_k_recordRadius_25 : decode prog_1_method_33_code 25 = .ok (.invokevirtual 73, 3) := by decide +kernel
theorem d_k_recordRadius_28 : decode prog_1_method_33_code 28 = .ok (.lstore 4, 2) := by decide +kernel
theorem d_k_recordRadius_30 : decode prog_1_method_33_code 30 = .ok (.lload 4, 2) := by decide +kernel
theorem d_k_recordRadius_32 : decode prog_1_method_33_code 32 = .ok (.lload_n 1, 1) := by decide +kernel
theorem d_k_recordRadius_34 : decode prog_1_method_33_code 34 = .ok (.ifCond .le 6, 3) := by decide +kernel
theorem d_k_recordRadius_33 : decode prog_1_method_33_code 33 = .ok (.lcmp, 1) := by decide +kernel
theorem d_k_recordRadius_40 : decode prog_1_method_33_code 40 = .ok (.iinc 3 1, 3) := by decide +kernel
theorem d_k_recordRadius_43 : decode prog_1_method_33_code 43 = .ok (.goto (-39), 3) := by decide +kernel
theorem d_k_recordRadius_37 : decode prog_1_method_33_code 37 = .ok (.lload 4, 2) := by decide +kernel
theorem d_k_recordRadius_39 : decode prog_1_method_33_code 39 = .ok (.lstore_n 1, 1) := by decide +kernel
theorem d_k_recordRadius_46 : decode prog_1_method_33_code 46 = .ok (.aload_n 0, 1) := by decide +kernel
theorem d_k_recordRadius_47 : decode prog_1_method_33_code 47 = .ok (.lload_n 1, 1) := by decide +kernel
theorem d_k_recordRadius_48 : decode prog_1_method_33_code 48 = .ok (.putfield 67, 3) := by decide +kernel
theorem d_k_recordRadius_51 : decode prog_1_method_33_code 51 = .ok (.iconst 0, 1) := by decide +kernel
theorem d_k_recordRadius_52 : decode prog_1_method_33_code 52 = .ok (.istore_n 3, 1) := by decide +kernel
theorem d_k_recordRadius_53 : decode prog_1_method_33_code 53 = .ok (.iconst 0, 1) := by decide +kernel
theorem d_k_recordRadius_54 : decode prog_1_method_33_code 54 = .ok (.istore 4, 2) := by decide +kernel
theorem d_k_recordRadius_56 : decode prog_1_method_33_code 56 = .ok (.iload 4, 2) := by decide +kernel
theorem d_k_recordRadius_58 : decode prog_1_method_33_code 58 = .ok (.aload_n 0, 1) := by decide +kernel
theorem d_k_recordRadius_59 : decode prog_1_method_33_code 59 = .ok (.getfield 31, 3) := by decide +kernel
theorem d_k_recordRadius_62 : decode prog_1_method_33_code 62 = .ok (.if_icmp .ge 56, 3) := by decide +kernel
theorem d_k_recordRadius_65 : decode prog_1_method_33_code 65 = .ok (.aload_n 0, 1) := by decide +kernel
theorem d_k_recordRadius_66 : decode prog_1_method_33_code 66 = .ok (.aload_n 0, 1) := by decide +kernel
theorem d_k_recordRadius_67 : decode prog_1_method_33_code 67 = .ok (.getfield 7, 3) := by decide +kernel
theorem d_k_recordRadius_70 : decode prog_1_method_33_code 70 = .ok (.iload 4, 2) := by decide +kernel
theorem d_k_recordRadius_72 : decode prog_1_method_33_code 72 = .ok (.iaload, 1) := by decide +kernel
theorem d_k_recordRadius_73 : decode prog_1_method_33_code 73 = .ok (.aload_n 0, 1) := by decide +kernel
theorem d_k_recordRadius_74 : decode prog_1_method_33_code 74 = .ok (.getfield 13, 3) := by decide +kernel
theorem d_k_recordRadius_77 : decode prog_1_method_33_code 77 = .ok (.iload 4, 2) := by decide +kernel
theorem d_k_recordRadius_79 : decode prog_1_method_33_code 79 = .ok (.iaload, 1) := by decide +kernel
theorem d_k_recordRadius_80 : decode prog_1_method_33_code 80 = .ok (.invokevirtual 73, 3) := by decide +kernel
theorem d_k_recordRadius_83 : decode prog_1_method_33_code 83 = .ok (.lload_n 1, 1) := by decide +kernel
theorem d_k_recordRadius_85 : decode prog_1_method_33_code 85 = .ok (.ifCond .ne 7, 3) := by decide +kernel
theorem d_k_recordRadius_84 : decode prog_1_method_33_code 84 = .ok (.lcmp, 1) := by decide +kernel
theorem d_k_recordRadius_88 : decode prog_1_method_33_code 88 = .ok (.iconst 1, 1) := by decide +kernel
theorem d_k_recordRadius_89 : decode prog_1_method_33_code 89 = .ok (.goto 4, 3) := by decide +kernel
theorem d_k_recordRadius_93 : decode prog_1_method_33_code 93 = .ok (.istore 5, 2) := by decide +kernel
theorem d_k_recordRadius_95 : decode prog_1_method_33_code 95 = .ok (.aload_n 0, 1) := by decide +kernel
theorem d_k_recordRadius_96 : decode prog_1_method_33_code 96 = .ok (.getfield 19, 3) := by decide +kernel
theorem d_k_recordRadius_99 : decode prog_1_method_33_code 99 = .ok (.iload 4, 2) := by decide +kernel
theorem d_k_recordRadius_101 : decode prog_1_method_33_code 101 = .ok (.iload 5, 2) := by decide +kernel
theorem d_k_recordRadius_103 : decode prog_1_method_33_code 103 = .ok (.bastore, 1) := by decide +kernel
theorem d_k_recordRadius_104 : decode prog_1_method_33_code 104 = .ok (.iload 5, 2) := by decide +kernel
theorem d_k_recordRadius_106 : decode prog_1_method_33_code 106 = .ok (.ifCond .eq 6, 3) := by decide +kernel
theorem d_k_recordRadius_112 : decode prog_1_method_33_code 112 = .ok (.iinc 4 1, 3) := by decide +kernel
theorem d_k_recordRadius_115 : decode prog_1_method_33_code 115 = .ok (.goto (-59), 3) := by decide +kernel
theorem d_k_recordRadius_109 : decode prog_1_method_33_code 109 = .ok (.iinc 3 1, 3) := by decide +kernel
theorem d_k_recordRadius_92 : decode prog_1_method_33_code 92 = .ok (.iconst 0, 1) := by decide +kernel
theorem d_k_recordRadius_118 : decode prog_1_method_33_code 118 = .ok (.aload_n 0, 1) := by decide +kernel
theorem d_k_recordRadius_119 : decode prog_1_method_33_code 119 = .ok (.iload_n 3, 1) := by decide +kernel
theorem d_k_recordRadius_120 : decode prog_1_method_33_code 120 = .ok (.putfield 46, 3) := by decide +kernel
theorem d_k_recordRadius_123 : decode prog_1_method_33_code 123 = .ok (.return_, 1) := by decide +kernel
def R_k_recordRadius : Room := { frames := 1, cells := 0, slots := 0, locals := 18 }
abbrev G_k_recordRadius (l : Launch) (Z : State) (n0 : Nat) (P : Heap → Prop) := Go l Z D n0 P (⟨"MinCircle", "recordRadius", "()V"⟩ : MethodName) prog_1_method_33_code 6 none R_k_recordRadius
theorem pd_k_recordRadius : parseMethodDescriptor "()V" = some ⟨[], none⟩ := by decide +kernel
theorem d_k_computeKind_0 : decode prog_1_method_35_code 0 = .ok (.aload_n 0, 1) := by decide +kernel
theorem d_k_computeKind_1 : decode prog_1_method_35_code 1 = .ok (.getfield 67, 3) := by decide +kernel
theorem d_k_computeKind_4 : decode prog_1_method_35_code 4 = .ok (.lconst 0, 1) := by decide +kernel
theorem d_k_computeKind_6 : decode prog_1_method_35_code 6 = .ok (.ifCond .ne 5, 3) := by decide +kernel
theorem d_k_computeKind_5 : decode prog_1_method_35_code 5 = .ok (.lcmp, 1) := by decide +kernel
theorem d_k_computeKind_9 : decode prog_1_method_35_code 9 = .ok (.iconst 1, 1) := by decide +kernel
theorem d_k_computeKind_10 : decode prog_1_method_35_code 10 = .ok (.ireturn, 1) := by decide +kernel
theorem d_k_computeKind_11 : decode prog_1_method_35_code 11 = .ok (.ldc2_w 114, 3) := by decide +kernel
theorem d_k_computeKind_14 : decode prog_1_method_35_code 14 = .ok (.aload_n 0, 1) := by decide +kernel
theorem d_k_computeKind_15 : decode prog_1_method_35_code 15 = .ok (.getfield 58, 3) := by decide +kernel
theorem d_k_computeKind_18 : decode prog_1_method_35_code 18 = .ok (.lmul, 1) := by decide +kernel
theorem d_k_computeKind_19 : decode prog_1_method_35_code 19 = .ok (.lstore_n 1, 1) := by decide +kernel
theorem d_k_computeKind_20 : decode prog_1_method_35_code 20 = .ok (.ldc2_w 114, 3) := by decide +kernel
theorem d_k_computeKind_23 : decode prog_1_method_35_code 23 = .ok (.aload_n 0, 1) := by decide +kernel
theorem d_k_computeKind_24 : decode prog_1_method_35_code 24 = .ok (.getfield 61, 3) := by decide +kernel
theorem d_k_computeKind_27 : decode prog_1_method_35_code 27 = .ok (.lmul, 1) := by decide +kernel
theorem d_k_computeKind_28 : decode prog_1_method_35_code 28 = .ok (.lstore_n 3, 1) := by decide +kernel
theorem d_k_computeKind_29 : decode prog_1_method_35_code 29 = .ok (.iconst 0, 1) := by decide +kernel
theorem d_k_computeKind_30 : decode prog_1_method_35_code 30 = .ok (.istore 5, 2) := by decide +kernel
theorem d_k_computeKind_32 : decode prog_1_method_35_code 32 = .ok (.iload 5, 2) := by decide +kernel
theorem d_k_computeKind_34 : decode prog_1_method_35_code 34 = .ok (.aload_n 0, 1) := by decide +kernel
theorem d_k_computeKind_35 : decode prog_1_method_35_code 35 = .ok (.getfield 31, 3) := by decide +kernel
theorem d_k_computeKind_38 : decode prog_1_method_35_code 38 = .ok (.if_icmp .ge 94, 3) := by decide +kernel
theorem d_k_computeKind_41 : decode prog_1_method_35_code 41 = .ok (.iload 5, 2) := by decide +kernel
theorem d_k_computeKind_43 : decode prog_1_method_35_code 43 = .ok (.iconst 1, 1) := by decide +kernel
theorem d_k_computeKind_44 : decode prog_1_method_35_code 44 = .ok (.iadd, 1) := by decide +kernel
theorem d_k_computeKind_45 : decode prog_1_method_35_code 45 = .ok (.istore 6, 2) := by decide +kernel
theorem d_k_computeKind_47 : decode prog_1_method_35_code 47 = .ok (.iload 6, 2) := by decide +kernel
theorem d_k_computeKind_49 : decode prog_1_method_35_code 49 = .ok (.aload_n 0, 1) := by decide +kernel
theorem d_k_computeKind_50 : decode prog_1_method_35_code 50 = .ok (.getfield 31, 3) := by decide +kernel
theorem d_k_computeKind_53 : decode prog_1_method_35_code 53 = .ok (.if_icmp .ge 73, 3) := by decide +kernel
theorem d_k_computeKind_56 : decode prog_1_method_35_code 56 = .ok (.aload_n 0, 1) := by decide +kernel
theorem d_k_computeKind_57 : decode prog_1_method_35_code 57 = .ok (.getfield 7, 3) := by decide +kernel
theorem d_k_computeKind_60 : decode prog_1_method_35_code 60 = .ok (.iload 5, 2) := by decide +kernel
theorem d_k_computeKind_62 : decode prog_1_method_35_code 62 = .ok (.iaload, 1) := by decide +kernel
theorem d_k_computeKind_63 : decode prog_1_method_35_code 63 = .ok (.i2l, 1) := by decide +kernel
theorem d_k_computeKind_64 : decode prog_1_method_35_code 64 = .ok (.aload_n 0, 1) := by decide +kernel
theorem d_k_computeKind_65 : decode prog_1_method_35_code 65 = .ok (.getfield 7, 3) := by decide +kernel
theorem d_k_computeKind_68 : decode prog_1_method_35_code 68 = .ok (.iload 6, 2) := by decide +kernel
theorem d_k_computeKind_70 : decode prog_1_method_35_code 70 = .ok (.iaload, 1) := by decide +kernel
theorem d_k_computeKind_71 : decode prog_1_method_35_code 71 = .ok (.i2l, 1) := by decide +kernel
theorem d_k_computeKind_72 : decode prog_1_method_35_code 72 = .ok (.ladd, 1) := by decide +kernel
theorem d_k_computeKind_73 : decode prog_1_method_35_code 73 = .ok (.aload_n 0, 1) := by decide +kernel
theorem d_k_computeKind_74 : decode prog_1_method_35_code 74 = .ok (.getfield 64, 3) := by decide +kernel
theorem d_k_computeKind_77 : decode prog_1_method_35_code 77 = .ok (.lmul, 1) := by decide +kernel
theorem d_k_computeKind_78 : decode prog_1_method_35_code 78 = .ok (.lstore 7, 2) := by decide +kernel
theorem d_k_computeKind_80 : decode prog_1_method_35_code 80 = .ok (.aload_n 0, 1) := by decide +kernel
theorem d_k_computeKind_81 : decode prog_1_method_35_code 81 = .ok (.getfield 13, 3) := by decide +kernel
theorem d_k_computeKind_84 : decode prog_1_method_35_code 84 = .ok (.iload 5, 2) := by decide +kernel
theorem d_k_computeKind_86 : decode prog_1_method_35_code 86 = .ok (.iaload, 1) := by decide +kernel
theorem d_k_computeKind_87 : decode prog_1_method_35_code 87 = .ok (.i2l, 1) := by decide +kernel
theorem d_k_computeKind_88 : decode prog_1_method_35_code 88 = .ok (.aload_n 0, 1) := by decide +kernel
theorem d_k_computeKind_89 : decode prog_1_method_35_code 89 = .ok (.getfield 13, 3) := by decide +kernel
theorem d_k_computeKind_92 : decode prog_1_method_35_code 92 = .ok (.iload 6, 2) := by decide +kernel
theorem d_k_computeKind_94 : decode prog_1_method_35_code 94 = .ok (.iaload, 1) := by decide +kernel
theorem d_k_computeKind_95 : decode prog_1_method_35_code 95 = .ok (.i2l, 1) := by decide +kernel
theorem d_k_computeKind_96 : decode prog_1_method_35_code 96 = .ok (.ladd, 1) := by decide +kernel
theorem d_k_computeKind_97 : decode prog_1_method_35_code 97 = .ok (.aload_n 0, 1) := by decide +kernel
theorem d_k_computeKind_98 : decode prog_1_method_35_code 98 = .ok (.getfield 64, 3) := by decide +kernel
theorem d_k_computeKind_101 : decode prog_1_method_35_code 101 = .ok (.lmul, 1) := by decide +kernel
theorem d_k_computeKind_102 : decode prog_1_method_35_code 102 = .ok (.lstore 9, 2) := by decide +kernel
theorem d_k_computeKind_104 : decode prog_1_method_35_code 104 = .ok (.lload 7, 2) := by decide +kernel
theorem d_k_computeKind_106 : decode prog_1_method_35_code 106 = .ok (.lload_n 1, 1) := by decide +kernel
theorem d_k_computeKind_108 : decode prog_1_method_35_code 108 = .ok (.ifCond .ne 12, 3) := by decide +kernel
theorem d_k_computeKind_107 : decode prog_1_method_35_code 107 = .ok (.lcmp, 1) := by decide +kernel
theorem d_k_computeKind_111 : decode prog_1_method_35_code 111 = .ok (.lload 9, 2) := by decide +kernel
theorem d_k_computeKind_113 : decode prog_1_method_35_code 113 = .ok (.lload_n 3, 1) := by decide +kernel
theorem d_k_computeKind_115 : decode prog_1_method_35_code 115 = .ok (.ifCond .ne 5, 3) := by decide +kernel
theorem d_k_computeKind_114 : decode prog_1_method_35_code 114 = .ok (.lcmp, 1) := by decide +kernel
theorem d_k_computeKind_118 : decode prog_1_method_35_code 118 = .ok (.iconst 2, 1) := by decide +kernel
theorem d_k_computeKind_119 : decode prog_1_method_35_code 119 = .ok (.ireturn, 1) := by decide +kernel
theorem d_k_computeKind_120 : decode prog_1_method_35_code 120 = .ok (.iinc 6 1, 3) := by decide +kernel
theorem d_k_computeKind_123 : decode prog_1_method_35_code 123 = .ok (.goto (-76), 3) := by decide +kernel
theorem d_k_computeKind_126 : decode prog_1_method_35_code 126 = .ok (.iinc 5 1, 3) := by decide +kernel
theorem d_k_computeKind_129 : decode prog_1_method_35_code 129 = .ok (.goto (-97), 3) := by decide +kernel
theorem d_k_computeKind_132 : decode prog_1_method_35_code 132 = .ok (.iconst 3, 1) := by decide +kernel
theorem d_k_computeKind_133 : decode prog_1_method_35_code 133 = .ok (.ireturn, 1) := by decide +kernel
def R_k_computeKind : Room := { frames := 0, cells := 0, slots := 0, locals := 0 }
abbrev G_k_computeKind (l : Launch) (Z : State) (n0 : Nat) (P : Heap → Prop) := Go l Z D n0 P (⟨"MinCircle", "computeKind", "()I"⟩ : MethodName) prog_1_method_35_code 11 (some .int) R_k_computeKind
theorem pd_k_computeKind : parseMethodDescriptor "()I" = some ⟨[], some .int⟩ := by decide +kernel
theorem d_k_finishDisk_0 : decode prog_1_method_32_code 0 = .ok (.aload_n 0, 1) := by decide +kernel
theorem d_k_finishDisk_1 : decode prog_1_method_32_code 1 = .ok (.aload_n 0, 1) := by decide +kernel
theorem d_k_finishDisk_2 : decode prog_1_method_32_code 2 = .ok (.getfield 105, 3) := by decide +kernel
theorem d_k_finishDisk_5 : decode prog_1_method_32_code 5 = .ok (.aload_n 0, 1) := by decide +kernel
theorem d_k_finishDisk_6 : decode prog_1_method_32_code 6 = .ok (.getfield 108, 3) := by decide +kernel
theorem d_k_finishDisk_9 : decode prog_1_method_32_code 9 = .ok (.invokevirtual 126, 3) := by decide +kernel
theorem d_k_finishDisk_12 : decode prog_1_method_32_code 12 = .ok (.lstore_n 1, 1) := by decide +kernel
theorem d_k_finishDisk_13 : decode prog_1_method_32_code 13 = .ok (.aload_n 0, 1) := by decide +kernel
theorem d_k_finishDisk_14 : decode prog_1_method_32_code 14 = .ok (.lload_n 1, 1) := by decide +kernel
theorem d_k_finishDisk_15 : decode prog_1_method_32_code 15 = .ok (.aload_n 0, 1) := by decide +kernel
theorem d_k_finishDisk_16 : decode prog_1_method_32_code 16 = .ok (.getfield 38, 3) := by decide +kernel
theorem d_k_finishDisk_19 : decode prog_1_method_32_code 19 = .ok (.invokevirtual 126, 3) := by decide +kernel
theorem d_k_finishDisk_22 : decode prog_1_method_32_code 22 = .ok (.lstore_n 3, 1) := by decide +kernel
theorem d_k_finishDisk_23 : decode prog_1_method_32_code 23 = .ok (.lload_n 3, 1) := by decide +kernel
theorem d_k_finishDisk_24 : decode prog_1_method_32_code 24 = .ok (.lconst 0, 1) := by decide +kernel
theorem d_k_finishDisk_26 : decode prog_1_method_32_code 26 = .ok (.ifCond .gt 5, 3) := by decide +kernel
theorem d_k_finishDisk_25 : decode prog_1_method_32_code 25 = .ok (.lcmp, 1) := by decide +kernel
theorem d_k_finishDisk_31 : decode prog_1_method_32_code 31 = .ok (.aload_n 0, 1) := by decide +kernel
theorem d_k_finishDisk_32 : decode prog_1_method_32_code 32 = .ok (.aload_n 0, 1) := by decide +kernel
theorem d_k_finishDisk_33 : decode prog_1_method_32_code 33 = .ok (.getfield 38, 3) := by decide +kernel
theorem d_k_finishDisk_36 : decode prog_1_method_32_code 36 = .ok (.lload_n 3, 1) := by decide +kernel
theorem d_k_finishDisk_37 : decode prog_1_method_32_code 37 = .ok (.ldiv, 1) := by decide +kernel
theorem d_k_finishDisk_38 : decode prog_1_method_32_code 38 = .ok (.putfield 64, 3) := by decide +kernel
theorem d_k_finishDisk_41 : decode prog_1_method_32_code 41 = .ok (.aload_n 0, 1) := by decide +kernel
theorem d_k_finishDisk_42 : decode prog_1_method_32_code 42 = .ok (.getfield 64, 3) := by decide +kernel
theorem d_k_finishDisk_45 : decode prog_1_method_32_code 45 = .ok (.lconst 0, 1) := by decide +kernel
theorem d_k_finishDisk_47 : decode prog_1_method_32_code 47 = .ok (.ifCond .gt 8, 3) := by decide +kernel
theorem d_k_finishDisk_46 : decode prog_1_method_32_code 46 = .ok (.lcmp, 1) := by decide +kernel
theorem d_k_finishDisk_55 : decode prog_1_method_32_code 55 = .ok (.aload_n 0, 1) := by decide +kernel
theorem d_k_finishDisk_56 : decode prog_1_method_32_code 56 = .ok (.aload_n 0, 1) := by decide +kernel
theorem d_k_finishDisk_57 : decode prog_1_method_32_code 57 = .ok (.getfield 105, 3) := by decide +kernel
theorem d_k_finishDisk_60 : decode prog_1_method_32_code 60 = .ok (.lload_n 3, 1) := by decide +kernel
theorem d_k_finishDisk_61 : decode prog_1_method_32_code 61 = .ok (.ldiv, 1) := by decide +kernel
theorem d_k_finishDisk_62 : decode prog_1_method_32_code 62 = .ok (.putfield 58, 3) := by decide +kernel
theorem d_k_finishDisk_65 : decode prog_1_method_32_code 65 = .ok (.aload_n 0, 1) := by decide +kernel
theorem d_k_finishDisk_66 : decode prog_1_method_32_code 66 = .ok (.aload_n 0, 1) := by decide +kernel
theorem d_k_finishDisk_67 : decode prog_1_method_32_code 67 = .ok (.getfield 108, 3) := by decide +kernel
theorem d_k_finishDisk_70 : decode prog_1_method_32_code 70 = .ok (.lload_n 3, 1) := by decide +kernel
theorem d_k_finishDisk_71 : decode prog_1_method_32_code 71 = .ok (.ldiv, 1) := by decide +kernel
theorem d_k_finishDisk_72 : decode prog_1_method_32_code 72 = .ok (.putfield 61, 3) := by decide +kernel
theorem d_k_finishDisk_75 : decode prog_1_method_32_code 75 = .ok (.aload_n 0, 1) := by decide +kernel
theorem d_k_finishDisk_76 : decode prog_1_method_32_code 76 = .ok (.invokevirtual 130, 3) := by decide +kernel
theorem d_k_finishDisk_79 : decode prog_1_method_32_code 79 = .ok (.aload_n 0, 1) := by decide +kernel
theorem d_k_finishDisk_80 : decode prog_1_method_32_code 80 = .ok (.aload_n 0, 1) := by decide +kernel
theorem d_k_finishDisk_81 : decode prog_1_method_32_code 81 = .ok (.invokevirtual 133, 3) := by decide +kernel
theorem d_k_finishDisk_84 : decode prog_1_method_32_code 84 = .ok (.putfield 70, 3) := by decide +kernel
theorem d_k_finishDisk_87 : decode prog_1_method_32_code 87 = .ok (.return_, 1) := by decide +kernel
theorem d_k_finishDisk_50 : decode prog_1_method_32_code 50 = .ok (.aload_n 0, 1) := by decide +kernel
theorem d_k_finishDisk_51 : decode prog_1_method_32_code 51 = .ok (.lconst 1, 1) := by decide +kernel
theorem d_k_finishDisk_52 : decode prog_1_method_32_code 52 = .ok (.putfield 64, 3) := by decide +kernel
theorem d_k_finishDisk_29 : decode prog_1_method_32_code 29 = .ok (.lconst 1, 1) := by decide +kernel
theorem d_k_finishDisk_30 : decode prog_1_method_32_code 30 = .ok (.lstore_n 3, 1) := by decide +kernel
def R_k_finishDisk : Room := { frames := 2, cells := 0, slots := 0, locals := 37 }
abbrev G_k_finishDisk (l : Launch) (Z : State) (n0 : Nat) (P : Heap → Prop) := Go l Z D n0 P (⟨"MinCircle", "finishDisk", "()V"⟩ : MethodName) prog_1_method_32_code 5 none R_k_finishDisk
theorem pd_k_finishDisk : parseMethodDescriptor "()V" = some ⟨[], none⟩ := by decide +kernel
theorem d_k_solve_0 : decode prog_1_method_5_code 0 = .ok (.aload_n 0, 1) := by decide +kernel
theorem d_k_solve_1 : decode prog_1_method_5_code 1 = .ok (.getfield 31, 3) := by decide +kernel
theorem d_k_solve_4 : decode prog_1_method_5_code 4 = .ok (.ifCond .gt 5, 3) := by decide +kernel
theorem d_k_solve_9 : decode prog_1_method_5_code 9 = .ok (.aload_n 0, 1) := by decide +kernel
theorem d_k_solve_10 : decode prog_1_method_5_code 10 = .ok (.getfield 34, 3) := by decide +kernel
theorem d_k_solve_13 : decode prog_1_method_5_code 13 = .ok (.ifCond .eq 8, 3) := by decide +kernel
theorem d_k_solve_21 : decode prog_1_method_5_code 21 = .ok (.aload_n 0, 1) := by decide +kernel
theorem d_k_solve_22 : decode prog_1_method_5_code 22 = .ok (.invokevirtual 49, 3) := by decide +kernel
theorem d_k_solve_25 : decode prog_1_method_5_code 25 = .ok (.aload_n 0, 1) := by decide +kernel
theorem d_k_solve_26 : decode prog_1_method_5_code 26 = .ok (.invokevirtual 52, 3) := by decide +kernel
theorem d_k_solve_29 : decode prog_1_method_5_code 29 = .ok (.aload_n 0, 1) := by decide +kernel
theorem d_k_solve_30 : decode prog_1_method_5_code 30 = .ok (.invokevirtual 55, 3) := by decide +kernel
theorem d_k_solve_33 : decode prog_1_method_5_code 33 = .ok (.aload_n 0, 1) := by decide +kernel
theorem d_k_solve_34 : decode prog_1_method_5_code 34 = .ok (.iconst 1, 1) := by decide +kernel
theorem d_k_solve_35 : decode prog_1_method_5_code 35 = .ok (.putfield 34, 3) := by decide +kernel
theorem d_k_solve_38 : decode prog_1_method_5_code 38 = .ok (.aload_n 0, 1) := by decide +kernel
theorem d_k_solve_39 : decode prog_1_method_5_code 39 = .ok (.getfield 46, 3) := by decide +kernel
theorem d_k_solve_42 : decode prog_1_method_5_code 42 = .ok (.ireturn, 1) := by decide +kernel
theorem d_k_solve_16 : decode prog_1_method_5_code 16 = .ok (.aload_n 0, 1) := by decide +kernel
theorem d_k_solve_17 : decode prog_1_method_5_code 17 = .ok (.getfield 46, 3) := by decide +kernel
theorem d_k_solve_20 : decode prog_1_method_5_code 20 = .ok (.ireturn, 1) := by decide +kernel
theorem d_k_solve_7 : decode prog_1_method_5_code 7 = .ok (.iconst (-1), 1) := by decide +kernel
theorem d_k_solve_8 : decode prog_1_method_5_code 8 = .ok (.ireturn, 1) := by decide +kernel
def R_k_solve : Room := { frames := 3, cells := 0, slots := 0, locals := 53 }
abbrev G_k_solve (l : Launch) (Z : State) (n0 : Nat) (P : Heap → Prop) := Go l Z D n0 P (⟨"MinCircle", "solve", "()I"⟩ : MethodName) prog_1_method_5_code 1 (some .int) R_k_solve
theorem pd_k_solve : parseMethodDescriptor "()I" = some ⟨[], some .int⟩ := by decide +kernel
theorem d_k_isSolved_0 : decode prog_1_method_9_code 0 = .ok (.aload_n 0, 1) := by decide +kernel
theorem d_k_isSolved_1 : decode prog_1_method_9_code 1 = .ok (.getfield 34, 3) := by decide +kernel
theorem d_k_isSolved_4 : decode prog_1_method_9_code 4 = .ok (.ireturn, 1) := by decide +kernel
def R_k_isSolved : Room := { frames := 0, cells := 0, slots := 0, locals := 0 }
abbrev G_k_isSolved (l : Launch) (Z : State) (n0 : Nat) (P : Heap → Prop) := Go l Z D n0 P (⟨"MinCircle", "isSolved", "()Z"⟩ : MethodName) prog_1_method_9_code 1 (some .boolean) R_k_isSolved
theorem pd_k_isSolved : parseMethodDescriptor "()Z" = some ⟨[], some .boolean⟩ := by decide +kernel
theorem d_k_centreXNum_0 : decode prog_1_method_10_code 0 = .ok (.aload_n 0, 1) := by decide +kernel
theorem d_k_centreXNum_1 : decode prog_1_method_10_code 1 = .ok (.getfield 34, 3) := by decide +kernel
theorem d_k_centreXNum_4 : decode prog_1_method_10_code 4 = .ok (.ifCond .eq 10, 3) := by decide +kernel
theorem d_k_centreXNum_14 : decode prog_1_method_10_code 14 = .ok (.lconst 0, 1) := by decide +kernel
theorem d_k_centreXNum_15 : decode prog_1_method_10_code 15 = .ok (.lreturn, 1) := by decide +kernel
theorem d_k_centreXNum_7 : decode prog_1_method_10_code 7 = .ok (.aload_n 0, 1) := by decide +kernel
theorem d_k_centreXNum_8 : decode prog_1_method_10_code 8 = .ok (.getfield 58, 3) := by decide +kernel
theorem d_k_centreXNum_11 : decode prog_1_method_10_code 11 = .ok (.goto 4, 3) := by decide +kernel
def R_k_centreXNum : Room := { frames := 0, cells := 0, slots := 0, locals := 0 }
abbrev G_k_centreXNum (l : Launch) (Z : State) (n0 : Nat) (P : Heap → Prop) := Go l Z D n0 P (⟨"MinCircle", "centreXNum", "()J"⟩ : MethodName) prog_1_method_10_code 1 (some .long) R_k_centreXNum
theorem pd_k_centreXNum : parseMethodDescriptor "()J" = some ⟨[], some .long⟩ := by decide +kernel
theorem d_k_centreYNum_0 : decode prog_1_method_11_code 0 = .ok (.aload_n 0, 1) := by decide +kernel
theorem d_k_centreYNum_1 : decode prog_1_method_11_code 1 = .ok (.getfield 34, 3) := by decide +kernel
theorem d_k_centreYNum_4 : decode prog_1_method_11_code 4 = .ok (.ifCond .eq 10, 3) := by decide +kernel
theorem d_k_centreYNum_14 : decode prog_1_method_11_code 14 = .ok (.lconst 0, 1) := by decide +kernel
theorem d_k_centreYNum_15 : decode prog_1_method_11_code 15 = .ok (.lreturn, 1) := by decide +kernel
theorem d_k_centreYNum_7 : decode prog_1_method_11_code 7 = .ok (.aload_n 0, 1) := by decide +kernel
theorem d_k_centreYNum_8 : decode prog_1_method_11_code 8 = .ok (.getfield 61, 3) := by decide +kernel
theorem d_k_centreYNum_11 : decode prog_1_method_11_code 11 = .ok (.goto 4, 3) := by decide +kernel
def R_k_centreYNum : Room := { frames := 0, cells := 0, slots := 0, locals := 0 }
abbrev G_k_centreYNum (l : Launch) (Z : State) (n0 : Nat) (P : Heap → Prop) := Go l Z D n0 P (⟨"MinCircle", "centreYNum", "()J"⟩ : MethodName) prog_1_method_11_code 1 (some .long) R_k_centreYNum
theorem pd_k_centreYNum : parseMethodDescriptor "()J" = some ⟨[], some .long⟩ := by decide +kernel
theorem d_k_centreDen_0 : decode prog_1_method_12_code 0 = .ok (.aload_n 0, 1) := by decide +kernel
theorem d_k_centreDen_1 : decode prog_1_method_12_code 1 = .ok (.getfield 34, 3) := by decide +kernel
theorem d_k_centreDen_4 : decode prog_1_method_12_code 4 = .ok (.ifCond .eq 10, 3) := by decide +kernel
theorem d_k_centreDen_14 : decode prog_1_method_12_code 14 = .ok (.lconst 0, 1) := by decide +kernel
theorem d_k_centreDen_15 : decode prog_1_method_12_code 15 = .ok (.lreturn, 1) := by decide +kernel
theorem d_k_centreDen_7 : decode prog_1_method_12_code 7 = .ok (.aload_n 0, 1) := by decide +kernel
theorem d_k_centreDen_8 : decode prog_1_method_12_code 8 = .ok (.getfield 64, 3) := by decide +kernel
theorem d_k_centreDen_11 : decode prog_1_method_12_code 11 = .ok (.goto 4, 3) := by decide +kernel
def R_k_centreDen : Room := { frames := 0, cells := 0, slots := 0, locals := 0 }
abbrev G_k_centreDen (l : Launch) (Z : State) (n0 : Nat) (P : Heap → Prop) := Go l Z D n0 P (⟨"MinCircle", "centreDen", "()J"⟩ : MethodName) prog_1_method_12_code 1 (some .long) R_k_centreDen
theorem pd_k_centreDen : parseMethodDescriptor "()J" = some ⟨[], some .long⟩ := by decide +kernel
theorem d_k_radiusSqNum_0 : decode prog_1_method_13_code 0 = .ok (.aload_n 0, 1) := by decide +kernel
theorem d_k_radiusSqNum_1 : decode prog_1_method_13_code 1 = .ok (.getfield 34, 3) := by decide +kernel
theorem d_k_radiusSqNum_4 : decode prog_1_method_13_code 4 = .ok (.ifCond .eq 10, 3) := by decide +kernel
theorem d_k_radiusSqNum_14 : decode prog_1_method_13_code 14 = .ok (.lconst 0, 1) := by decide +kernel
theorem d_k_radiusSqNum_15 : decode prog_1_method_13_code 15 = .ok (.lreturn, 1) := by decide +kernel
theorem d_k_radiusSqNum_7 : decode prog_1_method_13_code 7 = .ok (.aload_n 0, 1) := by decide +kernel
theorem d_k_radiusSqNum_8 : decode prog_1_method_13_code 8 = .ok (.getfield 67, 3) := by decide +kernel
theorem d_k_radiusSqNum_11 : decode prog_1_method_13_code 11 = .ok (.goto 4, 3) := by decide +kernel
def R_k_radiusSqNum : Room := { frames := 0, cells := 0, slots := 0, locals := 0 }
abbrev G_k_radiusSqNum (l : Launch) (Z : State) (n0 : Nat) (P : Heap → Prop) := Go l Z D n0 P (⟨"MinCircle", "radiusSqNum", "()J"⟩ : MethodName) prog_1_method_13_code 1 (some .long) R_k_radiusSqNum
theorem pd_k_radiusSqNum : parseMethodDescriptor "()J" = some ⟨[], some .long⟩ := by decide +kernel
theorem d_k_kind_0 : decode prog_1_method_14_code 0 = .ok (.aload_n 0, 1) := by decide +kernel
theorem d_k_kind_1 : decode prog_1_method_14_code 1 = .ok (.getfield 34, 3) := by decide +kernel
theorem d_k_kind_4 : decode prog_1_method_14_code 4 = .ok (.ifCond .eq 10, 3) := by decide +kernel
theorem d_k_kind_14 : decode prog_1_method_14_code 14 = .ok (.iconst 0, 1) := by decide +kernel
theorem d_k_kind_15 : decode prog_1_method_14_code 15 = .ok (.ireturn, 1) := by decide +kernel
theorem d_k_kind_7 : decode prog_1_method_14_code 7 = .ok (.aload_n 0, 1) := by decide +kernel
theorem d_k_kind_8 : decode prog_1_method_14_code 8 = .ok (.getfield 70, 3) := by decide +kernel
theorem d_k_kind_11 : decode prog_1_method_14_code 11 = .ok (.goto 4, 3) := by decide +kernel
def R_k_kind : Room := { frames := 0, cells := 0, slots := 0, locals := 0 }
abbrev G_k_kind (l : Launch) (Z : State) (n0 : Nat) (P : Heap → Prop) := Go l Z D n0 P (⟨"MinCircle", "kind", "()I"⟩ : MethodName) prog_1_method_14_code 1 (some .int) R_k_kind
theorem pd_k_kind : parseMethodDescriptor "()I" = some ⟨[], some .int⟩ := by decide +kernel
theorem d_k_boundaryCount_0 : decode prog_1_method_15_code 0 = .ok (.aload_n 0, 1) := by decide +kernel
theorem d_k_boundaryCount_1 : decode prog_1_method_15_code 1 = .ok (.getfield 34, 3) := by decide +kernel
theorem d_k_boundaryCount_4 : decode prog_1_method_15_code 4 = .ok (.ifCond .eq 10, 3) := by decide +kernel
theorem d_k_boundaryCount_14 : decode prog_1_method_15_code 14 = .ok (.iconst 0, 1) := by decide +kernel
theorem d_k_boundaryCount_15 : decode prog_1_method_15_code 15 = .ok (.ireturn, 1) := by decide +kernel
theorem d_k_boundaryCount_7 : decode prog_1_method_15_code 7 = .ok (.aload_n 0, 1) := by decide +kernel
theorem d_k_boundaryCount_8 : decode prog_1_method_15_code 8 = .ok (.getfield 46, 3) := by decide +kernel
theorem d_k_boundaryCount_11 : decode prog_1_method_15_code 11 = .ok (.goto 4, 3) := by decide +kernel
def R_k_boundaryCount : Room := { frames := 0, cells := 0, slots := 0, locals := 0 }
abbrev G_k_boundaryCount (l : Launch) (Z : State) (n0 : Nat) (P : Heap → Prop) := Go l Z D n0 P (⟨"MinCircle", "boundaryCount", "()I"⟩ : MethodName) prog_1_method_15_code 1 (some .int) R_k_boundaryCount
theorem pd_k_boundaryCount : parseMethodDescriptor "()I" = some ⟨[], some .int⟩ := by decide +kernel
def R_u_law : Room := room_1
abbrev G_u_law (l : Launch) (Z : State) (n0 : Nat) (P : Heap → Prop) := Go l Z D n0 P x code maxLocals ret room_1
theorem pd_u_law : parseMethodDescriptor "(IIII)Z" = some ⟨[.int, .int, .int, .int], some .boolean⟩ := by decide +kernel
set_option maxRecDepth 65536 in
set_option maxHeartbeats 4000000 in
theorem tj_k_ctor_79 {l : Launch} {Z : State} {a0 : Array Value} (hw : ∀ d ∈ tables_1, d.before a0 Z = true) {n0 : Nat} {P : Heap → Prop} {F : Nat} {b0 : Nat} {Oz0 : Mo} {O0 : Mo} {v3 v4 : Int} (hf : j_k_ctor_79 F O0 v3 v4 = some Oz0) :
    G_k_ctor l Z n0 P 79 [some (vR b0), none, none, some (vI v3), some (vI v4)] [] [(b0, 4, O0)] ((b0 + 5)) 4 128 (QM Z D n0 P none [(b0, 4, Oz0)] (b0 + 5)) := by
  unfold j_k_ctor_79 at hf
  refine Go.aloadN (pc2 := 80) d_k_ctor_79 rfl rfl ?_
  refine Go.iloadN (pc2 := 81) d_k_ctor_80 rfl rfl ?_
  refine Go.putf (pc2 := 84) (cw_ok hw) d_k_ctor_81 rfl rfl D_C (by exact w_20 hw) (by exact Or.inl (w_21 hw)) (by exact w_1 hw) (q := 0) rfl (x := v3) (x' := v3) (fs_cap) rfl rfl (os2 := [(b0, 4, (upd O0 0 0 v3))]) rfl ?_
  refine Go.aloadN (pc2 := 85) d_k_ctor_84 rfl rfl ?_
  refine Go.iload (pc2 := 87) d_k_ctor_85 rfl rfl ?_
  refine Go.putf (pc2 := 90) (cw_ok hw) d_k_ctor_87 rfl rfl D_C (by exact w_22 hw) (by exact Or.inl (w_23 hw)) (by exact w_1 hw) (q := 0) rfl (x := v4) (x' := v4) (fs_rng) rfl rfl (os2 := [(b0, 4, (upd (upd O0 0 0 v3) 0 1 v4))]) rfl ?_
  refine Go.aloadN (pc2 := 91) d_k_ctor_90 rfl rfl ?_
  refine Go.iconst (pc2 := 92) d_k_ctor_91 rfl (by decide) ?_
  refine Go.putf (pc2 := 95) (cw_ok hw) d_k_ctor_92 rfl rfl D_C (by exact w_24 hw) (by exact Or.inl (w_25 hw)) (by exact w_1 hw) (q := 0) rfl (x := 0) (x' := 0) (fs_n) rfl rfl (os2 := [(b0, 4, (upd (upd (upd O0 0 0 v3) 0 1 v4) 0 2 0))]) rfl ?_
  refine Go.aloadN (pc2 := 96) d_k_ctor_95 rfl rfl ?_
  refine Go.iconst (pc2 := 97) d_k_ctor_96 rfl (by decide) ?_
  refine Go.putf (pc2 := 100) (cw_ok hw) d_k_ctor_97 rfl rfl D_C (by exact w_26 hw) (by exact Or.inl (w_27 hw)) (by exact w_1 hw) (q := 0) rfl (x := 0) (x' := 0) (fs_solved) rfl rfl (os2 := [(b0, 4, (upd (upd (upd (upd O0 0 0 v3) 0 1 v4) 0 2 0) 0 3 0))]) rfl ?_
  refine Go.aloadN (pc2 := 101) d_k_ctor_100 rfl rfl ?_
  refine Go.lconst (pc2 := 102) (i := 1) d_k_ctor_101 rfl (by decide) ?_
  refine Go.putf (pc2 := 105) (cw_ok hw) d_k_ctor_102 rfl rfl D_C (by exact w_28 hw) (by exact Or.inl (w_29 hw)) (by exact w_1 hw) (q := 0) rfl (x := 1) (x' := 1) (fs_td) rfl rfl (os2 := [(b0, 4, (upd (upd (upd (upd (upd O0 0 0 v3) 0 1 v4) 0 2 0) 0 3 0) 0 12 1))]) rfl ?_
  cases hf
  exact Go.retv d_k_ctor_105 rfl (Nat.le_of_ble_eq_true rfl) (Nat.le_of_ble_eq_true rfl) (fun _ H => ⟨rfl, H⟩)
set_option maxRecDepth 65536 in
set_option maxHeartbeats 4000000 in
theorem tj_k_ctor_68 {l : Launch} {Z : State} {a0 : Array Value} (hw : ∀ d ∈ tables_1, d.before a0 Z = true) {n0 : Nat} {P : Heap → Prop} {F : Nat} {b0 : Nat} {Oz0 : Mo} {O0 : Mo} {v3 v4 : Int} (hf : j_k_ctor_68 F O0 v3 v4 = some Oz0) :
    G_k_ctor l Z n0 P 68 [some (vR b0), none, none, some (vI v3), some (vI v4)] [] [(b0, 4, O0)] ((b0 + 5)) 4 128 (QM Z D n0 P none [(b0, 4, Oz0)] (b0 + 5)) := by
  unfold j_k_ctor_68 at hf
  refine Go.iload (pc2 := 70) d_k_ctor_68 rfl rfl ?_
  refine Go.ldc (pc2 := 72) (i := 65535) d_k_ctor_70 rfl rfl (by exact w_19 hw) (by decide) ?_
  by_cases hc : v4 ≤ 65535
  · replace hf := ifp hc hf
    refine Go.icmpT (pc2 := 79) d_k_ctor_72 hc (by decide) (by decide) ?_
    exact tj_k_ctor_79 hw hf
  · replace hf := ifn hc hf
    refine Go.icmpF (pc2 := 75) d_k_ctor_72 hc rfl ?_
    refine Go.ldc (pc2 := 77) (i := 65535) d_k_ctor_75 rfl rfl (by exact w_19 hw) (by decide) ?_
    refine Go.istore (pc2 := 79) (L2 := [some (vR b0), none, none, some (vI v3), some (vI 65535)]) d_k_ctor_77 rfl (Nat.le_of_ble_eq_true rfl) rfl ?_
    exact tj_k_ctor_79 hw hf
set_option maxRecDepth 65536 in
set_option maxHeartbeats 4000000 in
theorem tj_k_ctor_56 {l : Launch} {Z : State} {a0 : Array Value} (hw : ∀ d ∈ tables_1, d.before a0 Z = true) {n0 : Nat} {P : Heap → Prop} {F : Nat} {b0 : Nat} {Oz0 : Mo} {O0 : Mo} {v2 v3 : Int} (hf : j_k_ctor_56 F O0 v2 v3 = some Oz0) :
    G_k_ctor l Z n0 P 56 [some (vR b0), none, some (vI v2), some (vI v3), none] [] [(b0, 4, O0)] ((b0 + 5)) 4 128 (QM Z D n0 P none [(b0, 4, Oz0)] (b0 + 5)) := by
  unfold j_k_ctor_56 at hf
  refine Go.iloadN (pc2 := 57) d_k_ctor_56 rfl rfl ?_
  refine Go.istore (pc2 := 59) (L2 := [some (vR b0), none, some (vI v2), some (vI v3), some (vI v2)]) d_k_ctor_57 rfl (Nat.le_of_ble_eq_true rfl) rfl ?_
  refine Go.iload (pc2 := 61) d_k_ctor_59 rfl rfl ?_
  refine Go.iconst (pc2 := 62) d_k_ctor_61 rfl (by decide) ?_
  by_cases hc : v2 < 1
  · replace hf := ifp hc hf
    refine Go.icmpF (pc2 := 65) d_k_ctor_62 (Int.not_le.mpr hc) rfl ?_
    refine Go.iconst (pc2 := 66) d_k_ctor_65 rfl (by decide) ?_
    refine Go.istore (pc2 := 68) (L2 := [some (vR b0), none, some (vI v2), some (vI v3), some (vI 1)]) d_k_ctor_66 rfl (Nat.le_of_ble_eq_true rfl) rfl ?_
    exact Go.mask [true, true, false, true, true] (tj_k_ctor_68 hw hf)
  · replace hf := ifn hc hf
    refine Go.icmpT (pc2 := 68) d_k_ctor_62 (Int.not_lt.mp hc) (by decide) (by decide) ?_
    exact Go.mask [true, true, false, true, true] (tj_k_ctor_68 hw hf)
set_option maxRecDepth 65536 in
set_option maxHeartbeats 4000000 in
theorem tj_k_ctor_47 {l : Launch} {Z : State} {a0 : Array Value} (hw : ∀ d ∈ tables_1, d.before a0 Z = true) {n0 : Nat} {P : Heap → Prop} {F : Nat} {b0 : Nat} {Oz0 : Mo} {O0 : Mo} {v2 v3 : Int} (hf : j_k_ctor_47 F O0 v2 v3 = some Oz0) :
    G_k_ctor l Z n0 P 47 [some (vR b0), none, some (vI v2), some (vI v3), none] [] [(b0, 4, O0)] ((b0 + 5)) 4 128 (QM Z D n0 P none [(b0, 4, Oz0)] (b0 + 5)) := by
  unfold j_k_ctor_47 at hf
  refine Go.iloadN (pc2 := 48) d_k_ctor_47 rfl rfl ?_
  refine Go.bipush (pc2 := 50) d_k_ctor_48 rfl (by decide) ?_
  by_cases hc : v3 ≤ 32
  · replace hf := ifp hc hf
    refine Go.icmpT (pc2 := 56) d_k_ctor_50 hc (by decide) (by decide) ?_
    exact tj_k_ctor_56 hw hf
  · replace hf := ifn hc hf
    refine Go.icmpF (pc2 := 53) d_k_ctor_50 hc rfl ?_
    refine Go.bipush (pc2 := 55) d_k_ctor_53 rfl (by decide) ?_
    refine Go.istoreN (pc2 := 56) (L2 := [some (vR b0), none, some (vI v2), some (vI 32), none]) d_k_ctor_55 rfl (Nat.le_of_ble_eq_true rfl) rfl ?_
    exact tj_k_ctor_56 hw hf
set_option maxRecDepth 65536 in
set_option maxHeartbeats 4000000 in
theorem th_k_ctor {l : Launch} {Z : State} {a0 : Array Value} (hw : ∀ d ∈ tables_1, d.before a0 Z = true) {n0 : Nat} {P : Heap → Prop} {F : Nat} {b0 : Nat} {Oz0 : Mo} {v1 v2 : Int} (hf : k_ctor F v1 v2 = some Oz0) :
    Meth l Z D n0 P (⟨"MinCircle", "<init>", "(II)V"⟩ : MethodName) prog_1_method_1_code 5 none R_k_ctor [vR b0, vI v1, vI v2] [(b0, 0, zM)] (b0 + 1) (QM Z D n0 P none [(b0, 4, Oz0)] (b0 + 5)) := by
  refine Meth.of (plainFor_of_name pn_cls) (Nat.le_of_ble_eq_true rfl) ?_
  show G_k_ctor l Z n0 P 0 [some (vR b0), some (vI v1), some (vI v2), none, none] [] [(b0, 0, zM)] ((b0 + 1)) 0 0 (QM Z D n0 P none [(b0, 4, Oz0)] (b0 + 5))
  unfold k_ctor at hf
  refine Go.aloadN (pc2 := 1) d_k_ctor_0 rfl rfl ?_
  refine Go.inito (pc2 := 4) d_k_ctor_1 rfl rfl (by exact w_6 hw) (by exact w_7 hw) (by exact w_8 hw) (by decide) (Nat.le_of_ble_eq_true rfl) ?_
  refine Go.aloadN (pc2 := 5) d_k_ctor_4 rfl rfl ?_
  refine Go.bipush (pc2 := 7) d_k_ctor_5 rfl (by decide) ?_
  refine Go.mkarr (pc3 := 9) (pc2 := 12) (cw_ok hw) d_k_ctor_7 d_k_ctor_9 rfl rfl (by exact w_9 hw) rfl D_C (by exact w_10 hw) (by exact Or.inl (w_11 hw)) (by exact w_1 hw) (q := 0) rfl (len := 32) rfl rfl (fun _ => rfl) rfl (by decide) (by decide) (os2 := [(b0, 1, zM)]) rfl (sz2 := (b0 + 2)) rfl (cu2 := 1) rfl (su2 := 32) rfl ?_
  refine Go.aloadN (pc2 := 13) d_k_ctor_12 rfl rfl ?_
  refine Go.bipush (pc2 := 15) d_k_ctor_13 rfl (by decide) ?_
  refine Go.mkarr (pc3 := 17) (pc2 := 20) (cw_ok hw) d_k_ctor_15 d_k_ctor_17 rfl rfl (by exact w_9 hw) rfl D_C (by exact w_12 hw) (by exact Or.inl (w_13 hw)) (by exact w_1 hw) (q := 0) rfl (len := 32) rfl rfl (fun _ => rfl) rfl (by decide) (by decide) (os2 := [(b0, 2, zM)]) rfl (sz2 := (b0 + 3)) rfl (cu2 := 2) rfl (su2 := 64) rfl ?_
  refine Go.aloadN (pc2 := 21) d_k_ctor_20 rfl rfl ?_
  refine Go.bipush (pc2 := 23) d_k_ctor_21 rfl (by decide) ?_
  refine Go.mkarr (pc3 := 25) (pc2 := 28) (cw_ok hw) d_k_ctor_23 d_k_ctor_25 rfl rfl (by exact w_9 hw) rfl D_C (by exact w_14 hw) (by exact Or.inl (w_15 hw)) (by exact w_1 hw) (q := 0) rfl (len := 32) rfl rfl (fun _ => rfl) rfl (by decide) (by decide) (os2 := [(b0, 3, zM)]) rfl (sz2 := (b0 + 4)) rfl (cu2 := 3) rfl (su2 := 96) rfl ?_
  refine Go.aloadN (pc2 := 29) d_k_ctor_28 rfl rfl ?_
  refine Go.bipush (pc2 := 31) d_k_ctor_29 rfl (by decide) ?_
  refine Go.mkarr (pc3 := 33) (pc2 := 36) (cw_ok hw) d_k_ctor_31 d_k_ctor_33 rfl rfl (by exact w_16 hw) rfl D_C (by exact w_17 hw) (by exact Or.inl (w_18 hw)) (by exact w_1 hw) (q := 0) rfl (len := 32) rfl rfl (fun _ => rfl) rfl (by decide) (by decide) (os2 := [(b0, 4, zM)]) rfl (sz2 := (b0 + 5)) rfl (cu2 := 4) rfl (su2 := 128) rfl ?_
  refine Go.iloadN (pc2 := 37) d_k_ctor_36 rfl rfl ?_
  refine Go.istoreN (pc2 := 38) (L2 := [some (vR b0), some (vI v1), some (vI v2), some (vI v1), none]) d_k_ctor_37 rfl (Nat.le_of_ble_eq_true rfl) rfl ?_
  refine Go.iloadN (pc2 := 39) d_k_ctor_38 rfl rfl ?_
  refine Go.bipush (pc2 := 41) d_k_ctor_39 rfl (by decide) ?_
  by_cases hc : v1 < 8
  · replace hf := ifp hc hf
    refine Go.icmpF (pc2 := 44) d_k_ctor_41 (Int.not_le.mpr hc) rfl ?_
    refine Go.bipush (pc2 := 46) d_k_ctor_44 rfl (by decide) ?_
    refine Go.istoreN (pc2 := 47) (L2 := [some (vR b0), some (vI v1), some (vI v2), some (vI 8), none]) d_k_ctor_46 rfl (Nat.le_of_ble_eq_true rfl) rfl ?_
    exact Go.mask [true, false, true, true, true] (tj_k_ctor_47 hw hf)
  · replace hf := ifn hc hf
    refine Go.icmpT (pc2 := 47) d_k_ctor_41 (Int.not_lt.mp hc) (by decide) (by decide) ?_
    exact Go.mask [true, false, true, true, true] (tj_k_ctor_47 hw hf)
set_option maxRecDepth 65536 in
set_option maxHeartbeats 4000000 in
theorem th_k_inRange {l : Launch} {Z : State} {a0 : Array Value} (hw : ∀ d ∈ tables_1, d.before a0 Z = true) {n0 : Nat} {P : Heap → Prop} {b0 sz : Nat} {rr : Int} {O0 : Mo} {v1 v2 : Int} (hf : k_inRange v1 v2 = rr) :
    Meth l Z D n0 P (⟨"MinCircle", "inRange", "(II)Z"⟩ : MethodName) prog_1_method_18_code 3 (some .boolean) R_k_inRange [vR b0, vI v1, vI v2] [(b0, 4, O0)] sz (QM Z D n0 P (some (vI rr)) [(b0, 4, O0)] sz) := by
  refine Meth.of (plainFor_of_name pn_cls) (Nat.le_of_ble_eq_true rfl) ?_
  show G_k_inRange l Z n0 P 0 [some (vR b0), some (vI v1), some (vI v2)] [] [(b0, 4, O0)] sz 0 0 (QM Z D n0 P (some (vI rr)) [(b0, 4, O0)] sz)
  unfold k_inRange at hf
  refine Go.iloadN (pc2 := 1) d_k_inRange_0 rfl rfl ?_
  refine Go.sipush (pc2 := 4) d_k_inRange_1 rfl (by decide) ?_
  by_cases hc : v1 < (-255)
  · replace hf := ifp hc hf
    refine Go.icmpT (pc2 := 32) d_k_inRange_4 hc (by decide) (by decide) ?_
    refine Go.iconst (pc2 := 33) d_k_inRange_32 rfl (by decide) ?_
    cases hf
    exact Go.retz d_k_inRange_33 rfl rfl (Nat.le_of_ble_eq_true rfl) (Nat.le_of_ble_eq_true rfl) (fun _ H => ⟨rfl, H⟩)
  · replace hf := ifn hc hf
    refine Go.icmpF (pc2 := 7) d_k_inRange_4 hc rfl ?_
    refine Go.iloadN (pc2 := 8) d_k_inRange_7 rfl rfl ?_
    refine Go.sipush (pc2 := 11) d_k_inRange_8 rfl (by decide) ?_
    by_cases hc : 255 < v1
    · replace hf := ifp hc hf
      refine Go.icmpT (pc2 := 32) d_k_inRange_11 hc (by decide) (by decide) ?_
      refine Go.iconst (pc2 := 33) d_k_inRange_32 rfl (by decide) ?_
      cases hf
      exact Go.retz d_k_inRange_33 rfl rfl (Nat.le_of_ble_eq_true rfl) (Nat.le_of_ble_eq_true rfl) (fun _ H => ⟨rfl, H⟩)
    · replace hf := ifn hc hf
      refine Go.icmpF (pc2 := 14) d_k_inRange_11 hc rfl ?_
      refine Go.iloadN (pc2 := 15) d_k_inRange_14 rfl rfl ?_
      refine Go.sipush (pc2 := 18) d_k_inRange_15 rfl (by decide) ?_
      by_cases hc : v2 < (-255)
      · replace hf := ifp hc hf
        refine Go.icmpT (pc2 := 32) d_k_inRange_18 hc (by decide) (by decide) ?_
        refine Go.iconst (pc2 := 33) d_k_inRange_32 rfl (by decide) ?_
        cases hf
        exact Go.retz d_k_inRange_33 rfl rfl (Nat.le_of_ble_eq_true rfl) (Nat.le_of_ble_eq_true rfl) (fun _ H => ⟨rfl, H⟩)
      · replace hf := ifn hc hf
        refine Go.icmpF (pc2 := 21) d_k_inRange_18 hc rfl ?_
        refine Go.iloadN (pc2 := 22) d_k_inRange_21 rfl rfl ?_
        refine Go.sipush (pc2 := 25) d_k_inRange_22 rfl (by decide) ?_
        by_cases hc : 255 < v2
        · replace hf := ifp hc hf
          refine Go.icmpT (pc2 := 32) d_k_inRange_25 hc (by decide) (by decide) ?_
          refine Go.iconst (pc2 := 33) d_k_inRange_32 rfl (by decide) ?_
          cases hf
          exact Go.retz d_k_inRange_33 rfl rfl (Nat.le_of_ble_eq_true rfl) (Nat.le_of_ble_eq_true rfl) (fun _ H => ⟨rfl, H⟩)
        · replace hf := ifn hc hf
          refine Go.icmpF (pc2 := 28) d_k_inRange_25 hc rfl ?_
          refine Go.iconst (pc2 := 29) d_k_inRange_28 rfl (by decide) ?_
          refine Go.goto (pc2 := 33) d_k_inRange_29 (by decide) (by decide) ?_
          cases hf
          exact Go.retz d_k_inRange_33 rfl rfl (Nat.le_of_ble_eq_true rfl) (Nat.le_of_ble_eq_true rfl) (fun _ H => ⟨rfl, H⟩)
set_option maxRecDepth 65536 in
set_option maxHeartbeats 4000000 in
theorem tb_k_addPoint_26 {l : Launch} {Z : State} {a0 : Array Value} (hw : ∀ d ∈ tables_1, d.before a0 Z = true) {n0 : Nat} {P : Heap → Prop} {F : Nat} {b0 sz : Nat} {rr : Int} {Oz0 : Mo} {c26_1 c26_2 : Int} {C26_0 : Mo} {v3 : Int} {x : Int ⊕ (Unit ⊕ ((Int × Mo)))} (hf : b_k_addPoint_26 F C26_0 c26_1 c26_2 v3 = some x) (K : Sum.elim (fun s => G_k_addPoint l Z n0 P 26 [some (vR b0), some (vI c26_1), some (vI c26_2), some (vI s)] [] [(b0, 4, C26_0)] sz 0 0 (QM Z D n0 P (some (vI rr)) [(b0, 4, Oz0)] sz)) (Sum.elim (fun r => G_k_addPoint l Z n0 P 62 [some (vR b0), some (vI c26_1), some (vI c26_2), none] [] [(b0, 4, C26_0)] sz 0 0 (QM Z D n0 P (some (vI rr)) [(b0, 4, Oz0)] sz)) (fun r => r = (rr, Oz0))) x) :
    G_k_addPoint l Z n0 P 26 [some (vR b0), some (vI c26_1), some (vI c26_2), some (vI v3)] [] [(b0, 4, C26_0)] sz 0 0 (QM Z D n0 P (some (vI rr)) [(b0, 4, Oz0)] sz) := by
  unfold b_k_addPoint_26 at hf
  refine Go.iloadN (pc2 := 27) d_k_addPoint_26 rfl rfl ?_
  refine Go.aloadN (pc2 := 28) d_k_addPoint_27 rfl rfl ?_
  refine Go.getf (pc2 := 31) d_k_addPoint_28 rfl rfl D_C (by exact w_24 hw) (q := 0) rfl (x := C26_0 0 2) (u := vI (C26_0 0 2)) (fs_n) rfl rfl ?_
  by_cases hc : v3 < C26_0 0 2
  · replace hf := ifp hc hf
    refine Go.icmpF (pc2 := 34) d_k_addPoint_31 (Int.not_le.mpr hc) rfl ?_
    refine Go.aloadN (pc2 := 35) d_k_addPoint_34 rfl rfl ?_
    refine Go.geta (pc2 := 38) d_k_addPoint_35 rfl rfl D_C (by exact w_10 hw) (q := 0) rfl (j := 0) rfl (Nat.le_of_ble_eq_true rfl) rfl ?_
    refine Go.iloadN (pc2 := 39) d_k_addPoint_38 rfl rfl ?_
    have hb := okb hf
    replace hf := ifp hb hf
    refine Go.iald (pc2 := 40) d_k_addPoint_39 rfl (q := 0) rfl (j := 0) rfl (Nat.le_of_ble_eq_true rfl) rfl hb (z := C26_0 1 v3.toNat) rfl ?_
    refine Go.iloadN (pc2 := 41) d_k_addPoint_40 rfl rfl ?_
    by_cases hc : C26_0 1 v3.toNat = c26_1
    · replace hf := ifp hc hf
      refine Go.icmpF (pc2 := 44) d_k_addPoint_41 (fun q => q hc) rfl ?_
      refine Go.aloadN (pc2 := 45) d_k_addPoint_44 rfl rfl ?_
      refine Go.geta (pc2 := 48) d_k_addPoint_45 rfl rfl D_C (by exact w_12 hw) (q := 0) rfl (j := 1) rfl (Nat.le_of_ble_eq_true rfl) rfl ?_
      refine Go.iloadN (pc2 := 49) d_k_addPoint_48 rfl rfl ?_
      have hb := okb hf
      replace hf := ifp hb hf
      refine Go.iald (pc2 := 50) d_k_addPoint_49 rfl (q := 0) rfl (j := 1) rfl (Nat.le_of_ble_eq_true rfl) rfl hb (z := C26_0 2 v3.toNat) rfl ?_
      refine Go.iloadN (pc2 := 51) d_k_addPoint_50 rfl rfl ?_
      by_cases hc : C26_0 2 v3.toNat = c26_2
      · replace hf := ifp hc hf
        refine Go.icmpF (pc2 := 54) d_k_addPoint_51 (fun q => q hc) rfl ?_
        refine Go.iconst (pc2 := 55) d_k_addPoint_54 rfl (by decide) ?_
        cases hf
        replace K : ((-1), C26_0) = (rr, Oz0) := K
        cases K
        exact Go.reti d_k_addPoint_55 rfl (Nat.le_of_ble_eq_true rfl) (Nat.le_of_ble_eq_true rfl) (fun _ H => ⟨rfl, H⟩)
      · replace hf := ifn hc hf
        refine Go.icmpT (pc2 := 56) d_k_addPoint_51 hc (by decide) (by decide) ?_
        refine Go.iinc (pc2 := 59) (L2 := [some (vR b0), some (vI c26_1), some (vI c26_2), some (vI (w32 (v3 + 1)))]) d_k_addPoint_56 rfl rfl rfl ?_
        refine Go.goto (pc2 := 26) d_k_addPoint_59 (by decide) (by decide) ?_
        cases hf
        exact K
    · replace hf := ifn hc hf
      refine Go.icmpT (pc2 := 56) d_k_addPoint_41 hc (by decide) (by decide) ?_
      refine Go.iinc (pc2 := 59) (L2 := [some (vR b0), some (vI c26_1), some (vI c26_2), some (vI (w32 (v3 + 1)))]) d_k_addPoint_56 rfl rfl rfl ?_
      refine Go.goto (pc2 := 26) d_k_addPoint_59 (by decide) (by decide) ?_
      cases hf
      exact K
  · replace hf := ifn hc hf
    refine Go.icmpT (pc2 := 62) d_k_addPoint_31 (Int.not_lt.mp hc) (by decide) (by decide) ?_
    cases hf
    exact Go.mask [true, true, true, false] K
set_option maxRecDepth 65536 in
set_option maxHeartbeats 4000000 in
theorem th_k_addPoint {l : Launch} {Z : State} {a0 : Array Value} (hw : ∀ d ∈ tables_1, d.before a0 Z = true) {n0 : Nat} {P : Heap → Prop} {F : Nat} {b0 sz : Nat} {rr : Int} {Oz0 : Mo} {O0 : Mo} {v1 v2 : Int} (hf : k_addPoint F O0 v1 v2 = some ((rr, Oz0))) :
    Meth l Z D n0 P (⟨"MinCircle", "addPoint", "(II)I"⟩ : MethodName) prog_1_method_2_code 4 (some .int) R_k_addPoint [vR b0, vI v1, vI v2] [(b0, 4, O0)] sz (QM Z D n0 P (some (vI rr)) [(b0, 4, Oz0)] sz) := by
  refine Meth.of (plainFor_of_name pn_cls) (Nat.le_of_ble_eq_true rfl) ?_
  show G_k_addPoint l Z n0 P 0 [some (vR b0), some (vI v1), some (vI v2), none] [] [(b0, 4, O0)] sz 0 0 (QM Z D n0 P (some (vI rr)) [(b0, 4, Oz0)] sz)
  unfold k_addPoint at hf
  refine Go.aloadN (pc2 := 1) d_k_addPoint_0 rfl rfl ?_
  refine Go.iloadN (pc2 := 2) d_k_addPoint_1 rfl rfl ?_
  refine Go.iloadN (pc2 := 3) d_k_addPoint_2 rfl rfl ?_
  refine Go.callp (pc2 := 6) (as := [vI v1, vI v2]) (S := []) (w := (some (vI (k_inRange v1 v2)))) (os2 := [(b0, 4, O0)]) (sz2 := sz) (S2 := [vI (k_inRange v1 v2)]) (rm := R_k_inRange) d_k_addPoint_3 rfl rfl (by exact w_35 hw) (by exact w_37 hw) (by exact w_36 hw) (by exact w_38 hw) rfl (by exact w_2 hw) (by exact w_1 hw) (q := 0) rfl (by decide) pd_k_inRange (by decide) (Nat.le_of_ble_eq_true rfl) (by decide) (by decide) (nc := 0) (ns := 0) rfl rfl rfl (cu2 := 0) rfl (su2 := 0) rfl rfl (Pays.one (q := 0) rfl rfl (fun P2 hP2 => th_k_inRange hw rfl)) rfl ?_
  by_cases hc : k_inRange v1 v2 = 0
  · replace hf := ifp hc hf
    refine Go.ifF (pc2 := 9) d_k_addPoint_6 (fun q => q hc) rfl ?_
    refine Go.iconst (pc2 := 10) d_k_addPoint_9 rfl (by decide) ?_
    cases hf
    exact Go.reti d_k_addPoint_10 rfl (Nat.le_of_ble_eq_true rfl) (Nat.le_of_ble_eq_true rfl) (fun _ H => ⟨rfl, H⟩)
  · replace hf := ifn hc hf
    refine Go.ifT (pc2 := 11) d_k_addPoint_6 hc (by decide) (by decide) ?_
    refine Go.aloadN (pc2 := 12) d_k_addPoint_11 rfl rfl ?_
    refine Go.getf (pc2 := 15) d_k_addPoint_12 rfl rfl D_C (by exact w_24 hw) (q := 0) rfl (x := O0 0 2) (u := vI (O0 0 2)) (fs_n) rfl rfl ?_
    refine Go.aloadN (pc2 := 16) d_k_addPoint_15 rfl rfl ?_
    refine Go.getf (pc2 := 19) d_k_addPoint_16 rfl rfl D_C (by exact w_20 hw) (q := 0) rfl (x := O0 0 0) (u := vI (O0 0 0)) (fs_cap) rfl rfl ?_
    by_cases hc : O0 0 2 < O0 0 0
    · replace hf := ifp hc hf
      refine Go.icmpT (pc2 := 24) d_k_addPoint_19 hc (by decide) (by decide) ?_
      refine Go.iconst (pc2 := 25) d_k_addPoint_24 rfl (by decide) ?_
      refine Go.istoreN (pc2 := 26) (L2 := [some (vR b0), some (vI v1), some (vI v2), some (vI 0)]) d_k_addPoint_25 rfl (Nat.le_of_ble_eq_true rfl) rfl ?_
      refine loop_go hf (Gs := fun s => G_k_addPoint l Z n0 P 26 [some (vR b0), some (vI v1), some (vI v2), some (vI s)] [] [(b0, 4, O0)] sz 0 0 (QM Z D n0 P (some (vI rr)) [(b0, 4, Oz0)] sz)) (Gr := (Sum.elim (fun r => G_k_addPoint l Z n0 P 62 [some (vR b0), some (vI v1), some (vI v2), none] [] [(b0, 4, O0)] sz 0 0 (QM Z D n0 P (some (vI rr)) [(b0, 4, Oz0)] sz)) (fun r => r = (rr, Oz0)))) (fun s x hx K => tb_k_addPoint_26 hw hx K) ?_
      clear hf
      intro r hf
      rcases r with r_1 | r_2
      · dsimp only [Sum.elim_inl] at hf ⊢
        refine Go.aloadN (pc2 := 63) d_k_addPoint_62 rfl rfl ?_
        refine Go.getf (pc2 := 66) d_k_addPoint_63 rfl rfl D_C (by exact w_24 hw) (q := 0) rfl (x := O0 0 2) (u := vI (O0 0 2)) (fs_n) rfl rfl ?_
        refine Go.istoreN (pc2 := 67) (L2 := [some (vR b0), some (vI v1), some (vI v2), some (vI (O0 0 2))]) d_k_addPoint_66 rfl (Nat.le_of_ble_eq_true rfl) rfl ?_
        refine Go.aloadN (pc2 := 68) d_k_addPoint_67 rfl rfl ?_
        refine Go.geta (pc2 := 71) d_k_addPoint_68 rfl rfl D_C (by exact w_10 hw) (q := 0) rfl (j := 0) rfl (Nat.le_of_ble_eq_true rfl) rfl ?_
        refine Go.iloadN (pc2 := 72) d_k_addPoint_71 rfl rfl ?_
        refine Go.iloadN (pc2 := 73) d_k_addPoint_72 rfl rfl ?_
        have hb := okb hf
        replace hf := ifp hb hf
        refine Go.iast (pc2 := 74) d_k_addPoint_73 rfl (q := 0) rfl (j := 0) rfl (Nat.le_of_ble_eq_true rfl) rfl hb (z := v1) (z' := v1) rfl (os2 := [(b0, 4, (upd O0 1 ((O0 0 2).toNat) v1))]) rfl ?_
        refine Go.aloadN (pc2 := 75) d_k_addPoint_74 rfl rfl ?_
        refine Go.geta (pc2 := 78) d_k_addPoint_75 rfl rfl D_C (by exact w_12 hw) (q := 0) rfl (j := 1) rfl (Nat.le_of_ble_eq_true rfl) rfl ?_
        refine Go.iloadN (pc2 := 79) d_k_addPoint_78 rfl rfl ?_
        refine Go.iloadN (pc2 := 80) d_k_addPoint_79 rfl rfl ?_
        have hb := okb hf
        replace hf := ifp hb hf
        refine Go.iast (pc2 := 81) d_k_addPoint_80 rfl (q := 0) rfl (j := 1) rfl (Nat.le_of_ble_eq_true rfl) rfl hb (z := v2) (z' := v2) rfl (os2 := [(b0, 4, (upd (upd O0 1 ((O0 0 2).toNat) v1) 2 ((O0 0 2).toNat) v2))]) rfl ?_
        refine Go.aloadN (pc2 := 82) d_k_addPoint_81 rfl rfl ?_
        refine Go.iloadN (pc2 := 83) d_k_addPoint_82 rfl rfl ?_
        refine Go.iconst (pc2 := 84) d_k_addPoint_83 rfl (by decide) ?_
        refine Go.iadd (pc2 := 85) d_k_addPoint_84 rfl ?_
        refine Go.putf (pc2 := 88) (cw_ok hw) d_k_addPoint_85 rfl rfl D_C (by exact w_24 hw) (by exact Or.inl (w_25 hw)) (by exact w_1 hw) (q := 0) rfl (x := w32 ((O0 0 2) + 1)) (x' := w32 ((O0 0 2) + 1)) (fs_n) rfl rfl (os2 := [(b0, 4, (upd (upd (upd O0 1 ((O0 0 2).toNat) v1) 2 ((O0 0 2).toNat) v2) 0 2 (w32 ((O0 0 2) + 1))))]) rfl ?_
        refine Go.aloadN (pc2 := 89) d_k_addPoint_88 rfl rfl ?_
        refine Go.iconst (pc2 := 90) d_k_addPoint_89 rfl (by decide) ?_
        refine Go.putf (pc2 := 93) (cw_ok hw) d_k_addPoint_90 rfl rfl D_C (by exact w_26 hw) (by exact Or.inl (w_27 hw)) (by exact w_1 hw) (q := 0) rfl (x := 0) (x' := 0) (fs_solved) rfl rfl (os2 := [(b0, 4, (upd (upd (upd (upd O0 1 ((O0 0 2).toNat) v1) 2 ((O0 0 2).toNat) v2) 0 2 (w32 ((O0 0 2) + 1))) 0 3 0))]) rfl ?_
        refine Go.iloadN (pc2 := 94) d_k_addPoint_93 rfl rfl ?_
        cases hf
        exact Go.reti d_k_addPoint_94 rfl (Nat.le_of_ble_eq_true rfl) (Nat.le_of_ble_eq_true rfl) (fun _ H => ⟨rfl, H⟩)
      · dsimp only [Sum.elim_inr] at hf ⊢
        cases hf
        rfl
    · replace hf := ifn hc hf
      refine Go.icmpF (pc2 := 22) d_k_addPoint_19 hc rfl ?_
      refine Go.iconst (pc2 := 23) d_k_addPoint_22 rfl (by decide) ?_
      cases hf
      exact Go.reti d_k_addPoint_23 rfl (Nat.le_of_ble_eq_true rfl) (Nat.le_of_ble_eq_true rfl) (fun _ H => ⟨rfl, H⟩)
set_option maxRecDepth 65536 in
set_option maxHeartbeats 4000000 in
theorem tb_k_shuffle_2 {l : Launch} {Z : State} {a0 : Array Value} (hw : ∀ d ∈ tables_1, d.before a0 Z = true) {n0 : Nat} {P : Heap → Prop} {F : Nat} {b0 sz : Nat} {Oz0 : Mo} {v1 : Int} {O0 : Mo} {x : (Int × Mo) ⊕ (Mo)} (hf : b_k_shuffle_2 F v1 O0 = some x) (K : Sum.elim (fun s => G_k_shuffle l Z n0 P 2 [some (vR b0), some (vI s.1), none, none] [] [(b0, 4, s.2)] sz 0 0 (QM Z D n0 P none [(b0, 4, Oz0)] sz)) (fun r => G_k_shuffle l Z n0 P 23 [some (vR b0), none, none, none] [] [(b0, 4, r)] sz 0 0 (QM Z D n0 P none [(b0, 4, Oz0)] sz)) x) :
    G_k_shuffle l Z n0 P 2 [some (vR b0), some (vI v1), none, none] [] [(b0, 4, O0)] sz 0 0 (QM Z D n0 P none [(b0, 4, Oz0)] sz) := by
  unfold b_k_shuffle_2 at hf
  refine Go.iloadN (pc2 := 3) d_k_shuffle_2 rfl rfl ?_
  refine Go.aloadN (pc2 := 4) d_k_shuffle_3 rfl rfl ?_
  refine Go.getf (pc2 := 7) d_k_shuffle_4 rfl rfl D_C (by exact w_24 hw) (q := 0) rfl (x := O0 0 2) (u := vI (O0 0 2)) (fs_n) rfl rfl ?_
  by_cases hc : v1 < O0 0 2
  · replace hf := ifp hc hf
    refine Go.icmpF (pc2 := 10) d_k_shuffle_7 (Int.not_le.mpr hc) rfl ?_
    refine Go.aloadN (pc2 := 11) d_k_shuffle_10 rfl rfl ?_
    refine Go.geta (pc2 := 14) d_k_shuffle_11 rfl rfl D_C (by exact w_14 hw) (q := 0) rfl (j := 2) rfl (Nat.le_of_ble_eq_true rfl) rfl ?_
    refine Go.iloadN (pc2 := 15) d_k_shuffle_14 rfl rfl ?_
    refine Go.iloadN (pc2 := 16) d_k_shuffle_15 rfl rfl ?_
    have hb := okb hf
    replace hf := ifp hb hf
    refine Go.iast (pc2 := 17) d_k_shuffle_16 rfl (q := 0) rfl (j := 2) rfl (Nat.le_of_ble_eq_true rfl) rfl hb (z := v1) (z' := v1) rfl (os2 := [(b0, 4, (upd O0 3 (v1.toNat) v1))]) rfl ?_
    refine Go.iinc (pc2 := 20) (L2 := [some (vR b0), some (vI (w32 (v1 + 1))), none, none]) d_k_shuffle_17 rfl rfl rfl ?_
    refine Go.goto (pc2 := 2) d_k_shuffle_20 (by decide) (by decide) ?_
    cases hf
    exact K
  · replace hf := ifn hc hf
    refine Go.icmpT (pc2 := 23) d_k_shuffle_7 (Int.not_lt.mp hc) (by decide) (by decide) ?_
    cases hf
    exact Go.mask [true, false, true, true] K
set_option maxRecDepth 65536 in
set_option maxHeartbeats 4000000 in
theorem th_k_shuffle {l : Launch} {Z : State} {a0 : Array Value} (hw : ∀ d ∈ tables_1, d.before a0 Z = true) {n0 : Nat} {P : Heap → Prop} {F : Nat} {b0 sz : Nat} {Oz0 : Mo} {O0 : Mo} (hf : k_shuffle F O0 = some Oz0) :
    Meth l Z D n0 P (⟨"MinCircle", "shuffle", "()V"⟩ : MethodName) prog_1_method_20_code 4 none R_k_shuffle [vR b0] [(b0, 4, O0)] sz (QM Z D n0 P none [(b0, 4, Oz0)] sz) := by
  refine Meth.of (plainFor_of_name pn_cls) (Nat.le_of_ble_eq_true rfl) ?_
  show G_k_shuffle l Z n0 P 0 [some (vR b0), none, none, none] [] [(b0, 4, O0)] sz 0 0 (QM Z D n0 P none [(b0, 4, Oz0)] sz)
  unfold k_shuffle at hf
  refine Go.iconst (pc2 := 1) d_k_shuffle_0 rfl (by decide) ?_
  refine Go.istoreN (pc2 := 2) (L2 := [some (vR b0), some (vI 0), none, none]) d_k_shuffle_1 rfl (Nat.le_of_ble_eq_true rfl) rfl ?_
  refine loop_go hf (Gs := fun s => G_k_shuffle l Z n0 P 2 [some (vR b0), some (vI s.1), none, none] [] [(b0, 4, s.2)] sz 0 0 (QM Z D n0 P none [(b0, 4, Oz0)] sz)) (Gr := (fun r => G_k_shuffle l Z n0 P 23 [some (vR b0), none, none, none] [] [(b0, 4, r)] sz 0 0 (QM Z D n0 P none [(b0, 4, Oz0)] sz))) (fun s x hx K => tb_k_shuffle_2 hw hx K) ?_
  clear hf
  intro r hf
  refine Go.aloadN (pc2 := 24) d_k_shuffle_23 rfl rfl ?_
  refine Go.getf (pc2 := 27) d_k_shuffle_24 rfl rfl D_C (by exact w_24 hw) (q := 0) rfl (x := r 0 2) (u := vI (r 0 2)) (fs_n) rfl rfl ?_
  refine Go.iconst (pc2 := 28) d_k_shuffle_27 rfl (by decide) ?_
  refine Go.isub (pc2 := 29) d_k_shuffle_28 rfl ?_
  refine Go.istoreN (pc2 := 30) (L2 := [some (vR b0), some (vI (w32 ((r 0 2) - 1))), none, none]) d_k_shuffle_29 rfl (Nat.le_of_ble_eq_true rfl) rfl ?_
  refine Go.iloadN (pc2 := 31) d_k_shuffle_30 rfl rfl ?_
  by_cases hc : w32 ((r 0 2) - 1) ≤ 0
  · replace hf := ifp hc hf
    refine Go.ifT (pc2 := 85) d_k_shuffle_31 hc (by decide) (by decide) ?_
    cases hf
    exact Go.retv d_k_shuffle_85 rfl (Nat.le_of_ble_eq_true rfl) (Nat.le_of_ble_eq_true rfl) (fun _ H => ⟨rfl, H⟩)
  · replace hf := ifn hc hf
    refine Go.ifF (pc2 := 34) d_k_shuffle_31 hc rfl ?_
    refine Go.aloadN (pc2 := 35) d_k_shuffle_34 rfl rfl ?_
    refine Go.iloadN (pc2 := 36) d_k_shuffle_35 rfl rfl ?_
    refine Go.iconst (pc2 := 37) d_k_shuffle_36 rfl (by decide) ?_
    refine Go.iadd (pc2 := 38) d_k_shuffle_37 rfl ?_
    cases hf
set_option maxRecDepth 65536 in
set_option maxHeartbeats 4000000 in
theorem th_k_setPoint {l : Launch} {Z : State} {a0 : Array Value} (hw : ∀ d ∈ tables_1, d.before a0 Z = true) {n0 : Nat} {P : Heap → Prop} {F : Nat} {b0 sz : Nat} {Oz0 : Mo} {O0 : Mo} {v1 : Int} (hf : k_setPoint F O0 v1 = some Oz0) :
    Meth l Z D n0 P (⟨"MinCircle", "setPoint", "(I)V"⟩ : MethodName) prog_1_method_25_code 2 none R_k_setPoint [vR b0, vI v1] [(b0, 4, O0)] sz (QM Z D n0 P none [(b0, 4, Oz0)] sz) := by
  refine Meth.of (plainFor_of_name pn_cls) (Nat.le_of_ble_eq_true rfl) ?_
  show G_k_setPoint l Z n0 P 0 [some (vR b0), some (vI v1)] [] [(b0, 4, O0)] sz 0 0 (QM Z D n0 P none [(b0, 4, Oz0)] sz)
  unfold k_setPoint at hf
  refine Go.aloadN (pc2 := 1) d_k_setPoint_0 rfl rfl ?_
  refine Go.aloadN (pc2 := 2) d_k_setPoint_1 rfl rfl ?_
  refine Go.geta (pc2 := 5) d_k_setPoint_2 rfl rfl D_C (by exact w_10 hw) (q := 0) rfl (j := 0) rfl (Nat.le_of_ble_eq_true rfl) rfl ?_
  refine Go.iloadN (pc2 := 6) d_k_setPoint_5 rfl rfl ?_
  have hb := okb hf
  replace hf := ifp hb hf
  refine Go.iald (pc2 := 7) d_k_setPoint_6 rfl (q := 0) rfl (j := 0) rfl (Nat.le_of_ble_eq_true rfl) rfl hb (z := O0 1 v1.toNat) rfl ?_
  refine Go.i2l (pc2 := 8) d_k_setPoint_7 rfl ?_
  refine Go.putf (pc2 := 11) (cw_ok hw) d_k_setPoint_8 rfl rfl D_C (by exact w_56 hw) (by exact Or.inl (w_57 hw)) (by exact w_1 hw) (q := 0) rfl (x := O0 1 v1.toNat) (x' := O0 1 v1.toNat) (fs_tnx) rfl rfl (os2 := [(b0, 4, (upd O0 0 10 (O0 1 v1.toNat)))]) rfl ?_
  refine Go.aloadN (pc2 := 12) d_k_setPoint_11 rfl rfl ?_
  refine Go.aloadN (pc2 := 13) d_k_setPoint_12 rfl rfl ?_
  refine Go.geta (pc2 := 16) d_k_setPoint_13 rfl rfl D_C (by exact w_12 hw) (q := 0) rfl (j := 1) rfl (Nat.le_of_ble_eq_true rfl) rfl ?_
  refine Go.iloadN (pc2 := 17) d_k_setPoint_16 rfl rfl ?_
  have hb := okb hf
  replace hf := ifp hb hf
  refine Go.iald (pc2 := 18) d_k_setPoint_17 rfl (q := 0) rfl (j := 1) rfl (Nat.le_of_ble_eq_true rfl) rfl hb (z := (upd O0 0 10 (O0 1 v1.toNat)) 2 v1.toNat) rfl ?_
  refine Go.i2l (pc2 := 19) d_k_setPoint_18 rfl ?_
  refine Go.putf (pc2 := 22) (cw_ok hw) d_k_setPoint_19 rfl rfl D_C (by exact w_58 hw) (by exact Or.inl (w_59 hw)) (by exact w_1 hw) (q := 0) rfl (x := (upd O0 0 10 (O0 1 v1.toNat)) 2 v1.toNat) (x' := (upd O0 0 10 (O0 1 v1.toNat)) 2 v1.toNat) (fs_tny) rfl rfl (os2 := [(b0, 4, (upd (upd O0 0 10 (O0 1 v1.toNat)) 0 11 ((upd O0 0 10 (O0 1 v1.toNat)) 2 v1.toNat)))]) rfl ?_
  refine Go.aloadN (pc2 := 23) d_k_setPoint_22 rfl rfl ?_
  refine Go.lconst (pc2 := 24) (i := 1) d_k_setPoint_23 rfl (by decide) ?_
  refine Go.putf (pc2 := 27) (cw_ok hw) d_k_setPoint_24 rfl rfl D_C (by exact w_28 hw) (by exact Or.inl (w_29 hw)) (by exact w_1 hw) (q := 0) rfl (x := 1) (x' := 1) (fs_td) rfl rfl (os2 := [(b0, 4, (upd (upd (upd O0 0 10 (O0 1 v1.toNat)) 0 11 ((upd O0 0 10 (O0 1 v1.toNat)) 2 v1.toNat)) 0 12 1))]) rfl ?_
  refine Go.aloadN (pc2 := 28) d_k_setPoint_27 rfl rfl ?_
  refine Go.lconst (pc2 := 29) (i := 0) d_k_setPoint_28 rfl (by decide) ?_
  refine Go.putf (pc2 := 32) (cw_ok hw) d_k_setPoint_29 rfl rfl D_C (by exact w_60 hw) (by exact Or.inl (w_61 hw)) (by exact w_1 hw) (q := 0) rfl (x := 0) (x' := 0) (fs_trr) rfl rfl (os2 := [(b0, 4, (upd (upd (upd (upd O0 0 10 (O0 1 v1.toNat)) 0 11 ((upd O0 0 10 (O0 1 v1.toNat)) 2 v1.toNat)) 0 12 1) 0 13 0))]) rfl ?_
  cases hf
  exact Go.retv d_k_setPoint_32 rfl (Nat.le_of_ble_eq_true rfl) (Nat.le_of_ble_eq_true rfl) (fun _ H => ⟨rfl, H⟩)
set_option maxRecDepth 65536 in
set_option maxHeartbeats 4000000 in
theorem th_k_runIncremental {l : Launch} {Z : State} {a0 : Array Value} (hw : ∀ d ∈ tables_1, d.before a0 Z = true) {n0 : Nat} {P : Heap → Prop} {F : Nat} {b0 sz : Nat} {Oz0 : Mo} {O0 : Mo} (hf : k_runIncremental F O0 = some Oz0) :
    Meth l Z D n0 P (⟨"MinCircle", "runIncremental", "()V"⟩ : MethodName) prog_1_method_21_code 2 none R_k_runIncremental [vR b0] [(b0, 4, O0)] sz (QM Z D n0 P none [(b0, 4, Oz0)] sz) := by
  refine Meth.of (plainFor_of_name pn_cls) (Nat.le_of_ble_eq_true rfl) ?_
  show G_k_runIncremental l Z n0 P 0 [some (vR b0), none] [] [(b0, 4, O0)] sz 0 0 (QM Z D n0 P none [(b0, 4, Oz0)] sz)
  unfold k_runIncremental at hf
  refine Go.aloadN (pc2 := 1) d_k_runIncremental_0 rfl rfl ?_
  refine Go.aloadN (pc2 := 2) d_k_runIncremental_1 rfl rfl ?_
  refine Go.geta (pc2 := 5) d_k_runIncremental_2 rfl rfl D_C (by exact w_14 hw) (q := 0) rfl (j := 2) rfl (Nat.le_of_ble_eq_true rfl) rfl ?_
  refine Go.iconst (pc2 := 6) d_k_runIncremental_5 rfl (by decide) ?_
  refine Go.iald (pc2 := 7) d_k_runIncremental_6 rfl (q := 0) rfl (j := 2) rfl (Nat.le_of_ble_eq_true rfl) rfl (by decide) (z := O0 3 0) rfl ?_
  refine bind_in hf ?_
  clear hf
  intro r h_r hf
  refine Go.callp (pc2 := 10) (as := [vI (O0 3 0)]) (S := []) (w := none) (os2 := [(b0, 4, r)]) (sz2 := sz) (S2 := []) (rm := R_k_setPoint) d_k_runIncremental_7 rfl rfl (by exact w_52 hw) (by exact w_54 hw) (by exact w_53 hw) (by exact w_55 hw) rfl (by exact w_2 hw) (by exact w_1 hw) (q := 0) rfl (by decide) pd_k_setPoint (by decide) (Nat.le_of_ble_eq_true rfl) (by decide) (by decide) (nc := 0) (ns := 0) rfl rfl rfl (cu2 := 0) rfl (su2 := 0) rfl rfl (Pays.one (q := 0) rfl rfl (fun P2 hP2 => th_k_setPoint hw h_r)) rfl ?_
  refine Go.iconst (pc2 := 11) d_k_runIncremental_10 rfl (by decide) ?_
  refine Go.istoreN (pc2 := 12) (L2 := [some (vR b0), some (vI 1)]) d_k_runIncremental_11 rfl (Nat.le_of_ble_eq_true rfl) rfl ?_
  refine Go.iloadN (pc2 := 13) d_k_runIncremental_12 rfl rfl ?_
  refine Go.aloadN (pc2 := 14) d_k_runIncremental_13 rfl rfl ?_
  refine Go.getf (pc2 := 17) d_k_runIncremental_14 rfl rfl D_C (by exact w_24 hw) (q := 0) rfl (x := r 0 2) (u := vI (r 0 2)) (fs_n) rfl rfl ?_
  by_cases hc : 1 < r 0 2
  · replace hf := ifp hc hf
    refine Go.icmpF (pc2 := 20) d_k_runIncremental_17 (Int.not_le.mpr hc) rfl ?_
    refine Go.aloadN (pc2 := 21) d_k_runIncremental_20 rfl rfl ?_
    refine Go.aloadN (pc2 := 22) d_k_runIncremental_21 rfl rfl ?_
    refine Go.geta (pc2 := 25) d_k_runIncremental_22 rfl rfl D_C (by exact w_14 hw) (q := 0) rfl (j := 2) rfl (Nat.le_of_ble_eq_true rfl) rfl ?_
    refine Go.iloadN (pc2 := 26) d_k_runIncremental_25 rfl rfl ?_
    refine Go.iald (pc2 := 27) d_k_runIncremental_26 rfl (q := 0) rfl (j := 2) rfl (Nat.le_of_ble_eq_true rfl) rfl (by decide) (z := r 3 1) rfl ?_
    cases hf
  · replace hf := ifn hc hf
    refine Go.icmpT (pc2 := 44) d_k_runIncremental_17 (Int.not_lt.mp hc) (by decide) (by decide) ?_
    cases hf
    exact Go.retv d_k_runIncremental_44 rfl (Nat.le_of_ble_eq_true rfl) (Nat.le_of_ble_eq_true rfl) (fun _ H => ⟨rfl, H⟩)
set_option maxRecDepth 65536 in
set_option maxHeartbeats 4000000 in
theorem th_k_absL {l : Launch} {Z : State} {a0 : Array Value} (hw : ∀ d ∈ tables_1, d.before a0 Z = true) {n0 : Nat} {P : Heap → Prop} {b0 sz : Nat} {rr : Int} {O0 : Mo} {v1 : Int} (hf : k_absL v1 = rr) :
    Meth l Z D n0 P (⟨"MinCircle", "absL", "(J)J"⟩ : MethodName) prog_1_method_30_code 3 (some .long) R_k_absL [vR b0, vJ v1] [(b0, 4, O0)] sz (QM Z D n0 P (some (vJ rr)) [(b0, 4, O0)] sz) := by
  refine Meth.of (plainFor_of_name pn_cls) (Nat.le_of_ble_eq_true rfl) ?_
  show G_k_absL l Z n0 P 0 [some (vR b0), some (vJ v1), none] [] [(b0, 4, O0)] sz 0 0 (QM Z D n0 P (some (vJ rr)) [(b0, 4, O0)] sz)
  unfold k_absL at hf
  refine Go.lloadN (pc2 := 1) d_k_absL_0 rfl rfl ?_
  refine Go.lconst (pc2 := 2) (i := 0) d_k_absL_1 rfl (by decide) ?_
  by_cases hc : v1 < 0
  · replace hf := ifp hc hf
    refine Go.lcmpF (pc3 := 3) (pc2 := 6) d_k_absL_2 d_k_absL_3 rfl (Int.not_le.mpr hc) rfl ?_
    refine Go.lloadN (pc2 := 7) d_k_absL_6 rfl rfl ?_
    refine Go.lneg (pc2 := 8) d_k_absL_7 rfl ?_
    refine Go.goto (pc2 := 12) d_k_absL_8 (by decide) (by decide) ?_
    cases hf
    exact Go.retj d_k_absL_12 rfl (Nat.le_of_ble_eq_true rfl) (Nat.le_of_ble_eq_true rfl) (fun _ H => ⟨rfl, H⟩)
  · replace hf := ifn hc hf
    refine Go.lcmpT (pc3 := 3) (pc2 := 11) d_k_absL_2 d_k_absL_3 rfl (Int.not_lt.mp hc) (by decide) (by decide) ?_
    refine Go.lloadN (pc2 := 12) d_k_absL_11 rfl rfl ?_
    cases hf
    exact Go.retj d_k_absL_12 rfl (Nat.le_of_ble_eq_true rfl) (Nat.le_of_ble_eq_true rfl) (fun _ H => ⟨rfl, H⟩)
set_option maxRecDepth 65536 in
set_option maxHeartbeats 4000000 in
theorem tb_k_gcd_17 {l : Launch} {Z : State} {a0 : Array Value} (hw : ∀ d ∈ tables_1, d.before a0 Z = true) {n0 : Nat} {P : Heap → Prop} {F : Nat} {b0 sz : Nat} {rr : Int} {O0 : Mo} {v5 v7 v9 : Int} {x : (Int × Int × Int) ⊕ (Int)} (hf : b_k_gcd_17 F v5 v7 v9 = some x) (K : Sum.elim (fun s => G_k_gcd l Z n0 P 17 [none, none, none, none, none, some (vJ s.1), none, some (vJ s.2.1), none, some (vI s.2.2), none, none] [] [(b0, 4, O0)] sz 0 0 (QM Z D n0 P (some (vJ rr)) [(b0, 4, O0)] sz)) (fun r => G_k_gcd l Z n0 P 53 [none, none, none, none, none, some (vJ r), none, none, none, none, none, none] [] [(b0, 4, O0)] sz 0 0 (QM Z D n0 P (some (vJ rr)) [(b0, 4, O0)] sz)) x) :
    G_k_gcd l Z n0 P 17 [none, none, none, none, none, some (vJ v5), none, some (vJ v7), none, some (vI v9), none, none] [] [(b0, 4, O0)] sz 0 0 (QM Z D n0 P (some (vJ rr)) [(b0, 4, O0)] sz) := by
  unfold b_k_gcd_17 at hf
  refine Go.iload (pc2 := 19) d_k_gcd_17 rfl rfl ?_
  refine Go.sipush (pc2 := 22) d_k_gcd_19 rfl (by decide) ?_
  by_cases hc : v9 < 200
  · replace hf := ifp hc hf
    refine Go.icmpF (pc2 := 25) d_k_gcd_22 (Int.not_le.mpr hc) rfl ?_
    refine Go.lload (pc2 := 27) d_k_gcd_25 rfl rfl ?_
    refine Go.lconst (pc2 := 28) (i := 0) d_k_gcd_27 rfl (by decide) ?_
    by_cases hc : v7 = 0
    · replace hf := ifp hc hf
      refine Go.lcmpT (pc3 := 29) (pc2 := 53) d_k_gcd_28 d_k_gcd_29 rfl hc (by decide) (by decide) ?_
      cases hf
      exact Go.mask [true, true, true, true, true, true, true, false, true, false, true, true] K
    · replace hf := ifn hc hf
      refine Go.lcmpF (pc3 := 29) (pc2 := 32) d_k_gcd_28 d_k_gcd_29 rfl hc rfl ?_
      refine Go.lload (pc2 := 34) d_k_gcd_32 rfl rfl ?_
      refine Go.lload (pc2 := 36) d_k_gcd_34 rfl rfl ?_
      have hb := okn hf
      replace hf := ifn hb hf
      refine Go.lrem (pc2 := 37) d_k_gcd_36 rfl hb ?_
      refine Go.lstore (pc2 := 39) (L2 := [none, none, none, none, none, some (vJ v5), none, some (vJ v7), none, some (vI v9), some (vJ (w64 (Int.tmod v5 v7))), none]) d_k_gcd_37 rfl (Nat.le_of_ble_eq_true rfl) rfl ?_
      refine Go.lload (pc2 := 41) d_k_gcd_39 rfl rfl ?_
      refine Go.lstore (pc2 := 43) (L2 := [none, none, none, none, none, some (vJ v7), none, some (vJ v7), none, some (vI v9), some (vJ (w64 (Int.tmod v5 v7))), none]) d_k_gcd_41 rfl (Nat.le_of_ble_eq_true rfl) rfl ?_
      refine Go.lload (pc2 := 45) d_k_gcd_43 rfl rfl ?_
      refine Go.lstore (pc2 := 47) (L2 := [none, none, none, none, none, some (vJ v7), none, some (vJ (w64 (Int.tmod v5 v7))), none, some (vI v9), some (vJ (w64 (Int.tmod v5 v7))), none]) d_k_gcd_45 rfl (Nat.le_of_ble_eq_true rfl) rfl ?_
      refine Go.iinc (pc2 := 50) (L2 := [none, none, none, none, none, some (vJ v7), none, some (vJ (w64 (Int.tmod v5 v7))), none, some (vI (w32 (v9 + 1))), some (vJ (w64 (Int.tmod v5 v7))), none]) d_k_gcd_47 rfl rfl rfl ?_
      refine Go.goto (pc2 := 17) d_k_gcd_50 (by decide) (by decide) ?_
      cases hf
      exact Go.mask [true, true, true, true, true, true, true, true, true, true, false, true] K
  · replace hf := ifn hc hf
    refine Go.icmpT (pc2 := 53) d_k_gcd_22 (Int.not_lt.mp hc) (by decide) (by decide) ?_
    cases hf
    exact Go.mask [true, true, true, true, true, true, true, false, true, false, true, true] K
set_option maxRecDepth 65536 in
set_option maxHeartbeats 4000000 in
theorem th_k_gcd {l : Launch} {Z : State} {a0 : Array Value} (hw : ∀ d ∈ tables_1, d.before a0 Z = true) {n0 : Nat} {P : Heap → Prop} {F : Nat} {b0 sz : Nat} {rr : Int} {O0 : Mo} {v1 v3 : Int} (hf : k_gcd F v1 v3 = some rr) :
    Meth l Z D n0 P (⟨"MinCircle", "gcd", "(JJ)J"⟩ : MethodName) prog_1_method_31_code 12 (some .long) R_k_gcd [vR b0, vJ v1, vJ v3] [(b0, 4, O0)] sz (QM Z D n0 P (some (vJ rr)) [(b0, 4, O0)] sz) := by
  refine Meth.of (plainFor_of_name pn_cls) (Nat.le_of_ble_eq_true rfl) ?_
  show G_k_gcd l Z n0 P 0 [some (vR b0), some (vJ v1), none, some (vJ v3), none, none, none, none, none, none, none, none] [] [(b0, 4, O0)] sz 0 0 (QM Z D n0 P (some (vJ rr)) [(b0, 4, O0)] sz)
  unfold k_gcd at hf
  refine Go.aloadN (pc2 := 1) d_k_gcd_0 rfl rfl ?_
  refine Go.lloadN (pc2 := 2) d_k_gcd_1 rfl rfl ?_
  refine Go.callp (pc2 := 5) (as := [vJ v1]) (S := []) (w := (some (vJ (k_absL v1)))) (os2 := [(b0, 4, O0)]) (sz2 := sz) (S2 := [vJ (k_absL v1)]) (rm := R_k_absL) d_k_gcd_2 rfl rfl (by exact w_70 hw) (by exact w_72 hw) (by exact w_71 hw) (by exact w_73 hw) rfl (by exact w_2 hw) (by exact w_1 hw) (q := 0) rfl (by decide) pd_k_absL (by decide) (Nat.le_of_ble_eq_true rfl) (by decide) (by decide) (nc := 0) (ns := 0) rfl rfl rfl (cu2 := 0) rfl (su2 := 0) rfl rfl (Pays.one (q := 0) rfl rfl (fun P2 hP2 => th_k_absL hw rfl)) rfl ?_
  refine Go.lstore (pc2 := 7) (L2 := [some (vR b0), some (vJ v1), none, some (vJ v3), none, some (vJ (k_absL v1)), none, none, none, none, none, none]) d_k_gcd_5 rfl (Nat.le_of_ble_eq_true rfl) rfl ?_
  refine Go.aloadN (pc2 := 8) d_k_gcd_7 rfl rfl ?_
  refine Go.lloadN (pc2 := 9) d_k_gcd_8 rfl rfl ?_
  refine Go.callp (pc2 := 12) (as := [vJ v3]) (S := []) (w := (some (vJ (k_absL v3)))) (os2 := [(b0, 4, O0)]) (sz2 := sz) (S2 := [vJ (k_absL v3)]) (rm := R_k_absL) d_k_gcd_9 rfl rfl (by exact w_70 hw) (by exact w_72 hw) (by exact w_71 hw) (by exact w_73 hw) rfl (by exact w_2 hw) (by exact w_1 hw) (q := 0) rfl (by decide) pd_k_absL (by decide) (Nat.le_of_ble_eq_true rfl) (by decide) (by decide) (nc := 0) (ns := 0) rfl rfl rfl (cu2 := 0) rfl (su2 := 0) rfl rfl (Pays.one (q := 0) rfl rfl (fun P2 hP2 => th_k_absL hw rfl)) rfl ?_
  refine Go.lstore (pc2 := 14) (L2 := [some (vR b0), some (vJ v1), none, some (vJ v3), none, some (vJ (k_absL v1)), none, some (vJ (k_absL v3)), none, none, none, none]) d_k_gcd_12 rfl (Nat.le_of_ble_eq_true rfl) rfl ?_
  refine Go.iconst (pc2 := 15) d_k_gcd_14 rfl (by decide) ?_
  refine Go.istore (pc2 := 17) (L2 := [some (vR b0), some (vJ v1), none, some (vJ v3), none, some (vJ (k_absL v1)), none, some (vJ (k_absL v3)), none, some (vI 0), none, none]) d_k_gcd_15 rfl (Nat.le_of_ble_eq_true rfl) rfl ?_
  refine Go.mask [false, false, true, false, true, true, true, true, true, true, true, true] ?_
  refine loop_go hf (Gs := fun s => G_k_gcd l Z n0 P 17 [none, none, none, none, none, some (vJ s.1), none, some (vJ s.2.1), none, some (vI s.2.2), none, none] [] [(b0, 4, O0)] sz 0 0 (QM Z D n0 P (some (vJ rr)) [(b0, 4, O0)] sz)) (Gr := (fun r => G_k_gcd l Z n0 P 53 [none, none, none, none, none, some (vJ r), none, none, none, none, none, none] [] [(b0, 4, O0)] sz 0 0 (QM Z D n0 P (some (vJ rr)) [(b0, 4, O0)] sz))) (fun s x hx K => tb_k_gcd_17 hw hx K) ?_
  clear hf
  intro r hf
  refine Go.lload (pc2 := 55) d_k_gcd_53 rfl rfl ?_
  cases hf
  exact Go.retj d_k_gcd_55 rfl (Nat.le_of_ble_eq_true rfl) (Nat.le_of_ble_eq_true rfl) (fun _ H => ⟨rfl, H⟩)
set_option maxRecDepth 65536 in
set_option maxHeartbeats 4000000 in
theorem th_k_pwFinal {l : Launch} {Z : State} {a0 : Array Value} (hw : ∀ d ∈ tables_1, d.before a0 Z = true) {n0 : Nat} {P : Heap → Prop} {b0 sz : Nat} {rr : Int} {O0 : Mo} {v1 v2 : Int} (hf : k_pwFinal O0 v1 v2 = rr) :
    Meth l Z D n0 P (⟨"MinCircle", "pwFinal", "(II)J"⟩ : MethodName) prog_1_method_34_code 7 (some .long) R_k_pwFinal [vR b0, vI v1, vI v2] [(b0, 4, O0)] sz (QM Z D n0 P (some (vJ rr)) [(b0, 4, O0)] sz) := by
  refine Meth.of (plainFor_of_name pn_cls) (Nat.le_of_ble_eq_true rfl) ?_
  show G_k_pwFinal l Z n0 P 0 [some (vR b0), some (vI v1), some (vI v2), none, none, none, none] [] [(b0, 4, O0)] sz 0 0 (QM Z D n0 P (some (vJ rr)) [(b0, 4, O0)] sz)
  unfold k_pwFinal at hf
  refine Go.iloadN (pc2 := 1) d_k_pwFinal_0 rfl rfl ?_
  refine Go.i2l (pc2 := 2) d_k_pwFinal_1 rfl ?_
  refine Go.aloadN (pc2 := 3) d_k_pwFinal_2 rfl rfl ?_
  refine Go.getf (pc2 := 6) d_k_pwFinal_3 rfl rfl D_C (by exact w_74 hw) (q := 0) rfl (x := O0 0 6) (u := vJ (O0 0 6)) (fs_den) rfl rfl ?_
  refine Go.lmul (pc2 := 7) d_k_pwFinal_6 rfl ?_
  refine Go.aloadN (pc2 := 8) d_k_pwFinal_7 rfl rfl ?_
  refine Go.getf (pc2 := 11) d_k_pwFinal_8 rfl rfl D_C (by exact w_76 hw) (q := 0) rfl (x := O0 0 4) (u := vJ (O0 0 4)) (fs_cxNum) rfl rfl ?_
  refine Go.lsub (pc2 := 12) d_k_pwFinal_11 rfl ?_
  refine Go.lstoreN (pc2 := 13) (L2 := [some (vR b0), some (vI v1), some (vI v2), some (vJ (w64 ((w64 (v1 * (O0 0 6))) - (O0 0 4)))), none, none, none]) d_k_pwFinal_12 rfl (Nat.le_of_ble_eq_true rfl) rfl ?_
  refine lt_in hf (G := fun v3 => G_k_pwFinal l Z n0 P 13 [some (vR b0), some (vI v1), some (vI v2), some (vJ v3), none, none, none] [] [(b0, 4, O0)] sz 0 0 (QM Z D n0 P (some (vJ rr)) [(b0, 4, O0)] sz)) ?_
  clear hf
  intro v3 hf
  refine Go.iloadN (pc2 := 14) d_k_pwFinal_13 rfl rfl ?_
  refine Go.i2l (pc2 := 15) d_k_pwFinal_14 rfl ?_
  refine Go.aloadN (pc2 := 16) d_k_pwFinal_15 rfl rfl ?_
  refine Go.getf (pc2 := 19) d_k_pwFinal_16 rfl rfl D_C (by exact w_74 hw) (q := 0) rfl (x := O0 0 6) (u := vJ (O0 0 6)) (fs_den) rfl rfl ?_
  refine Go.lmul (pc2 := 20) d_k_pwFinal_19 rfl ?_
  refine Go.aloadN (pc2 := 21) d_k_pwFinal_20 rfl rfl ?_
  refine Go.getf (pc2 := 24) d_k_pwFinal_21 rfl rfl D_C (by exact w_78 hw) (q := 0) rfl (x := O0 0 5) (u := vJ (O0 0 5)) (fs_cyNum) rfl rfl ?_
  refine Go.lsub (pc2 := 25) d_k_pwFinal_24 rfl ?_
  refine Go.lstore (pc2 := 27) (L2 := [some (vR b0), some (vI v1), some (vI v2), some (vJ v3), none, some (vJ (w64 ((w64 (v2 * (O0 0 6))) - (O0 0 5)))), none]) d_k_pwFinal_25 rfl (Nat.le_of_ble_eq_true rfl) rfl ?_
  refine lt_in hf (G := fun v5 => G_k_pwFinal l Z n0 P 27 [some (vR b0), some (vI v1), some (vI v2), some (vJ v3), none, some (vJ v5), none] [] [(b0, 4, O0)] sz 0 0 (QM Z D n0 P (some (vJ rr)) [(b0, 4, O0)] sz)) ?_
  clear hf
  intro v5 hf
  refine Go.lloadN (pc2 := 28) d_k_pwFinal_27 rfl rfl ?_
  refine Go.lloadN (pc2 := 29) d_k_pwFinal_28 rfl rfl ?_
  refine Go.lmul (pc2 := 30) d_k_pwFinal_29 rfl ?_
  refine Go.lload (pc2 := 32) d_k_pwFinal_30 rfl rfl ?_
  refine Go.lload (pc2 := 34) d_k_pwFinal_32 rfl rfl ?_
  refine Go.lmul (pc2 := 35) d_k_pwFinal_34 rfl ?_
  refine Go.ladd (pc2 := 36) d_k_pwFinal_35 rfl ?_
  cases hf
  exact Go.retj d_k_pwFinal_36 rfl (Nat.le_of_ble_eq_true rfl) (Nat.le_of_ble_eq_true rfl) (fun _ H => ⟨rfl, H⟩)
set_option maxRecDepth 65536 in
set_option maxHeartbeats 4000000 in
theorem tb_k_recordRadius_4 {l : Launch} {Z : State} {a0 : Array Value} (hw : ∀ d ∈ tables_1, d.before a0 Z = true) {n0 : Nat} {P : Heap → Prop} {F : Nat} {b0 sz : Nat} {Oz0 : Mo} {C4_0 : Mo} {v1 v3 : Int} {x : (Int × Int) ⊕ (Int)} (hf : b_k_recordRadius_4 F C4_0 v1 v3 = some x) (K : Sum.elim (fun s => G_k_recordRadius l Z n0 P 4 [some (vR b0), some (vJ s.1), none, some (vI s.2), none, none] [] [(b0, 4, C4_0)] sz 0 0 (QM Z D n0 P none [(b0, 4, Oz0)] sz)) (fun r => G_k_recordRadius l Z n0 P 46 [some (vR b0), some (vJ r), none, none, none, none] [] [(b0, 4, C4_0)] sz 0 0 (QM Z D n0 P none [(b0, 4, Oz0)] sz)) x) :
    G_k_recordRadius l Z n0 P 4 [some (vR b0), some (vJ v1), none, some (vI v3), none, none] [] [(b0, 4, C4_0)] sz 0 0 (QM Z D n0 P none [(b0, 4, Oz0)] sz) := by
  unfold b_k_recordRadius_4 at hf
  refine Go.iloadN (pc2 := 5) d_k_recordRadius_4 rfl rfl ?_
  refine Go.aloadN (pc2 := 6) d_k_recordRadius_5 rfl rfl ?_
  refine Go.getf (pc2 := 9) d_k_recordRadius_6 rfl rfl D_C (by exact w_24 hw) (q := 0) rfl (x := C4_0 0 2) (u := vI (C4_0 0 2)) (fs_n) rfl rfl ?_
  by_cases hc : v3 < C4_0 0 2
  · replace hf := ifp hc hf
    refine Go.icmpF (pc2 := 12) d_k_recordRadius_9 (Int.not_le.mpr hc) rfl ?_
    refine Go.aloadN (pc2 := 13) d_k_recordRadius_12 rfl rfl ?_
    refine Go.aloadN (pc2 := 14) d_k_recordRadius_13 rfl rfl ?_
    refine Go.geta (pc2 := 17) d_k_recordRadius_14 rfl rfl D_C (by exact w_10 hw) (q := 0) rfl (j := 0) rfl (Nat.le_of_ble_eq_true rfl) rfl ?_
    refine Go.iloadN (pc2 := 18) d_k_recordRadius_17 rfl rfl ?_
    have hb := okb hf
    replace hf := ifp hb hf
    refine Go.iald (pc2 := 19) d_k_recordRadius_18 rfl (q := 0) rfl (j := 0) rfl (Nat.le_of_ble_eq_true rfl) rfl hb (z := C4_0 1 v3.toNat) rfl ?_
    refine Go.aloadN (pc2 := 20) d_k_recordRadius_19 rfl rfl ?_
    refine Go.geta (pc2 := 23) d_k_recordRadius_20 rfl rfl D_C (by exact w_12 hw) (q := 0) rfl (j := 1) rfl (Nat.le_of_ble_eq_true rfl) rfl ?_
    refine Go.iloadN (pc2 := 24) d_k_recordRadius_23 rfl rfl ?_
    have hb := okb hf
    replace hf := ifp hb hf
    refine Go.iald (pc2 := 25) d_k_recordRadius_24 rfl (q := 0) rfl (j := 1) rfl (Nat.le_of_ble_eq_true rfl) rfl hb (z := C4_0 2 v3.toNat) rfl ?_
    refine Go.callp (pc2 := 28) (as := [vI (C4_0 1 v3.toNat), vI (C4_0 2 v3.toNat)]) (S := []) (w := (some (vJ (k_pwFinal C4_0 (C4_0 1 v3.toNat) (C4_0 2 v3.toNat))))) (os2 := [(b0, 4, C4_0)]) (sz2 := sz) (S2 := [vJ (k_pwFinal C4_0 (C4_0 1 v3.toNat) (C4_0 2 v3.toNat))]) (rm := R_k_pwFinal) d_k_recordRadius_25 rfl rfl (by exact w_84 hw) (by exact w_86 hw) (by exact w_85 hw) (by exact w_87 hw) rfl (by exact w_2 hw) (by exact w_1 hw) (q := 0) rfl (by decide) pd_k_pwFinal (by decide) (Nat.le_of_ble_eq_true rfl) (by decide) (by decide) (nc := 0) (ns := 0) rfl rfl rfl (cu2 := 0) rfl (su2 := 0) rfl rfl (Pays.one (q := 0) rfl rfl (fun P2 hP2 => th_k_pwFinal hw rfl)) rfl ?_
    refine Go.lstore (pc2 := 30) (L2 := [some (vR b0), some (vJ v1), none, some (vI v3), some (vJ (k_pwFinal C4_0 (C4_0 1 v3.toNat) (C4_0 2 v3.toNat))), none]) d_k_recordRadius_28 rfl (Nat.le_of_ble_eq_true rfl) rfl ?_
    refine lt_in hf (G := fun v4 => G_k_recordRadius l Z n0 P 30 [some (vR b0), some (vJ v1), none, some (vI v3), some (vJ v4), none] [] [(b0, 4, C4_0)] sz 0 0 (QM Z D n0 P none [(b0, 4, Oz0)] sz)) ?_
    clear hf
    intro v4 hf
    refine Go.lload (pc2 := 32) d_k_recordRadius_30 rfl rfl ?_
    refine Go.lloadN (pc2 := 33) d_k_recordRadius_32 rfl rfl ?_
    by_cases hc : v4 ≤ v1
    · replace hf := ifp hc hf
      refine Go.lcmpT (pc3 := 34) (pc2 := 40) d_k_recordRadius_33 d_k_recordRadius_34 rfl hc (by decide) (by decide) ?_
      refine Go.iinc (pc2 := 43) (L2 := [some (vR b0), some (vJ v1), none, some (vI (w32 (v3 + 1))), some (vJ v4), none]) d_k_recordRadius_40 rfl rfl rfl ?_
      refine Go.goto (pc2 := 4) d_k_recordRadius_43 (by decide) (by decide) ?_
      cases hf
      exact Go.mask [true, true, true, true, false, true] K
    · replace hf := ifn hc hf
      refine Go.lcmpF (pc3 := 34) (pc2 := 37) d_k_recordRadius_33 d_k_recordRadius_34 rfl hc rfl ?_
      refine Go.lload (pc2 := 39) d_k_recordRadius_37 rfl rfl ?_
      refine Go.lstoreN (pc2 := 40) (L2 := [some (vR b0), some (vJ v4), none, some (vI v3), some (vJ v4), none]) d_k_recordRadius_39 rfl (Nat.le_of_ble_eq_true rfl) rfl ?_
      refine Go.iinc (pc2 := 43) (L2 := [some (vR b0), some (vJ v4), none, some (vI (w32 (v3 + 1))), some (vJ v4), none]) d_k_recordRadius_40 rfl rfl rfl ?_
      refine Go.goto (pc2 := 4) d_k_recordRadius_43 (by decide) (by decide) ?_
      cases hf
      exact Go.mask [true, true, true, true, false, true] K
  · replace hf := ifn hc hf
    refine Go.icmpT (pc2 := 46) d_k_recordRadius_9 (Int.not_lt.mp hc) (by decide) (by decide) ?_
    cases hf
    exact Go.mask [true, true, true, false, true, true] K
set_option maxRecDepth 65536 in
set_option maxHeartbeats 4000000 in
theorem ti_k_recordRadius_93 {l : Launch} {Z : State} {a0 : Array Value} (hw : ∀ d ∈ tables_1, d.before a0 Z = true) {n0 : Nat} {P : Heap → Prop} {F : Nat} {b0 sz : Nat} {Oz0 : Mo} {c56_1 : Int} {O0 : Mo} {v3 v4 s0 : Int} {x : (Int × Int × Mo) ⊕ ((Int × Mo))} (hf : i_k_recordRadius_93 F O0 c56_1 v3 v4 s0 = some x) (K : Sum.elim (fun s => G_k_recordRadius l Z n0 P 56 [some (vR b0), some (vJ c56_1), none, some (vI s.1), some (vI s.2.1), none] [] [(b0, 4, s.2.2)] sz 0 0 (QM Z D n0 P none [(b0, 4, Oz0)] sz)) (fun r => G_k_recordRadius l Z n0 P 118 [some (vR b0), none, none, some (vI r.1), none, none] [] [(b0, 4, r.2)] sz 0 0 (QM Z D n0 P none [(b0, 4, Oz0)] sz)) x) :
    G_k_recordRadius l Z n0 P 93 [some (vR b0), some (vJ c56_1), none, some (vI v3), some (vI v4), none] [vI s0] [(b0, 4, O0)] sz 0 0 (QM Z D n0 P none [(b0, 4, Oz0)] sz) := by
  unfold i_k_recordRadius_93 at hf
  refine Go.istore (pc2 := 95) (L2 := [some (vR b0), some (vJ c56_1), none, some (vI v3), some (vI v4), some (vI s0)]) d_k_recordRadius_93 rfl (Nat.le_of_ble_eq_true rfl) rfl ?_
  refine Go.aloadN (pc2 := 96) d_k_recordRadius_95 rfl rfl ?_
  refine Go.geta (pc2 := 99) d_k_recordRadius_96 rfl rfl D_C (by exact w_17 hw) (q := 0) rfl (j := 3) rfl (Nat.le_of_ble_eq_true rfl) rfl ?_
  refine Go.iload (pc2 := 101) d_k_recordRadius_99 rfl rfl ?_
  refine Go.iload (pc2 := 103) d_k_recordRadius_101 rfl rfl ?_
  have hb := okb hf
  replace hf := ifp hb hf
  refine Go.zast (pc2 := 104) d_k_recordRadius_103 rfl (q := 0) rfl (j := 3) rfl (Nat.le_of_ble_eq_true rfl) rfl hb (z := s0) (z' := s0 % 2) rfl (os2 := [(b0, 4, (upd O0 4 (v4.toNat) (s0 % 2)))]) rfl ?_
  refine Go.iload (pc2 := 106) d_k_recordRadius_104 rfl rfl ?_
  by_cases hc : s0 = 0
  · replace hf := ifp hc hf
    refine Go.ifT (pc2 := 112) d_k_recordRadius_106 hc (by decide) (by decide) ?_
    refine Go.iinc (pc2 := 115) (L2 := [some (vR b0), some (vJ c56_1), none, some (vI v3), some (vI (w32 (v4 + 1))), some (vI s0)]) d_k_recordRadius_112 rfl rfl rfl ?_
    refine Go.goto (pc2 := 56) d_k_recordRadius_115 (by decide) (by decide) ?_
    cases hf
    exact Go.mask [true, true, true, true, true, false] K
  · replace hf := ifn hc hf
    refine Go.ifF (pc2 := 109) d_k_recordRadius_106 hc rfl ?_
    refine Go.iinc (pc2 := 112) (L2 := [some (vR b0), some (vJ c56_1), none, some (vI (w32 (v3 + 1))), some (vI v4), some (vI s0)]) d_k_recordRadius_109 rfl rfl rfl ?_
    refine Go.iinc (pc2 := 115) (L2 := [some (vR b0), some (vJ c56_1), none, some (vI (w32 (v3 + 1))), some (vI (w32 (v4 + 1))), some (vI s0)]) d_k_recordRadius_112 rfl rfl rfl ?_
    refine Go.goto (pc2 := 56) d_k_recordRadius_115 (by decide) (by decide) ?_
    cases hf
    exact Go.mask [true, true, true, true, true, false] K
set_option maxRecDepth 65536 in
set_option maxHeartbeats 4000000 in
theorem tb_k_recordRadius_56 {l : Launch} {Z : State} {a0 : Array Value} (hw : ∀ d ∈ tables_1, d.before a0 Z = true) {n0 : Nat} {P : Heap → Prop} {F : Nat} {b0 sz : Nat} {Oz0 : Mo} {c56_1 : Int} {v3 v4 : Int} {O0 : Mo} {x : (Int × Int × Mo) ⊕ ((Int × Mo))} (hf : b_k_recordRadius_56 F c56_1 v3 v4 O0 = some x) (K : Sum.elim (fun s => G_k_recordRadius l Z n0 P 56 [some (vR b0), some (vJ c56_1), none, some (vI s.1), some (vI s.2.1), none] [] [(b0, 4, s.2.2)] sz 0 0 (QM Z D n0 P none [(b0, 4, Oz0)] sz)) (fun r => G_k_recordRadius l Z n0 P 118 [some (vR b0), none, none, some (vI r.1), none, none] [] [(b0, 4, r.2)] sz 0 0 (QM Z D n0 P none [(b0, 4, Oz0)] sz)) x) :
    G_k_recordRadius l Z n0 P 56 [some (vR b0), some (vJ c56_1), none, some (vI v3), some (vI v4), none] [] [(b0, 4, O0)] sz 0 0 (QM Z D n0 P none [(b0, 4, Oz0)] sz) := by
  unfold b_k_recordRadius_56 at hf
  refine Go.iload (pc2 := 58) d_k_recordRadius_56 rfl rfl ?_
  refine Go.aloadN (pc2 := 59) d_k_recordRadius_58 rfl rfl ?_
  refine Go.getf (pc2 := 62) d_k_recordRadius_59 rfl rfl D_C (by exact w_24 hw) (q := 0) rfl (x := O0 0 2) (u := vI (O0 0 2)) (fs_n) rfl rfl ?_
  by_cases hc : v4 < O0 0 2
  · replace hf := ifp hc hf
    refine Go.icmpF (pc2 := 65) d_k_recordRadius_62 (Int.not_le.mpr hc) rfl ?_
    refine Go.aloadN (pc2 := 66) d_k_recordRadius_65 rfl rfl ?_
    refine Go.aloadN (pc2 := 67) d_k_recordRadius_66 rfl rfl ?_
    refine Go.geta (pc2 := 70) d_k_recordRadius_67 rfl rfl D_C (by exact w_10 hw) (q := 0) rfl (j := 0) rfl (Nat.le_of_ble_eq_true rfl) rfl ?_
    refine Go.iload (pc2 := 72) d_k_recordRadius_70 rfl rfl ?_
    have hb := okb hf
    replace hf := ifp hb hf
    refine Go.iald (pc2 := 73) d_k_recordRadius_72 rfl (q := 0) rfl (j := 0) rfl (Nat.le_of_ble_eq_true rfl) rfl hb (z := O0 1 v4.toNat) rfl ?_
    refine Go.aloadN (pc2 := 74) d_k_recordRadius_73 rfl rfl ?_
    refine Go.geta (pc2 := 77) d_k_recordRadius_74 rfl rfl D_C (by exact w_12 hw) (q := 0) rfl (j := 1) rfl (Nat.le_of_ble_eq_true rfl) rfl ?_
    refine Go.iload (pc2 := 79) d_k_recordRadius_77 rfl rfl ?_
    have hb := okb hf
    replace hf := ifp hb hf
    refine Go.iald (pc2 := 80) d_k_recordRadius_79 rfl (q := 0) rfl (j := 1) rfl (Nat.le_of_ble_eq_true rfl) rfl hb (z := O0 2 v4.toNat) rfl ?_
    refine Go.callp (pc2 := 83) (as := [vI (O0 1 v4.toNat), vI (O0 2 v4.toNat)]) (S := []) (w := (some (vJ (k_pwFinal O0 (O0 1 v4.toNat) (O0 2 v4.toNat))))) (os2 := [(b0, 4, O0)]) (sz2 := sz) (S2 := [vJ (k_pwFinal O0 (O0 1 v4.toNat) (O0 2 v4.toNat))]) (rm := R_k_pwFinal) d_k_recordRadius_80 rfl rfl (by exact w_84 hw) (by exact w_86 hw) (by exact w_85 hw) (by exact w_87 hw) rfl (by exact w_2 hw) (by exact w_1 hw) (q := 0) rfl (by decide) pd_k_pwFinal (by decide) (Nat.le_of_ble_eq_true rfl) (by decide) (by decide) (nc := 0) (ns := 0) rfl rfl rfl (cu2 := 0) rfl (su2 := 0) rfl rfl (Pays.one (q := 0) rfl rfl (fun P2 hP2 => th_k_pwFinal hw rfl)) rfl ?_
    refine Go.lloadN (pc2 := 84) d_k_recordRadius_83 rfl rfl ?_
    by_cases hc : k_pwFinal O0 (O0 1 v4.toNat) (O0 2 v4.toNat) = c56_1
    · replace hf := ifp hc hf
      refine Go.lcmpF (pc3 := 85) (pc2 := 88) d_k_recordRadius_84 d_k_recordRadius_85 rfl (fun q => q hc) rfl ?_
      refine Go.iconst (pc2 := 89) d_k_recordRadius_88 rfl (by decide) ?_
      refine Go.goto (pc2 := 93) d_k_recordRadius_89 (by decide) (by decide) ?_
      exact ti_k_recordRadius_93 hw hf K
    · replace hf := ifn hc hf
      refine Go.lcmpT (pc3 := 85) (pc2 := 92) d_k_recordRadius_84 d_k_recordRadius_85 rfl hc (by decide) (by decide) ?_
      refine Go.iconst (pc2 := 93) d_k_recordRadius_92 rfl (by decide) ?_
      exact ti_k_recordRadius_93 hw hf K
  · replace hf := ifn hc hf
    refine Go.icmpT (pc2 := 118) d_k_recordRadius_62 (Int.not_lt.mp hc) (by decide) (by decide) ?_
    cases hf
    exact Go.mask [true, false, true, true, false, true] K
set_option maxRecDepth 65536 in
set_option maxHeartbeats 4000000 in
theorem th_k_recordRadius {l : Launch} {Z : State} {a0 : Array Value} (hw : ∀ d ∈ tables_1, d.before a0 Z = true) {n0 : Nat} {P : Heap → Prop} {F : Nat} {b0 sz : Nat} {Oz0 : Mo} {O0 : Mo} (hf : k_recordRadius F O0 = some Oz0) :
    Meth l Z D n0 P (⟨"MinCircle", "recordRadius", "()V"⟩ : MethodName) prog_1_method_33_code 6 none R_k_recordRadius [vR b0] [(b0, 4, O0)] sz (QM Z D n0 P none [(b0, 4, Oz0)] sz) := by
  refine Meth.of (plainFor_of_name pn_cls) (Nat.le_of_ble_eq_true rfl) ?_
  show G_k_recordRadius l Z n0 P 0 [some (vR b0), none, none, none, none, none] [] [(b0, 4, O0)] sz 0 0 (QM Z D n0 P none [(b0, 4, Oz0)] sz)
  unfold k_recordRadius at hf
  refine Go.lconst (pc2 := 1) (i := 0) d_k_recordRadius_0 rfl (by decide) ?_
  refine Go.lstoreN (pc2 := 2) (L2 := [some (vR b0), some (vJ 0), none, none, none, none]) d_k_recordRadius_1 rfl (Nat.le_of_ble_eq_true rfl) rfl ?_
  refine Go.iconst (pc2 := 3) d_k_recordRadius_2 rfl (by decide) ?_
  refine Go.istoreN (pc2 := 4) (L2 := [some (vR b0), some (vJ 0), none, some (vI 0), none, none]) d_k_recordRadius_3 rfl (Nat.le_of_ble_eq_true rfl) rfl ?_
  refine loop_go hf (Gs := fun s => G_k_recordRadius l Z n0 P 4 [some (vR b0), some (vJ s.1), none, some (vI s.2), none, none] [] [(b0, 4, O0)] sz 0 0 (QM Z D n0 P none [(b0, 4, Oz0)] sz)) (Gr := (fun r => G_k_recordRadius l Z n0 P 46 [some (vR b0), some (vJ r), none, none, none, none] [] [(b0, 4, O0)] sz 0 0 (QM Z D n0 P none [(b0, 4, Oz0)] sz))) (fun s x hx K => tb_k_recordRadius_4 hw hx K) ?_
  clear hf
  intro r hf
  refine Go.aloadN (pc2 := 47) d_k_recordRadius_46 rfl rfl ?_
  refine Go.lloadN (pc2 := 48) d_k_recordRadius_47 rfl rfl ?_
  refine Go.putf (pc2 := 51) (cw_ok hw) d_k_recordRadius_48 rfl rfl D_C (by exact w_88 hw) (by exact Or.inl (w_89 hw)) (by exact w_1 hw) (q := 0) rfl (x := r) (x' := r) (fs_rNum) rfl rfl (os2 := [(b0, 4, (upd O0 0 7 r))]) rfl ?_
  refine Go.iconst (pc2 := 52) d_k_recordRadius_51 rfl (by decide) ?_
  refine Go.istoreN (pc2 := 53) (L2 := [some (vR b0), some (vJ r), none, some (vI 0), none, none]) d_k_recordRadius_52 rfl (Nat.le_of_ble_eq_true rfl) rfl ?_
  refine Go.iconst (pc2 := 54) d_k_recordRadius_53 rfl (by decide) ?_
  refine Go.istore (pc2 := 56) (L2 := [some (vR b0), some (vJ r), none, some (vI 0), some (vI 0), none]) d_k_recordRadius_54 rfl (Nat.le_of_ble_eq_true rfl) rfl ?_
  refine loop_go hf (Gs := fun s => G_k_recordRadius l Z n0 P 56 [some (vR b0), some (vJ r), none, some (vI s.1), some (vI s.2.1), none] [] [(b0, 4, s.2.2)] sz 0 0 (QM Z D n0 P none [(b0, 4, Oz0)] sz)) (Gr := (fun r => G_k_recordRadius l Z n0 P 118 [some (vR b0), none, none, some (vI r.1), none, none] [] [(b0, 4, r.2)] sz 0 0 (QM Z D n0 P none [(b0, 4, Oz0)] sz))) (fun s x hx K => tb_k_recordRadius_56 hw hx K) ?_
  clear hf
  intro r_1 hf
  refine Go.aloadN (pc2 := 119) d_k_recordRadius_118 rfl rfl ?_
  refine Go.iloadN (pc2 := 120) d_k_recordRadius_119 rfl rfl ?_
  refine Go.putf (pc2 := 123) (cw_ok hw) d_k_recordRadius_120 rfl rfl D_C (by exact w_90 hw) (by exact Or.inl (w_91 hw)) (by exact w_1 hw) (q := 0) rfl (x := r_1.1) (x' := r_1.1) (fs_bCount) rfl rfl (os2 := [(b0, 4, (upd r_1.2 0 9 r_1.1))]) rfl ?_
  cases hf
  exact Go.retv d_k_recordRadius_123 rfl (Nat.le_of_ble_eq_true rfl) (Nat.le_of_ble_eq_true rfl) (fun _ H => ⟨rfl, H⟩)
set_option maxRecDepth 65536 in
set_option maxHeartbeats 4000000 in
theorem tb_k_computeKind_47 {l : Launch} {Z : State} {a0 : Array Value} (hw : ∀ d ∈ tables_1, d.before a0 Z = true) {n0 : Nat} {P : Heap → Prop} {F : Nat} {b0 sz : Nat} {rr : Int} {c47_1 c47_3 c47_5 : Int} {O0 : Mo} {v6 : Int} {x : Int ⊕ (Unit ⊕ Int)} (hf : b_k_computeKind_47 F O0 c47_1 c47_3 c47_5 v6 = some x) (K : Sum.elim (fun s => G_k_computeKind l Z n0 P 47 [some (vR b0), some (vJ c47_1), none, some (vJ c47_3), none, some (vI c47_5), some (vI s), none, none, none, none] [] [(b0, 4, O0)] sz 0 0 (QM Z D n0 P (some (vI rr)) [(b0, 4, O0)] sz)) (Sum.elim (fun r => G_k_computeKind l Z n0 P 126 [some (vR b0), some (vJ c47_1), none, some (vJ c47_3), none, some (vI c47_5), none, none, none, none, none] [] [(b0, 4, O0)] sz 0 0 (QM Z D n0 P (some (vI rr)) [(b0, 4, O0)] sz)) (fun r => r = rr)) x) :
    G_k_computeKind l Z n0 P 47 [some (vR b0), some (vJ c47_1), none, some (vJ c47_3), none, some (vI c47_5), some (vI v6), none, none, none, none] [] [(b0, 4, O0)] sz 0 0 (QM Z D n0 P (some (vI rr)) [(b0, 4, O0)] sz) := by
  unfold b_k_computeKind_47 at hf
  refine Go.iload (pc2 := 49) d_k_computeKind_47 rfl rfl ?_
  refine Go.aloadN (pc2 := 50) d_k_computeKind_49 rfl rfl ?_
  refine Go.getf (pc2 := 53) d_k_computeKind_50 rfl rfl D_C (by exact w_24 hw) (q := 0) rfl (x := O0 0 2) (u := vI (O0 0 2)) (fs_n) rfl rfl ?_
  by_cases hc : v6 < O0 0 2
  · replace hf := ifp hc hf
    refine Go.icmpF (pc2 := 56) d_k_computeKind_53 (Int.not_le.mpr hc) rfl ?_
    refine Go.aloadN (pc2 := 57) d_k_computeKind_56 rfl rfl ?_
    refine Go.geta (pc2 := 60) d_k_computeKind_57 rfl rfl D_C (by exact w_10 hw) (q := 0) rfl (j := 0) rfl (Nat.le_of_ble_eq_true rfl) rfl ?_
    refine Go.iload (pc2 := 62) d_k_computeKind_60 rfl rfl ?_
    have hb := okb hf
    replace hf := ifp hb hf
    refine Go.iald (pc2 := 63) d_k_computeKind_62 rfl (q := 0) rfl (j := 0) rfl (Nat.le_of_ble_eq_true rfl) rfl hb (z := O0 1 c47_5.toNat) rfl ?_
    refine Go.i2l (pc2 := 64) d_k_computeKind_63 rfl ?_
    refine Go.aloadN (pc2 := 65) d_k_computeKind_64 rfl rfl ?_
    refine Go.geta (pc2 := 68) d_k_computeKind_65 rfl rfl D_C (by exact w_10 hw) (q := 0) rfl (j := 0) rfl (Nat.le_of_ble_eq_true rfl) rfl ?_
    refine Go.iload (pc2 := 70) d_k_computeKind_68 rfl rfl ?_
    have hb := okb hf
    replace hf := ifp hb hf
    refine Go.iald (pc2 := 71) d_k_computeKind_70 rfl (q := 0) rfl (j := 0) rfl (Nat.le_of_ble_eq_true rfl) rfl hb (z := O0 1 v6.toNat) rfl ?_
    refine Go.i2l (pc2 := 72) d_k_computeKind_71 rfl ?_
    refine Go.ladd (pc2 := 73) d_k_computeKind_72 rfl ?_
    refine Go.aloadN (pc2 := 74) d_k_computeKind_73 rfl rfl ?_
    refine Go.getf (pc2 := 77) d_k_computeKind_74 rfl rfl D_C (by exact w_74 hw) (q := 0) rfl (x := O0 0 6) (u := vJ (O0 0 6)) (fs_den) rfl rfl ?_
    refine Go.lmul (pc2 := 78) d_k_computeKind_77 rfl ?_
    refine Go.lstore (pc2 := 80) (L2 := [some (vR b0), some (vJ c47_1), none, some (vJ c47_3), none, some (vI c47_5), some (vI v6), some (vJ (w64 ((w64 ((O0 1 c47_5.toNat) + (O0 1 v6.toNat))) * (O0 0 6)))), none, none, none]) d_k_computeKind_78 rfl (Nat.le_of_ble_eq_true rfl) rfl ?_
    refine lt_in hf (G := fun v7 => G_k_computeKind l Z n0 P 80 [some (vR b0), some (vJ c47_1), none, some (vJ c47_3), none, some (vI c47_5), some (vI v6), some (vJ v7), none, none, none] [] [(b0, 4, O0)] sz 0 0 (QM Z D n0 P (some (vI rr)) [(b0, 4, O0)] sz)) ?_
    clear hf
    intro v7 hf
    refine Go.aloadN (pc2 := 81) d_k_computeKind_80 rfl rfl ?_
    refine Go.geta (pc2 := 84) d_k_computeKind_81 rfl rfl D_C (by exact w_12 hw) (q := 0) rfl (j := 1) rfl (Nat.le_of_ble_eq_true rfl) rfl ?_
    refine Go.iload (pc2 := 86) d_k_computeKind_84 rfl rfl ?_
    have hb := okb hf
    replace hf := ifp hb hf
    refine Go.iald (pc2 := 87) d_k_computeKind_86 rfl (q := 0) rfl (j := 1) rfl (Nat.le_of_ble_eq_true rfl) rfl hb (z := O0 2 c47_5.toNat) rfl ?_
    refine Go.i2l (pc2 := 88) d_k_computeKind_87 rfl ?_
    refine Go.aloadN (pc2 := 89) d_k_computeKind_88 rfl rfl ?_
    refine Go.geta (pc2 := 92) d_k_computeKind_89 rfl rfl D_C (by exact w_12 hw) (q := 0) rfl (j := 1) rfl (Nat.le_of_ble_eq_true rfl) rfl ?_
    refine Go.iload (pc2 := 94) d_k_computeKind_92 rfl rfl ?_
    have hb := okb hf
    replace hf := ifp hb hf
    refine Go.iald (pc2 := 95) d_k_computeKind_94 rfl (q := 0) rfl (j := 1) rfl (Nat.le_of_ble_eq_true rfl) rfl hb (z := O0 2 v6.toNat) rfl ?_
    refine Go.i2l (pc2 := 96) d_k_computeKind_95 rfl ?_
    refine Go.ladd (pc2 := 97) d_k_computeKind_96 rfl ?_
    refine Go.aloadN (pc2 := 98) d_k_computeKind_97 rfl rfl ?_
    refine Go.getf (pc2 := 101) d_k_computeKind_98 rfl rfl D_C (by exact w_74 hw) (q := 0) rfl (x := O0 0 6) (u := vJ (O0 0 6)) (fs_den) rfl rfl ?_
    refine Go.lmul (pc2 := 102) d_k_computeKind_101 rfl ?_
    refine Go.lstore (pc2 := 104) (L2 := [some (vR b0), some (vJ c47_1), none, some (vJ c47_3), none, some (vI c47_5), some (vI v6), some (vJ v7), none, some (vJ (w64 ((w64 ((O0 2 c47_5.toNat) + (O0 2 v6.toNat))) * (O0 0 6)))), none]) d_k_computeKind_102 rfl (Nat.le_of_ble_eq_true rfl) rfl ?_
    refine lt_in hf (G := fun v9 => G_k_computeKind l Z n0 P 104 [some (vR b0), some (vJ c47_1), none, some (vJ c47_3), none, some (vI c47_5), some (vI v6), some (vJ v7), none, some (vJ v9), none] [] [(b0, 4, O0)] sz 0 0 (QM Z D n0 P (some (vI rr)) [(b0, 4, O0)] sz)) ?_
    clear hf
    intro v9 hf
    refine Go.lload (pc2 := 106) d_k_computeKind_104 rfl rfl ?_
    refine Go.lloadN (pc2 := 107) d_k_computeKind_106 rfl rfl ?_
    by_cases hc : v7 = c47_1
    · replace hf := ifp hc hf
      refine Go.lcmpF (pc3 := 108) (pc2 := 111) d_k_computeKind_107 d_k_computeKind_108 rfl (fun q => q hc) rfl ?_
      refine Go.lload (pc2 := 113) d_k_computeKind_111 rfl rfl ?_
      refine Go.lloadN (pc2 := 114) d_k_computeKind_113 rfl rfl ?_
      by_cases hc : v9 = c47_3
      · replace hf := ifp hc hf
        refine Go.lcmpF (pc3 := 115) (pc2 := 118) d_k_computeKind_114 d_k_computeKind_115 rfl (fun q => q hc) rfl ?_
        refine Go.iconst (pc2 := 119) d_k_computeKind_118 rfl (by decide) ?_
        cases hf
        replace K : 2 = rr := K
        cases K
        exact Go.reti d_k_computeKind_119 rfl (Nat.le_of_ble_eq_true rfl) (Nat.le_of_ble_eq_true rfl) (fun _ H => ⟨rfl, H⟩)
      · replace hf := ifn hc hf
        refine Go.lcmpT (pc3 := 115) (pc2 := 120) d_k_computeKind_114 d_k_computeKind_115 rfl hc (by decide) (by decide) ?_
        refine Go.iinc (pc2 := 123) (L2 := [some (vR b0), some (vJ c47_1), none, some (vJ c47_3), none, some (vI c47_5), some (vI (w32 (v6 + 1))), some (vJ v7), none, some (vJ v9), none]) d_k_computeKind_120 rfl rfl rfl ?_
        refine Go.goto (pc2 := 47) d_k_computeKind_123 (by decide) (by decide) ?_
        cases hf
        exact Go.mask [true, true, true, true, true, true, true, false, true, false, true] K
    · replace hf := ifn hc hf
      refine Go.lcmpT (pc3 := 108) (pc2 := 120) d_k_computeKind_107 d_k_computeKind_108 rfl hc (by decide) (by decide) ?_
      refine Go.iinc (pc2 := 123) (L2 := [some (vR b0), some (vJ c47_1), none, some (vJ c47_3), none, some (vI c47_5), some (vI (w32 (v6 + 1))), some (vJ v7), none, some (vJ v9), none]) d_k_computeKind_120 rfl rfl rfl ?_
      refine Go.goto (pc2 := 47) d_k_computeKind_123 (by decide) (by decide) ?_
      cases hf
      exact Go.mask [true, true, true, true, true, true, true, false, true, false, true] K
  · replace hf := ifn hc hf
    refine Go.icmpT (pc2 := 126) d_k_computeKind_53 (Int.not_lt.mp hc) (by decide) (by decide) ?_
    cases hf
    exact Go.mask [true, true, true, true, true, true, false, true, true, true, true] K
set_option maxRecDepth 65536 in
set_option maxHeartbeats 4000000 in
theorem tb_k_computeKind_32 {l : Launch} {Z : State} {a0 : Array Value} (hw : ∀ d ∈ tables_1, d.before a0 Z = true) {n0 : Nat} {P : Heap → Prop} {F : Nat} {b0 sz : Nat} {rr : Int} {c32_1 c32_3 : Int} {O0 : Mo} {v5 : Int} {x : Int ⊕ (Unit ⊕ Int)} (hf : b_k_computeKind_32 F O0 c32_1 c32_3 v5 = some x) (K : Sum.elim (fun s => G_k_computeKind l Z n0 P 32 [some (vR b0), some (vJ c32_1), none, some (vJ c32_3), none, some (vI s), none, none, none, none, none] [] [(b0, 4, O0)] sz 0 0 (QM Z D n0 P (some (vI rr)) [(b0, 4, O0)] sz)) (Sum.elim (fun r => G_k_computeKind l Z n0 P 118 [none, none, none, none, none, none, none, none, none, none, none] [] [(b0, 4, O0)] sz 0 0 (QM Z D n0 P (some (vI rr)) [(b0, 4, O0)] sz)) (fun r => r = rr)) x) :
    G_k_computeKind l Z n0 P 32 [some (vR b0), some (vJ c32_1), none, some (vJ c32_3), none, some (vI v5), none, none, none, none, none] [] [(b0, 4, O0)] sz 0 0 (QM Z D n0 P (some (vI rr)) [(b0, 4, O0)] sz) := by
  unfold b_k_computeKind_32 at hf
  refine Go.iload (pc2 := 34) d_k_computeKind_32 rfl rfl ?_
  refine Go.aloadN (pc2 := 35) d_k_computeKind_34 rfl rfl ?_
  refine Go.getf (pc2 := 38) d_k_computeKind_35 rfl rfl D_C (by exact w_24 hw) (q := 0) rfl (x := O0 0 2) (u := vI (O0 0 2)) (fs_n) rfl rfl ?_
  by_cases hc : v5 < O0 0 2
  · replace hf := ifp hc hf
    refine Go.icmpF (pc2 := 41) d_k_computeKind_38 (Int.not_le.mpr hc) rfl ?_
    refine Go.iload (pc2 := 43) d_k_computeKind_41 rfl rfl ?_
    refine Go.iconst (pc2 := 44) d_k_computeKind_43 rfl (by decide) ?_
    refine Go.iadd (pc2 := 45) d_k_computeKind_44 rfl ?_
    refine Go.istore (pc2 := 47) (L2 := [some (vR b0), some (vJ c32_1), none, some (vJ c32_3), none, some (vI v5), some (vI (w32 (v5 + 1))), none, none, none, none]) d_k_computeKind_45 rfl (Nat.le_of_ble_eq_true rfl) rfl ?_
    refine loop_go hf (Gs := fun s => G_k_computeKind l Z n0 P 47 [some (vR b0), some (vJ c32_1), none, some (vJ c32_3), none, some (vI v5), some (vI s), none, none, none, none] [] [(b0, 4, O0)] sz 0 0 (QM Z D n0 P (some (vI rr)) [(b0, 4, O0)] sz)) (Gr := (Sum.elim (fun r => G_k_computeKind l Z n0 P 126 [some (vR b0), some (vJ c32_1), none, some (vJ c32_3), none, some (vI v5), none, none, none, none, none] [] [(b0, 4, O0)] sz 0 0 (QM Z D n0 P (some (vI rr)) [(b0, 4, O0)] sz)) (fun r => r = rr))) (fun s x hx K => tb_k_computeKind_47 hw hx K) ?_
    clear hf
    intro r_1 hf
    rcases r_1 with r_2 | r_3
    · dsimp only [Sum.elim_inl] at hf ⊢
      refine Go.iinc (pc2 := 129) (L2 := [some (vR b0), some (vJ c32_1), none, some (vJ c32_3), none, some (vI (w32 (v5 + 1))), none, none, none, none, none]) d_k_computeKind_126 rfl rfl rfl ?_
      refine Go.goto (pc2 := 32) d_k_computeKind_129 (by decide) (by decide) ?_
      cases hf
      exact K
    · dsimp only [Sum.elim_inr] at hf ⊢
      cases hf
      exact K
  · replace hf := ifn hc hf
    refine Go.icmpT (pc2 := 132) d_k_computeKind_38 (Int.not_lt.mp hc) (by decide) (by decide) ?_
    refine Go.iconst (pc2 := 133) d_k_computeKind_132 rfl (by decide) ?_
    cases hf
    replace K : 3 = rr := K
    cases K
    exact Go.reti d_k_computeKind_133 rfl (Nat.le_of_ble_eq_true rfl) (Nat.le_of_ble_eq_true rfl) (fun _ H => ⟨rfl, H⟩)
set_option maxRecDepth 65536 in
set_option maxHeartbeats 4000000 in
theorem th_k_computeKind {l : Launch} {Z : State} {a0 : Array Value} (hw : ∀ d ∈ tables_1, d.before a0 Z = true) {n0 : Nat} {P : Heap → Prop} {F : Nat} {b0 sz : Nat} {rr : Int} {O0 : Mo} (hf : k_computeKind F O0 = some rr) :
    Meth l Z D n0 P (⟨"MinCircle", "computeKind", "()I"⟩ : MethodName) prog_1_method_35_code 11 (some .int) R_k_computeKind [vR b0] [(b0, 4, O0)] sz (QM Z D n0 P (some (vI rr)) [(b0, 4, O0)] sz) := by
  refine Meth.of (plainFor_of_name pn_cls) (Nat.le_of_ble_eq_true rfl) ?_
  show G_k_computeKind l Z n0 P 0 [some (vR b0), none, none, none, none, none, none, none, none, none, none] [] [(b0, 4, O0)] sz 0 0 (QM Z D n0 P (some (vI rr)) [(b0, 4, O0)] sz)
  unfold k_computeKind at hf
  refine Go.aloadN (pc2 := 1) d_k_computeKind_0 rfl rfl ?_
  refine Go.getf (pc2 := 4) d_k_computeKind_1 rfl rfl D_C (by exact w_88 hw) (q := 0) rfl (x := O0 0 7) (u := vJ (O0 0 7)) (fs_rNum) rfl rfl ?_
  refine Go.lconst (pc2 := 5) (i := 0) d_k_computeKind_4 rfl (by decide) ?_
  by_cases hc : O0 0 7 = 0
  · replace hf := ifp hc hf
    refine Go.lcmpF (pc3 := 6) (pc2 := 9) d_k_computeKind_5 d_k_computeKind_6 rfl (fun q => q hc) rfl ?_
    refine Go.iconst (pc2 := 10) d_k_computeKind_9 rfl (by decide) ?_
    cases hf
    exact Go.reti d_k_computeKind_10 rfl (Nat.le_of_ble_eq_true rfl) (Nat.le_of_ble_eq_true rfl) (fun _ H => ⟨rfl, H⟩)
  · replace hf := ifn hc hf
    refine Go.lcmpT (pc3 := 6) (pc2 := 11) d_k_computeKind_5 d_k_computeKind_6 rfl hc (by decide) (by decide) ?_
    refine Go.ldc2 (pc2 := 14) (i := 2) d_k_computeKind_11 rfl rfl (by exact w_133 hw) (by decide) ?_
    refine Go.aloadN (pc2 := 15) d_k_computeKind_14 rfl rfl ?_
    refine Go.getf (pc2 := 18) d_k_computeKind_15 rfl rfl D_C (by exact w_76 hw) (q := 0) rfl (x := O0 0 4) (u := vJ (O0 0 4)) (fs_cxNum) rfl rfl ?_
    refine Go.lmul (pc2 := 19) d_k_computeKind_18 rfl ?_
    refine Go.lstoreN (pc2 := 20) (L2 := [some (vR b0), some (vJ (w64 (2 * (O0 0 4)))), none, none, none, none, none, none, none, none, none]) d_k_computeKind_19 rfl (Nat.le_of_ble_eq_true rfl) rfl ?_
    refine Go.ldc2 (pc2 := 23) (i := 2) d_k_computeKind_20 rfl rfl (by exact w_133 hw) (by decide) ?_
    refine Go.aloadN (pc2 := 24) d_k_computeKind_23 rfl rfl ?_
    refine Go.getf (pc2 := 27) d_k_computeKind_24 rfl rfl D_C (by exact w_78 hw) (q := 0) rfl (x := O0 0 5) (u := vJ (O0 0 5)) (fs_cyNum) rfl rfl ?_
    refine Go.lmul (pc2 := 28) d_k_computeKind_27 rfl ?_
    refine Go.lstoreN (pc2 := 29) (L2 := [some (vR b0), some (vJ (w64 (2 * (O0 0 4)))), none, some (vJ (w64 (2 * (O0 0 5)))), none, none, none, none, none, none, none]) d_k_computeKind_28 rfl (Nat.le_of_ble_eq_true rfl) rfl ?_
    refine Go.iconst (pc2 := 30) d_k_computeKind_29 rfl (by decide) ?_
    refine Go.istore (pc2 := 32) (L2 := [some (vR b0), some (vJ (w64 (2 * (O0 0 4)))), none, some (vJ (w64 (2 * (O0 0 5)))), none, some (vI 0), none, none, none, none, none]) d_k_computeKind_30 rfl (Nat.le_of_ble_eq_true rfl) rfl ?_
    refine loop_go hf (Gs := fun s => G_k_computeKind l Z n0 P 32 [some (vR b0), some (vJ (w64 (2 * (O0 0 4)))), none, some (vJ (w64 (2 * (O0 0 5)))), none, some (vI s), none, none, none, none, none] [] [(b0, 4, O0)] sz 0 0 (QM Z D n0 P (some (vI rr)) [(b0, 4, O0)] sz)) (Gr := (Sum.elim (fun r => G_k_computeKind l Z n0 P 118 [none, none, none, none, none, none, none, none, none, none, none] [] [(b0, 4, O0)] sz 0 0 (QM Z D n0 P (some (vI rr)) [(b0, 4, O0)] sz)) (fun r => r = rr))) (fun s x hx K => tb_k_computeKind_32 hw hx K) ?_
    clear hf
    intro r hf
    rcases r with r_1 | r_2
    · dsimp only [Sum.elim_inl] at hf ⊢
      refine Go.iconst (pc2 := 119) d_k_computeKind_118 rfl (by decide) ?_
      cases hf
      exact Go.reti d_k_computeKind_119 rfl (Nat.le_of_ble_eq_true rfl) (Nat.le_of_ble_eq_true rfl) (fun _ H => ⟨rfl, H⟩)
    · dsimp only [Sum.elim_inr] at hf ⊢
      cases hf
      rfl
set_option maxRecDepth 65536 in
set_option maxHeartbeats 4000000 in
theorem tj_k_finishDisk_55 {l : Launch} {Z : State} {a0 : Array Value} (hw : ∀ d ∈ tables_1, d.before a0 Z = true) {n0 : Nat} {P : Heap → Prop} {F : Nat} {b0 sz : Nat} {Oz0 : Mo} {O0 : Mo} {v3 : Int} (hf : j_k_finishDisk_55 F O0 v3 = some Oz0) :
    G_k_finishDisk l Z n0 P 55 [some (vR b0), none, none, some (vJ v3), none] [] [(b0, 4, O0)] sz 0 0 (QM Z D n0 P none [(b0, 4, Oz0)] sz) := by
  unfold j_k_finishDisk_55 at hf
  refine Go.aloadN (pc2 := 56) d_k_finishDisk_55 rfl rfl ?_
  refine Go.aloadN (pc2 := 57) d_k_finishDisk_56 rfl rfl ?_
  refine Go.getf (pc2 := 60) d_k_finishDisk_57 rfl rfl D_C (by exact w_56 hw) (q := 0) rfl (x := O0 0 10) (u := vJ (O0 0 10)) (fs_tnx) rfl rfl ?_
  refine Go.lloadN (pc2 := 61) d_k_finishDisk_60 rfl rfl ?_
  have hb := okn hf
  replace hf := ifn hb hf
  refine Go.ldiv (pc2 := 62) d_k_finishDisk_61 rfl hb ?_
  refine Go.putf (pc2 := 65) (cw_ok hw) d_k_finishDisk_62 rfl rfl D_C (by exact w_76 hw) (by exact Or.inl (w_77 hw)) (by exact w_1 hw) (q := 0) rfl (x := w64 (Int.tdiv (O0 0 10) v3)) (x' := w64 (Int.tdiv (O0 0 10) v3)) (fs_cxNum) rfl rfl (os2 := [(b0, 4, (upd O0 0 4 (w64 (Int.tdiv (O0 0 10) v3))))]) rfl ?_
  refine Go.aloadN (pc2 := 66) d_k_finishDisk_65 rfl rfl ?_
  refine Go.aloadN (pc2 := 67) d_k_finishDisk_66 rfl rfl ?_
  refine Go.getf (pc2 := 70) d_k_finishDisk_67 rfl rfl D_C (by exact w_58 hw) (q := 0) rfl (x := O0 0 11) (u := vJ (O0 0 11)) (fs_tny) rfl rfl ?_
  refine Go.lloadN (pc2 := 71) d_k_finishDisk_70 rfl rfl ?_
  have hb := okn hf
  replace hf := ifn hb hf
  refine Go.ldiv (pc2 := 72) d_k_finishDisk_71 rfl hb ?_
  refine Go.putf (pc2 := 75) (cw_ok hw) d_k_finishDisk_72 rfl rfl D_C (by exact w_78 hw) (by exact Or.inl (w_79 hw)) (by exact w_1 hw) (q := 0) rfl (x := w64 (Int.tdiv (O0 0 11) v3)) (x' := w64 (Int.tdiv (O0 0 11) v3)) (fs_cyNum) rfl rfl (os2 := [(b0, 4, (upd (upd O0 0 4 (w64 (Int.tdiv (O0 0 10) v3))) 0 5 (w64 (Int.tdiv (O0 0 11) v3))))]) rfl ?_
  refine Go.aloadN (pc2 := 76) d_k_finishDisk_75 rfl rfl ?_
  refine bind_in hf ?_
  clear hf
  intro r h_r hf
  refine Go.callp (pc2 := 79) (as := []) (S := []) (w := none) (os2 := [(b0, 4, r)]) (sz2 := sz) (S2 := []) (rm := R_k_recordRadius) d_k_finishDisk_76 rfl rfl (by exact w_80 hw) (by exact w_82 hw) (by exact w_81 hw) (by exact w_83 hw) rfl (by exact w_2 hw) (by exact w_1 hw) (q := 0) rfl (by decide) pd_k_recordRadius (by decide) (Nat.le_of_ble_eq_true rfl) (by decide) (by decide) (nc := 0) (ns := 0) rfl rfl rfl (cu2 := 0) rfl (su2 := 0) rfl rfl (Pays.one (q := 0) rfl rfl (fun P2 hP2 => th_k_recordRadius hw h_r)) rfl ?_
  refine Go.aloadN (pc2 := 80) d_k_finishDisk_79 rfl rfl ?_
  refine Go.aloadN (pc2 := 81) d_k_finishDisk_80 rfl rfl ?_
  refine bind_in hf ?_
  clear hf
  intro r_1 h_r_1 hf
  refine Go.callp (pc2 := 84) (as := []) (S := [vR b0]) (w := (some (vI r_1))) (os2 := [(b0, 4, r)]) (sz2 := sz) (S2 := [vI r_1, vR b0]) (rm := R_k_computeKind) d_k_finishDisk_81 rfl rfl (by exact w_92 hw) (by exact w_94 hw) (by exact w_93 hw) (by exact w_95 hw) rfl (by exact w_2 hw) (by exact w_1 hw) (q := 0) rfl (by decide) pd_k_computeKind (by decide) (Nat.le_of_ble_eq_true rfl) (by decide) (by decide) (nc := 0) (ns := 0) rfl rfl rfl (cu2 := 0) rfl (su2 := 0) rfl rfl (Pays.one (q := 0) rfl rfl (fun P2 hP2 => th_k_computeKind hw h_r_1)) rfl ?_
  refine Go.putf (pc2 := 87) (cw_ok hw) d_k_finishDisk_84 rfl rfl D_C (by exact w_96 hw) (by exact Or.inl (w_97 hw)) (by exact w_1 hw) (q := 0) rfl (x := r_1) (x' := r_1) (fs_kindV) rfl rfl (os2 := [(b0, 4, (upd r 0 8 r_1))]) rfl ?_
  cases hf
  exact Go.retv d_k_finishDisk_87 rfl (Nat.le_of_ble_eq_true rfl) (Nat.le_of_ble_eq_true rfl) (fun _ H => ⟨rfl, H⟩)
set_option maxRecDepth 65536 in
set_option maxHeartbeats 4000000 in
theorem tj_k_finishDisk_31 {l : Launch} {Z : State} {a0 : Array Value} (hw : ∀ d ∈ tables_1, d.before a0 Z = true) {n0 : Nat} {P : Heap → Prop} {F : Nat} {b0 sz : Nat} {Oz0 : Mo} {O0 : Mo} {v3 : Int} (hf : j_k_finishDisk_31 F O0 v3 = some Oz0) :
    G_k_finishDisk l Z n0 P 31 [some (vR b0), none, none, some (vJ v3), none] [] [(b0, 4, O0)] sz 0 0 (QM Z D n0 P none [(b0, 4, Oz0)] sz) := by
  unfold j_k_finishDisk_31 at hf
  refine Go.aloadN (pc2 := 32) d_k_finishDisk_31 rfl rfl ?_
  refine Go.aloadN (pc2 := 33) d_k_finishDisk_32 rfl rfl ?_
  refine Go.getf (pc2 := 36) d_k_finishDisk_33 rfl rfl D_C (by exact w_28 hw) (q := 0) rfl (x := O0 0 12) (u := vJ (O0 0 12)) (fs_td) rfl rfl ?_
  refine Go.lloadN (pc2 := 37) d_k_finishDisk_36 rfl rfl ?_
  have hb := okn hf
  replace hf := ifn hb hf
  refine Go.ldiv (pc2 := 38) d_k_finishDisk_37 rfl hb ?_
  refine Go.putf (pc2 := 41) (cw_ok hw) d_k_finishDisk_38 rfl rfl D_C (by exact w_74 hw) (by exact Or.inl (w_75 hw)) (by exact w_1 hw) (q := 0) rfl (x := w64 (Int.tdiv (O0 0 12) v3)) (x' := w64 (Int.tdiv (O0 0 12) v3)) (fs_den) rfl rfl (os2 := [(b0, 4, (upd O0 0 6 (w64 (Int.tdiv (O0 0 12) v3))))]) rfl ?_
  refine Go.aloadN (pc2 := 42) d_k_finishDisk_41 rfl rfl ?_
  refine Go.getf (pc2 := 45) d_k_finishDisk_42 rfl rfl D_C (by exact w_74 hw) (q := 0) rfl (x := w64 (Int.tdiv (O0 0 12) v3)) (u := vJ (w64 (Int.tdiv (O0 0 12) v3))) (fs_den) rfl rfl ?_
  refine Go.lconst (pc2 := 46) (i := 0) d_k_finishDisk_45 rfl (by decide) ?_
  by_cases hc : 0 < w64 (Int.tdiv (O0 0 12) v3)
  · replace hf := ifp hc hf
    refine Go.lcmpT (pc3 := 47) (pc2 := 55) d_k_finishDisk_46 d_k_finishDisk_47 rfl hc (by decide) (by decide) ?_
    exact tj_k_finishDisk_55 hw hf
  · replace hf := ifn hc hf
    refine Go.lcmpF (pc3 := 47) (pc2 := 50) d_k_finishDisk_46 d_k_finishDisk_47 rfl hc rfl ?_
    refine Go.aloadN (pc2 := 51) d_k_finishDisk_50 rfl rfl ?_
    refine Go.lconst (pc2 := 52) (i := 1) d_k_finishDisk_51 rfl (by decide) ?_
    refine Go.putf (pc2 := 55) (cw_ok hw) d_k_finishDisk_52 rfl rfl D_C (by exact w_74 hw) (by exact Or.inl (w_75 hw)) (by exact w_1 hw) (q := 0) rfl (x := 1) (x' := 1) (fs_den) rfl rfl (os2 := [(b0, 4, (upd (upd O0 0 6 (w64 (Int.tdiv (O0 0 12) v3))) 0 6 1))]) rfl ?_
    exact tj_k_finishDisk_55 hw hf
set_option maxRecDepth 65536 in
set_option maxHeartbeats 4000000 in
theorem th_k_finishDisk {l : Launch} {Z : State} {a0 : Array Value} (hw : ∀ d ∈ tables_1, d.before a0 Z = true) {n0 : Nat} {P : Heap → Prop} {F : Nat} {b0 sz : Nat} {Oz0 : Mo} {O0 : Mo} (hf : k_finishDisk F O0 = some Oz0) :
    Meth l Z D n0 P (⟨"MinCircle", "finishDisk", "()V"⟩ : MethodName) prog_1_method_32_code 5 none R_k_finishDisk [vR b0] [(b0, 4, O0)] sz (QM Z D n0 P none [(b0, 4, Oz0)] sz) := by
  refine Meth.of (plainFor_of_name pn_cls) (Nat.le_of_ble_eq_true rfl) ?_
  show G_k_finishDisk l Z n0 P 0 [some (vR b0), none, none, none, none] [] [(b0, 4, O0)] sz 0 0 (QM Z D n0 P none [(b0, 4, Oz0)] sz)
  unfold k_finishDisk at hf
  refine Go.aloadN (pc2 := 1) d_k_finishDisk_0 rfl rfl ?_
  refine Go.aloadN (pc2 := 2) d_k_finishDisk_1 rfl rfl ?_
  refine Go.getf (pc2 := 5) d_k_finishDisk_2 rfl rfl D_C (by exact w_56 hw) (q := 0) rfl (x := O0 0 10) (u := vJ (O0 0 10)) (fs_tnx) rfl rfl ?_
  refine Go.aloadN (pc2 := 6) d_k_finishDisk_5 rfl rfl ?_
  refine Go.getf (pc2 := 9) d_k_finishDisk_6 rfl rfl D_C (by exact w_58 hw) (q := 0) rfl (x := O0 0 11) (u := vJ (O0 0 11)) (fs_tny) rfl rfl ?_
  refine bind_in hf ?_
  clear hf
  intro r h_r hf
  refine Go.callp (pc2 := 12) (as := [vJ (O0 0 10), vJ (O0 0 11)]) (S := []) (w := (some (vJ r))) (os2 := [(b0, 4, O0)]) (sz2 := sz) (S2 := [vJ r]) (rm := R_k_gcd) d_k_finishDisk_9 rfl rfl (by exact w_66 hw) (by exact w_68 hw) (by exact w_67 hw) (by exact w_69 hw) rfl (by exact w_2 hw) (by exact w_1 hw) (q := 0) rfl (by decide) pd_k_gcd (by decide) (Nat.le_of_ble_eq_true rfl) (by decide) (by decide) (nc := 0) (ns := 0) rfl rfl rfl (cu2 := 0) rfl (su2 := 0) rfl rfl (Pays.one (q := 0) rfl rfl (fun P2 hP2 => th_k_gcd hw h_r)) rfl ?_
  refine Go.lstoreN (pc2 := 13) (L2 := [some (vR b0), some (vJ r), none, none, none]) d_k_finishDisk_12 rfl (Nat.le_of_ble_eq_true rfl) rfl ?_
  refine Go.aloadN (pc2 := 14) d_k_finishDisk_13 rfl rfl ?_
  refine Go.lloadN (pc2 := 15) d_k_finishDisk_14 rfl rfl ?_
  refine Go.aloadN (pc2 := 16) d_k_finishDisk_15 rfl rfl ?_
  refine Go.getf (pc2 := 19) d_k_finishDisk_16 rfl rfl D_C (by exact w_28 hw) (q := 0) rfl (x := O0 0 12) (u := vJ (O0 0 12)) (fs_td) rfl rfl ?_
  refine bind_in hf ?_
  clear hf
  intro r_1 h_r_1 hf
  refine Go.callp (pc2 := 22) (as := [vJ r, vJ (O0 0 12)]) (S := []) (w := (some (vJ r_1))) (os2 := [(b0, 4, O0)]) (sz2 := sz) (S2 := [vJ r_1]) (rm := R_k_gcd) d_k_finishDisk_19 rfl rfl (by exact w_66 hw) (by exact w_68 hw) (by exact w_67 hw) (by exact w_69 hw) rfl (by exact w_2 hw) (by exact w_1 hw) (q := 0) rfl (by decide) pd_k_gcd (by decide) (Nat.le_of_ble_eq_true rfl) (by decide) (by decide) (nc := 0) (ns := 0) rfl rfl rfl (cu2 := 0) rfl (su2 := 0) rfl rfl (Pays.one (q := 0) rfl rfl (fun P2 hP2 => th_k_gcd hw h_r_1)) rfl ?_
  refine Go.lstoreN (pc2 := 23) (L2 := [some (vR b0), some (vJ r), none, some (vJ r_1), none]) d_k_finishDisk_22 rfl (Nat.le_of_ble_eq_true rfl) rfl ?_
  refine Go.lloadN (pc2 := 24) d_k_finishDisk_23 rfl rfl ?_
  refine Go.lconst (pc2 := 25) (i := 0) d_k_finishDisk_24 rfl (by decide) ?_
  by_cases hc : 0 < r_1
  · replace hf := ifp hc hf
    refine Go.lcmpT (pc3 := 26) (pc2 := 31) d_k_finishDisk_25 d_k_finishDisk_26 rfl hc (by decide) (by decide) ?_
    exact Go.mask [true, false, true, true, true] (tj_k_finishDisk_31 hw hf)
  · replace hf := ifn hc hf
    refine Go.lcmpF (pc3 := 26) (pc2 := 29) d_k_finishDisk_25 d_k_finishDisk_26 rfl hc rfl ?_
    refine Go.lconst (pc2 := 30) (i := 1) d_k_finishDisk_29 rfl (by decide) ?_
    refine Go.lstoreN (pc2 := 31) (L2 := [some (vR b0), some (vJ r), none, some (vJ 1), none]) d_k_finishDisk_30 rfl (Nat.le_of_ble_eq_true rfl) rfl ?_
    exact Go.mask [true, false, true, true, true] (tj_k_finishDisk_31 hw hf)
set_option maxRecDepth 65536 in
set_option maxHeartbeats 4000000 in
theorem th_k_solve {l : Launch} {Z : State} {a0 : Array Value} (hw : ∀ d ∈ tables_1, d.before a0 Z = true) {n0 : Nat} {P : Heap → Prop} {F : Nat} {b0 sz : Nat} {rr : Int} {Oz0 : Mo} {O0 : Mo} (hf : k_solve F O0 = some ((rr, Oz0))) :
    Meth l Z D n0 P (⟨"MinCircle", "solve", "()I"⟩ : MethodName) prog_1_method_5_code 1 (some .int) R_k_solve [vR b0] [(b0, 4, O0)] sz (QM Z D n0 P (some (vI rr)) [(b0, 4, Oz0)] sz) := by
  refine Meth.of (plainFor_of_name pn_cls) (Nat.le_of_ble_eq_true rfl) ?_
  show G_k_solve l Z n0 P 0 [some (vR b0)] [] [(b0, 4, O0)] sz 0 0 (QM Z D n0 P (some (vI rr)) [(b0, 4, Oz0)] sz)
  unfold k_solve at hf
  refine Go.aloadN (pc2 := 1) d_k_solve_0 rfl rfl ?_
  refine Go.getf (pc2 := 4) d_k_solve_1 rfl rfl D_C (by exact w_24 hw) (q := 0) rfl (x := O0 0 2) (u := vI (O0 0 2)) (fs_n) rfl rfl ?_
  by_cases hc : 0 < O0 0 2
  · replace hf := ifp hc hf
    refine Go.ifT (pc2 := 9) d_k_solve_4 hc (by decide) (by decide) ?_
    refine Go.aloadN (pc2 := 10) d_k_solve_9 rfl rfl ?_
    refine Go.getf (pc2 := 13) d_k_solve_10 rfl rfl D_C (by exact w_26 hw) (q := 0) rfl (x := O0 0 3) (u := vI (O0 0 3)) (fs_solved) rfl rfl ?_
    by_cases hc : O0 0 3 = 0
    · replace hf := ifp hc hf
      refine Go.ifT (pc2 := 21) d_k_solve_13 hc (by decide) (by decide) ?_
      refine Go.aloadN (pc2 := 22) d_k_solve_21 rfl rfl ?_
      refine bind_in hf ?_
      clear hf
      intro r h_r hf
      refine Go.callp (pc2 := 25) (as := []) (S := []) (w := none) (os2 := [(b0, 4, r)]) (sz2 := sz) (S2 := []) (rm := R_k_shuffle) d_k_solve_22 rfl rfl (by exact w_44 hw) (by exact w_46 hw) (by exact w_45 hw) (by exact w_47 hw) rfl (by exact w_2 hw) (by exact w_1 hw) (q := 0) rfl (by decide) pd_k_shuffle (by decide) (Nat.le_of_ble_eq_true rfl) (by decide) (by decide) (nc := 0) (ns := 0) rfl rfl rfl (cu2 := 0) rfl (su2 := 0) rfl rfl (Pays.one (q := 0) rfl rfl (fun P2 hP2 => th_k_shuffle hw h_r)) rfl ?_
      refine Go.aloadN (pc2 := 26) d_k_solve_25 rfl rfl ?_
      refine bind_in hf ?_
      clear hf
      intro r_1 h_r_1 hf
      refine Go.callp (pc2 := 29) (as := []) (S := []) (w := none) (os2 := [(b0, 4, r_1)]) (sz2 := sz) (S2 := []) (rm := R_k_runIncremental) d_k_solve_26 rfl rfl (by exact w_48 hw) (by exact w_50 hw) (by exact w_49 hw) (by exact w_51 hw) rfl (by exact w_2 hw) (by exact w_1 hw) (q := 0) rfl (by decide) pd_k_runIncremental (by decide) (Nat.le_of_ble_eq_true rfl) (by decide) (by decide) (nc := 0) (ns := 0) rfl rfl rfl (cu2 := 0) rfl (su2 := 0) rfl rfl (Pays.one (q := 0) rfl rfl (fun P2 hP2 => th_k_runIncremental hw h_r_1)) rfl ?_
      refine Go.aloadN (pc2 := 30) d_k_solve_29 rfl rfl ?_
      refine bind_in hf ?_
      clear hf
      intro r_2 h_r_2 hf
      refine Go.callp (pc2 := 33) (as := []) (S := []) (w := none) (os2 := [(b0, 4, r_2)]) (sz2 := sz) (S2 := []) (rm := R_k_finishDisk) d_k_solve_30 rfl rfl (by exact w_62 hw) (by exact w_64 hw) (by exact w_63 hw) (by exact w_65 hw) rfl (by exact w_2 hw) (by exact w_1 hw) (q := 0) rfl (by decide) pd_k_finishDisk (by decide) (Nat.le_of_ble_eq_true rfl) (by decide) (by decide) (nc := 0) (ns := 0) rfl rfl rfl (cu2 := 0) rfl (su2 := 0) rfl rfl (Pays.one (q := 0) rfl rfl (fun P2 hP2 => th_k_finishDisk hw h_r_2)) rfl ?_
      refine Go.aloadN (pc2 := 34) d_k_solve_33 rfl rfl ?_
      refine Go.iconst (pc2 := 35) d_k_solve_34 rfl (by decide) ?_
      refine Go.putf (pc2 := 38) (cw_ok hw) d_k_solve_35 rfl rfl D_C (by exact w_26 hw) (by exact Or.inl (w_27 hw)) (by exact w_1 hw) (q := 0) rfl (x := 1) (x' := 1) (fs_solved) rfl rfl (os2 := [(b0, 4, (upd r_2 0 3 1))]) rfl ?_
      refine Go.aloadN (pc2 := 39) d_k_solve_38 rfl rfl ?_
      refine Go.getf (pc2 := 42) d_k_solve_39 rfl rfl D_C (by exact w_90 hw) (q := 0) rfl (x := r_2 0 9) (u := vI (r_2 0 9)) (fs_bCount) rfl rfl ?_
      cases hf
      exact Go.reti d_k_solve_42 rfl (Nat.le_of_ble_eq_true rfl) (Nat.le_of_ble_eq_true rfl) (fun _ H => ⟨rfl, H⟩)
    · replace hf := ifn hc hf
      refine Go.ifF (pc2 := 16) d_k_solve_13 hc rfl ?_
      refine Go.aloadN (pc2 := 17) d_k_solve_16 rfl rfl ?_
      refine Go.getf (pc2 := 20) d_k_solve_17 rfl rfl D_C (by exact w_90 hw) (q := 0) rfl (x := O0 0 9) (u := vI (O0 0 9)) (fs_bCount) rfl rfl ?_
      cases hf
      exact Go.reti d_k_solve_20 rfl (Nat.le_of_ble_eq_true rfl) (Nat.le_of_ble_eq_true rfl) (fun _ H => ⟨rfl, H⟩)
  · replace hf := ifn hc hf
    refine Go.ifF (pc2 := 7) d_k_solve_4 hc rfl ?_
    refine Go.iconst (pc2 := 8) d_k_solve_7 rfl (by decide) ?_
    cases hf
    exact Go.reti d_k_solve_8 rfl (Nat.le_of_ble_eq_true rfl) (Nat.le_of_ble_eq_true rfl) (fun _ H => ⟨rfl, H⟩)
set_option maxRecDepth 65536 in
set_option maxHeartbeats 4000000 in
theorem th_k_isSolved {l : Launch} {Z : State} {a0 : Array Value} (hw : ∀ d ∈ tables_1, d.before a0 Z = true) {n0 : Nat} {P : Heap → Prop} {b0 sz : Nat} {rr : Int} {O0 : Mo} (hf : k_isSolved O0 = rr) :
    Meth l Z D n0 P (⟨"MinCircle", "isSolved", "()Z"⟩ : MethodName) prog_1_method_9_code 1 (some .boolean) R_k_isSolved [vR b0] [(b0, 4, O0)] sz (QM Z D n0 P (some (vI rr)) [(b0, 4, O0)] sz) := by
  refine Meth.of (plainFor_of_name pn_cls) (Nat.le_of_ble_eq_true rfl) ?_
  show G_k_isSolved l Z n0 P 0 [some (vR b0)] [] [(b0, 4, O0)] sz 0 0 (QM Z D n0 P (some (vI rr)) [(b0, 4, O0)] sz)
  unfold k_isSolved at hf
  refine Go.aloadN (pc2 := 1) d_k_isSolved_0 rfl rfl ?_
  refine Go.getf (pc2 := 4) d_k_isSolved_1 rfl rfl D_C (by exact w_26 hw) (q := 0) rfl (x := O0 0 3) (u := vI (O0 0 3)) (fs_solved) rfl rfl ?_
  cases hf
  exact Go.retz d_k_isSolved_4 rfl rfl (Nat.le_of_ble_eq_true rfl) (Nat.le_of_ble_eq_true rfl) (fun _ H => ⟨rfl, H⟩)
set_option maxRecDepth 65536 in
set_option maxHeartbeats 4000000 in
theorem th_k_centreXNum {l : Launch} {Z : State} {a0 : Array Value} (hw : ∀ d ∈ tables_1, d.before a0 Z = true) {n0 : Nat} {P : Heap → Prop} {b0 sz : Nat} {rr : Int} {O0 : Mo} (hf : k_centreXNum O0 = rr) :
    Meth l Z D n0 P (⟨"MinCircle", "centreXNum", "()J"⟩ : MethodName) prog_1_method_10_code 1 (some .long) R_k_centreXNum [vR b0] [(b0, 4, O0)] sz (QM Z D n0 P (some (vJ rr)) [(b0, 4, O0)] sz) := by
  refine Meth.of (plainFor_of_name pn_cls) (Nat.le_of_ble_eq_true rfl) ?_
  show G_k_centreXNum l Z n0 P 0 [some (vR b0)] [] [(b0, 4, O0)] sz 0 0 (QM Z D n0 P (some (vJ rr)) [(b0, 4, O0)] sz)
  unfold k_centreXNum at hf
  refine Go.aloadN (pc2 := 1) d_k_centreXNum_0 rfl rfl ?_
  refine Go.getf (pc2 := 4) d_k_centreXNum_1 rfl rfl D_C (by exact w_26 hw) (q := 0) rfl (x := O0 0 3) (u := vI (O0 0 3)) (fs_solved) rfl rfl ?_
  by_cases hc : O0 0 3 = 0
  · replace hf := ifp hc hf
    refine Go.ifT (pc2 := 14) d_k_centreXNum_4 hc (by decide) (by decide) ?_
    refine Go.lconst (pc2 := 15) (i := 0) d_k_centreXNum_14 rfl (by decide) ?_
    cases hf
    exact Go.retj d_k_centreXNum_15 rfl (Nat.le_of_ble_eq_true rfl) (Nat.le_of_ble_eq_true rfl) (fun _ H => ⟨rfl, H⟩)
  · replace hf := ifn hc hf
    refine Go.ifF (pc2 := 7) d_k_centreXNum_4 hc rfl ?_
    refine Go.aloadN (pc2 := 8) d_k_centreXNum_7 rfl rfl ?_
    refine Go.getf (pc2 := 11) d_k_centreXNum_8 rfl rfl D_C (by exact w_76 hw) (q := 0) rfl (x := O0 0 4) (u := vJ (O0 0 4)) (fs_cxNum) rfl rfl ?_
    refine Go.goto (pc2 := 15) d_k_centreXNum_11 (by decide) (by decide) ?_
    cases hf
    exact Go.retj d_k_centreXNum_15 rfl (Nat.le_of_ble_eq_true rfl) (Nat.le_of_ble_eq_true rfl) (fun _ H => ⟨rfl, H⟩)
set_option maxRecDepth 65536 in
set_option maxHeartbeats 4000000 in
theorem th_k_centreYNum {l : Launch} {Z : State} {a0 : Array Value} (hw : ∀ d ∈ tables_1, d.before a0 Z = true) {n0 : Nat} {P : Heap → Prop} {b0 sz : Nat} {rr : Int} {O0 : Mo} (hf : k_centreYNum O0 = rr) :
    Meth l Z D n0 P (⟨"MinCircle", "centreYNum", "()J"⟩ : MethodName) prog_1_method_11_code 1 (some .long) R_k_centreYNum [vR b0] [(b0, 4, O0)] sz (QM Z D n0 P (some (vJ rr)) [(b0, 4, O0)] sz) := by
  refine Meth.of (plainFor_of_name pn_cls) (Nat.le_of_ble_eq_true rfl) ?_
  show G_k_centreYNum l Z n0 P 0 [some (vR b0)] [] [(b0, 4, O0)] sz 0 0 (QM Z D n0 P (some (vJ rr)) [(b0, 4, O0)] sz)
  unfold k_centreYNum at hf
  refine Go.aloadN (pc2 := 1) d_k_centreYNum_0 rfl rfl ?_
  refine Go.getf (pc2 := 4) d_k_centreYNum_1 rfl rfl D_C (by exact w_26 hw) (q := 0) rfl (x := O0 0 3) (u := vI (O0 0 3)) (fs_solved) rfl rfl ?_
  by_cases hc : O0 0 3 = 0
  · replace hf := ifp hc hf
    refine Go.ifT (pc2 := 14) d_k_centreYNum_4 hc (by decide) (by decide) ?_
    refine Go.lconst (pc2 := 15) (i := 0) d_k_centreYNum_14 rfl (by decide) ?_
    cases hf
    exact Go.retj d_k_centreYNum_15 rfl (Nat.le_of_ble_eq_true rfl) (Nat.le_of_ble_eq_true rfl) (fun _ H => ⟨rfl, H⟩)
  · replace hf := ifn hc hf
    refine Go.ifF (pc2 := 7) d_k_centreYNum_4 hc rfl ?_
    refine Go.aloadN (pc2 := 8) d_k_centreYNum_7 rfl rfl ?_
    refine Go.getf (pc2 := 11) d_k_centreYNum_8 rfl rfl D_C (by exact w_78 hw) (q := 0) rfl (x := O0 0 5) (u := vJ (O0 0 5)) (fs_cyNum) rfl rfl ?_
    refine Go.goto (pc2 := 15) d_k_centreYNum_11 (by decide) (by decide) ?_
    cases hf
    exact Go.retj d_k_centreYNum_15 rfl (Nat.le_of_ble_eq_true rfl) (Nat.le_of_ble_eq_true rfl) (fun _ H => ⟨rfl, H⟩)
set_option maxRecDepth 65536 in
set_option maxHeartbeats 4000000 in
theorem th_k_centreDen {l : Launch} {Z : State} {a0 : Array Value} (hw : ∀ d ∈ tables_1, d.before a0 Z = true) {n0 : Nat} {P : Heap → Prop} {b0 sz : Nat} {rr : Int} {O0 : Mo} (hf : k_centreDen O0 = rr) :
    Meth l Z D n0 P (⟨"MinCircle", "centreDen", "()J"⟩ : MethodName) prog_1_method_12_code 1 (some .long) R_k_centreDen [vR b0] [(b0, 4, O0)] sz (QM Z D n0 P (some (vJ rr)) [(b0, 4, O0)] sz) := by
  refine Meth.of (plainFor_of_name pn_cls) (Nat.le_of_ble_eq_true rfl) ?_
  show G_k_centreDen l Z n0 P 0 [some (vR b0)] [] [(b0, 4, O0)] sz 0 0 (QM Z D n0 P (some (vJ rr)) [(b0, 4, O0)] sz)
  unfold k_centreDen at hf
  refine Go.aloadN (pc2 := 1) d_k_centreDen_0 rfl rfl ?_
  refine Go.getf (pc2 := 4) d_k_centreDen_1 rfl rfl D_C (by exact w_26 hw) (q := 0) rfl (x := O0 0 3) (u := vI (O0 0 3)) (fs_solved) rfl rfl ?_
  by_cases hc : O0 0 3 = 0
  · replace hf := ifp hc hf
    refine Go.ifT (pc2 := 14) d_k_centreDen_4 hc (by decide) (by decide) ?_
    refine Go.lconst (pc2 := 15) (i := 0) d_k_centreDen_14 rfl (by decide) ?_
    cases hf
    exact Go.retj d_k_centreDen_15 rfl (Nat.le_of_ble_eq_true rfl) (Nat.le_of_ble_eq_true rfl) (fun _ H => ⟨rfl, H⟩)
  · replace hf := ifn hc hf
    refine Go.ifF (pc2 := 7) d_k_centreDen_4 hc rfl ?_
    refine Go.aloadN (pc2 := 8) d_k_centreDen_7 rfl rfl ?_
    refine Go.getf (pc2 := 11) d_k_centreDen_8 rfl rfl D_C (by exact w_74 hw) (q := 0) rfl (x := O0 0 6) (u := vJ (O0 0 6)) (fs_den) rfl rfl ?_
    refine Go.goto (pc2 := 15) d_k_centreDen_11 (by decide) (by decide) ?_
    cases hf
    exact Go.retj d_k_centreDen_15 rfl (Nat.le_of_ble_eq_true rfl) (Nat.le_of_ble_eq_true rfl) (fun _ H => ⟨rfl, H⟩)
set_option maxRecDepth 65536 in
set_option maxHeartbeats 4000000 in
theorem th_k_radiusSqNum {l : Launch} {Z : State} {a0 : Array Value} (hw : ∀ d ∈ tables_1, d.before a0 Z = true) {n0 : Nat} {P : Heap → Prop} {b0 sz : Nat} {rr : Int} {O0 : Mo} (hf : k_radiusSqNum O0 = rr) :
    Meth l Z D n0 P (⟨"MinCircle", "radiusSqNum", "()J"⟩ : MethodName) prog_1_method_13_code 1 (some .long) R_k_radiusSqNum [vR b0] [(b0, 4, O0)] sz (QM Z D n0 P (some (vJ rr)) [(b0, 4, O0)] sz) := by
  refine Meth.of (plainFor_of_name pn_cls) (Nat.le_of_ble_eq_true rfl) ?_
  show G_k_radiusSqNum l Z n0 P 0 [some (vR b0)] [] [(b0, 4, O0)] sz 0 0 (QM Z D n0 P (some (vJ rr)) [(b0, 4, O0)] sz)
  unfold k_radiusSqNum at hf
  refine Go.aloadN (pc2 := 1) d_k_radiusSqNum_0 rfl rfl ?_
  refine Go.getf (pc2 := 4) d_k_radiusSqNum_1 rfl rfl D_C (by exact w_26 hw) (q := 0) rfl (x := O0 0 3) (u := vI (O0 0 3)) (fs_solved) rfl rfl ?_
  by_cases hc : O0 0 3 = 0
  · replace hf := ifp hc hf
    refine Go.ifT (pc2 := 14) d_k_radiusSqNum_4 hc (by decide) (by decide) ?_
    refine Go.lconst (pc2 := 15) (i := 0) d_k_radiusSqNum_14 rfl (by decide) ?_
    cases hf
    exact Go.retj d_k_radiusSqNum_15 rfl (Nat.le_of_ble_eq_true rfl) (Nat.le_of_ble_eq_true rfl) (fun _ H => ⟨rfl, H⟩)
  · replace hf := ifn hc hf
    refine Go.ifF (pc2 := 7) d_k_radiusSqNum_4 hc rfl ?_
    refine Go.aloadN (pc2 := 8) d_k_radiusSqNum_7 rfl rfl ?_
    refine Go.getf (pc2 := 11) d_k_radiusSqNum_8 rfl rfl D_C (by exact w_88 hw) (q := 0) rfl (x := O0 0 7) (u := vJ (O0 0 7)) (fs_rNum) rfl rfl ?_
    refine Go.goto (pc2 := 15) d_k_radiusSqNum_11 (by decide) (by decide) ?_
    cases hf
    exact Go.retj d_k_radiusSqNum_15 rfl (Nat.le_of_ble_eq_true rfl) (Nat.le_of_ble_eq_true rfl) (fun _ H => ⟨rfl, H⟩)
set_option maxRecDepth 65536 in
set_option maxHeartbeats 4000000 in
theorem th_k_kind {l : Launch} {Z : State} {a0 : Array Value} (hw : ∀ d ∈ tables_1, d.before a0 Z = true) {n0 : Nat} {P : Heap → Prop} {b0 sz : Nat} {rr : Int} {O0 : Mo} (hf : k_kind O0 = rr) :
    Meth l Z D n0 P (⟨"MinCircle", "kind", "()I"⟩ : MethodName) prog_1_method_14_code 1 (some .int) R_k_kind [vR b0] [(b0, 4, O0)] sz (QM Z D n0 P (some (vI rr)) [(b0, 4, O0)] sz) := by
  refine Meth.of (plainFor_of_name pn_cls) (Nat.le_of_ble_eq_true rfl) ?_
  show G_k_kind l Z n0 P 0 [some (vR b0)] [] [(b0, 4, O0)] sz 0 0 (QM Z D n0 P (some (vI rr)) [(b0, 4, O0)] sz)
  unfold k_kind at hf
  refine Go.aloadN (pc2 := 1) d_k_kind_0 rfl rfl ?_
  refine Go.getf (pc2 := 4) d_k_kind_1 rfl rfl D_C (by exact w_26 hw) (q := 0) rfl (x := O0 0 3) (u := vI (O0 0 3)) (fs_solved) rfl rfl ?_
  by_cases hc : O0 0 3 = 0
  · replace hf := ifp hc hf
    refine Go.ifT (pc2 := 14) d_k_kind_4 hc (by decide) (by decide) ?_
    refine Go.iconst (pc2 := 15) d_k_kind_14 rfl (by decide) ?_
    cases hf
    exact Go.reti d_k_kind_15 rfl (Nat.le_of_ble_eq_true rfl) (Nat.le_of_ble_eq_true rfl) (fun _ H => ⟨rfl, H⟩)
  · replace hf := ifn hc hf
    refine Go.ifF (pc2 := 7) d_k_kind_4 hc rfl ?_
    refine Go.aloadN (pc2 := 8) d_k_kind_7 rfl rfl ?_
    refine Go.getf (pc2 := 11) d_k_kind_8 rfl rfl D_C (by exact w_96 hw) (q := 0) rfl (x := O0 0 8) (u := vI (O0 0 8)) (fs_kindV) rfl rfl ?_
    refine Go.goto (pc2 := 15) d_k_kind_11 (by decide) (by decide) ?_
    cases hf
    exact Go.reti d_k_kind_15 rfl (Nat.le_of_ble_eq_true rfl) (Nat.le_of_ble_eq_true rfl) (fun _ H => ⟨rfl, H⟩)
set_option maxRecDepth 65536 in
set_option maxHeartbeats 4000000 in
theorem th_k_boundaryCount {l : Launch} {Z : State} {a0 : Array Value} (hw : ∀ d ∈ tables_1, d.before a0 Z = true) {n0 : Nat} {P : Heap → Prop} {b0 sz : Nat} {rr : Int} {O0 : Mo} (hf : k_boundaryCount O0 = rr) :
    Meth l Z D n0 P (⟨"MinCircle", "boundaryCount", "()I"⟩ : MethodName) prog_1_method_15_code 1 (some .int) R_k_boundaryCount [vR b0] [(b0, 4, O0)] sz (QM Z D n0 P (some (vI rr)) [(b0, 4, O0)] sz) := by
  refine Meth.of (plainFor_of_name pn_cls) (Nat.le_of_ble_eq_true rfl) ?_
  show G_k_boundaryCount l Z n0 P 0 [some (vR b0)] [] [(b0, 4, O0)] sz 0 0 (QM Z D n0 P (some (vI rr)) [(b0, 4, O0)] sz)
  unfold k_boundaryCount at hf
  refine Go.aloadN (pc2 := 1) d_k_boundaryCount_0 rfl rfl ?_
  refine Go.getf (pc2 := 4) d_k_boundaryCount_1 rfl rfl D_C (by exact w_26 hw) (q := 0) rfl (x := O0 0 3) (u := vI (O0 0 3)) (fs_solved) rfl rfl ?_
  by_cases hc : O0 0 3 = 0
  · replace hf := ifp hc hf
    refine Go.ifT (pc2 := 14) d_k_boundaryCount_4 hc (by decide) (by decide) ?_
    refine Go.iconst (pc2 := 15) d_k_boundaryCount_14 rfl (by decide) ?_
    cases hf
    exact Go.reti d_k_boundaryCount_15 rfl (Nat.le_of_ble_eq_true rfl) (Nat.le_of_ble_eq_true rfl) (fun _ H => ⟨rfl, H⟩)
  · replace hf := ifn hc hf
    refine Go.ifF (pc2 := 7) d_k_boundaryCount_4 hc rfl ?_
    refine Go.aloadN (pc2 := 8) d_k_boundaryCount_7 rfl rfl ?_
    refine Go.getf (pc2 := 11) d_k_boundaryCount_8 rfl rfl D_C (by exact w_90 hw) (q := 0) rfl (x := O0 0 9) (u := vI (O0 0 9)) (fs_bCount) rfl rfl ?_
    refine Go.goto (pc2 := 15) d_k_boundaryCount_11 (by decide) (by decide) ?_
    cases hf
    exact Go.reti d_k_boundaryCount_15 rfl (Nat.le_of_ble_eq_true rfl) (Nat.le_of_ble_eq_true rfl) (fun _ H => ⟨rfl, H⟩)
set_option maxRecDepth 65536 in
set_option maxHeartbeats 4000000 in
theorem tj_u_law_44 {l : Launch} {Z : State} {a0 : Array Value} (hw : ∀ d ∈ tables_1, d.before a0 Z = true) {n0 : Nat} {P : Heap → Prop} (hst : ∀ b, n0 ≤ b → StB D b P) {F : Nat} {rr : Int} {O0 : Mo} {v0 v1 s0 : Int} (hf : j_u_law_44 F O0 v0 v1 s0 = some rr) :
    G_u_law l Z n0 P 44 [some (vI v0), some (vI v1), none, none, some (vR n0), none, none, none, none, none, none, none, none, none, none, none, none, none, none] [vI s0] [(n0, 4, O0)] ((n0 + 5)) 5 146 (QL rr) := by
  unfold j_u_law_44 at hf
  refine Go.istore (pc2 := 46) (L2 := [some (vI v0), some (vI v1), none, none, some (vR n0), some (vI s0), none, none, none, none, none, none, none, none, none, none, none, none, none]) at_44 rfl (Nat.le_of_ble_eq_true rfl) rfl ?_
  refine Go.aload (pc2 := 48) at_46 rfl rfl ?_
  refine Go.iloadN (pc2 := 49) at_48 rfl rfl ?_
  refine Go.iloadN (pc2 := 50) at_49 rfl rfl ?_
  refine bind_in hf ?_
  clear hf
  intro r h_r hf
  refine Go.callv (pc2 := 53) (as := [vI v0, vI v1]) (S := []) (w := (some (vI r.1))) (os2 := [(n0, 4, r.2)]) (sz2 := (n0 + 5)) (S2 := [vI r.1]) (rm := R_k_addPoint) at_50 rfl xc (by exact w_30 hw) (by exact w_31 hw) D_C (by exact w_33 hw) (by exact w_32 hw) (by exact w_34 hw) rfl (by exact w_2 hw) (q := 0) rfl (by decide) pd_k_addPoint (by decide) (Nat.le_of_ble_eq_true rfl) (by decide) (by decide) (nc := 0) (ns := 0) rfl rfl rfl (cu2 := 5) rfl (su2 := 146) rfl rfl (Pays.one (q := 0) rfl rfl (fun P2 hP2 => th_k_addPoint hw h_r)) rfl ?_
  refine Go.istore (pc2 := 55) (L2 := [some (vI v0), some (vI v1), none, none, some (vR n0), some (vI s0), some (vI r.1), none, none, none, none, none, none, none, none, none, none, none, none]) at_53 rfl (Nat.le_of_ble_eq_true rfl) rfl ?_
  refine Go.aload (pc2 := 57) at_55 rfl rfl ?_
  refine bind_in hf ?_
  clear hf
  intro r_1 h_r_1 hf
  refine Go.callv (pc2 := 60) (as := []) (S := []) (w := (some (vI r_1.1))) (os2 := [(n0, 4, r_1.2)]) (sz2 := (n0 + 5)) (S2 := [vI r_1.1]) (rm := R_k_solve) at_57 rfl xc (by exact w_39 hw) (by exact w_40 hw) D_C (by exact w_42 hw) (by exact w_41 hw) (by exact w_43 hw) rfl (by exact w_2 hw) (q := 0) rfl (by decide) pd_k_solve (by decide) (Nat.le_of_ble_eq_true rfl) (by decide) (by decide) (nc := 0) (ns := 0) rfl rfl rfl (cu2 := 5) rfl (su2 := 146) rfl rfl (Pays.one (q := 0) rfl rfl (fun P2 hP2 => th_k_solve hw h_r_1)) rfl ?_
  refine Go.istore (pc2 := 62) (L2 := [some (vI v0), some (vI v1), none, none, some (vR n0), some (vI s0), some (vI r.1), some (vI r_1.1), none, none, none, none, none, none, none, none, none, none, none]) at_60 rfl (Nat.le_of_ble_eq_true rfl) rfl ?_
  refine Go.aload (pc2 := 64) at_62 rfl rfl ?_
  refine Go.callv (pc2 := 67) (as := []) (S := []) (w := (some (vI (k_isSolved r_1.2)))) (os2 := [(n0, 4, r_1.2)]) (sz2 := (n0 + 5)) (S2 := [vI (k_isSolved r_1.2)]) (rm := R_k_isSolved) at_64 rfl xc (by exact w_98 hw) (by exact w_99 hw) D_C (by exact w_101 hw) (by exact w_100 hw) (by exact w_102 hw) rfl (by exact w_2 hw) (q := 0) rfl (by decide) pd_k_isSolved (by decide) (Nat.le_of_ble_eq_true rfl) (by decide) (by decide) (nc := 0) (ns := 0) rfl rfl rfl (cu2 := 5) rfl (su2 := 146) rfl rfl (Pays.one (q := 0) rfl rfl (fun P2 hP2 => th_k_isSolved hw rfl)) rfl ?_
  refine Go.istore (pc2 := 69) (L2 := [some (vI v0), some (vI v1), none, none, some (vR n0), some (vI s0), some (vI r.1), some (vI r_1.1), some (vI (k_isSolved r_1.2)), none, none, none, none, none, none, none, none, none, none]) at_67 rfl (Nat.le_of_ble_eq_true rfl) rfl ?_
  refine Go.aload (pc2 := 71) at_69 rfl rfl ?_
  refine Go.callv (pc2 := 74) (as := []) (S := []) (w := (some (vJ (k_centreXNum r_1.2)))) (os2 := [(n0, 4, r_1.2)]) (sz2 := (n0 + 5)) (S2 := [vJ (k_centreXNum r_1.2)]) (rm := R_k_centreXNum) at_71 rfl xc (by exact w_103 hw) (by exact w_104 hw) D_C (by exact w_106 hw) (by exact w_105 hw) (by exact w_107 hw) rfl (by exact w_2 hw) (q := 0) rfl (by decide) pd_k_centreXNum (by decide) (Nat.le_of_ble_eq_true rfl) (by decide) (by decide) (nc := 0) (ns := 0) rfl rfl rfl (cu2 := 5) rfl (su2 := 146) rfl rfl (Pays.one (q := 0) rfl rfl (fun P2 hP2 => th_k_centreXNum hw rfl)) rfl ?_
  refine Go.lstore (pc2 := 76) (L2 := [some (vI v0), some (vI v1), none, none, some (vR n0), some (vI s0), some (vI r.1), some (vI r_1.1), some (vI (k_isSolved r_1.2)), some (vJ (k_centreXNum r_1.2)), none, none, none, none, none, none, none, none, none]) at_74 rfl (Nat.le_of_ble_eq_true rfl) rfl ?_
  refine Go.aload (pc2 := 78) at_76 rfl rfl ?_
  refine Go.callv (pc2 := 81) (as := []) (S := []) (w := (some (vJ (k_centreYNum r_1.2)))) (os2 := [(n0, 4, r_1.2)]) (sz2 := (n0 + 5)) (S2 := [vJ (k_centreYNum r_1.2)]) (rm := R_k_centreYNum) at_78 rfl xc (by exact w_108 hw) (by exact w_109 hw) D_C (by exact w_111 hw) (by exact w_110 hw) (by exact w_112 hw) rfl (by exact w_2 hw) (q := 0) rfl (by decide) pd_k_centreYNum (by decide) (Nat.le_of_ble_eq_true rfl) (by decide) (by decide) (nc := 0) (ns := 0) rfl rfl rfl (cu2 := 5) rfl (su2 := 146) rfl rfl (Pays.one (q := 0) rfl rfl (fun P2 hP2 => th_k_centreYNum hw rfl)) rfl ?_
  refine Go.lstore (pc2 := 83) (L2 := [some (vI v0), some (vI v1), none, none, some (vR n0), some (vI s0), some (vI r.1), some (vI r_1.1), some (vI (k_isSolved r_1.2)), some (vJ (k_centreXNum r_1.2)), none, some (vJ (k_centreYNum r_1.2)), none, none, none, none, none, none, none]) at_81 rfl (Nat.le_of_ble_eq_true rfl) rfl ?_
  refine Go.aload (pc2 := 85) at_83 rfl rfl ?_
  refine Go.callv (pc2 := 88) (as := []) (S := []) (w := (some (vJ (k_centreDen r_1.2)))) (os2 := [(n0, 4, r_1.2)]) (sz2 := (n0 + 5)) (S2 := [vJ (k_centreDen r_1.2)]) (rm := R_k_centreDen) at_85 rfl xc (by exact w_113 hw) (by exact w_114 hw) D_C (by exact w_116 hw) (by exact w_115 hw) (by exact w_117 hw) rfl (by exact w_2 hw) (q := 0) rfl (by decide) pd_k_centreDen (by decide) (Nat.le_of_ble_eq_true rfl) (by decide) (by decide) (nc := 0) (ns := 0) rfl rfl rfl (cu2 := 5) rfl (su2 := 146) rfl rfl (Pays.one (q := 0) rfl rfl (fun P2 hP2 => th_k_centreDen hw rfl)) rfl ?_
  refine Go.lstore (pc2 := 90) (L2 := [some (vI v0), some (vI v1), none, none, some (vR n0), some (vI s0), some (vI r.1), some (vI r_1.1), some (vI (k_isSolved r_1.2)), some (vJ (k_centreXNum r_1.2)), none, some (vJ (k_centreYNum r_1.2)), none, some (vJ (k_centreDen r_1.2)), none, none, none, none, none]) at_88 rfl (Nat.le_of_ble_eq_true rfl) rfl ?_
  refine Go.aload (pc2 := 92) at_90 rfl rfl ?_
  refine Go.callv (pc2 := 95) (as := []) (S := []) (w := (some (vJ (k_radiusSqNum r_1.2)))) (os2 := [(n0, 4, r_1.2)]) (sz2 := (n0 + 5)) (S2 := [vJ (k_radiusSqNum r_1.2)]) (rm := R_k_radiusSqNum) at_92 rfl xc (by exact w_118 hw) (by exact w_119 hw) D_C (by exact w_121 hw) (by exact w_120 hw) (by exact w_122 hw) rfl (by exact w_2 hw) (q := 0) rfl (by decide) pd_k_radiusSqNum (by decide) (Nat.le_of_ble_eq_true rfl) (by decide) (by decide) (nc := 0) (ns := 0) rfl rfl rfl (cu2 := 5) rfl (su2 := 146) rfl rfl (Pays.one (q := 0) rfl rfl (fun P2 hP2 => th_k_radiusSqNum hw rfl)) rfl ?_
  refine Go.lstore (pc2 := 97) (L2 := [some (vI v0), some (vI v1), none, none, some (vR n0), some (vI s0), some (vI r.1), some (vI r_1.1), some (vI (k_isSolved r_1.2)), some (vJ (k_centreXNum r_1.2)), none, some (vJ (k_centreYNum r_1.2)), none, some (vJ (k_centreDen r_1.2)), none, some (vJ (k_radiusSqNum r_1.2)), none, none, none]) at_95 rfl (Nat.le_of_ble_eq_true rfl) rfl ?_
  refine Go.aload (pc2 := 99) at_97 rfl rfl ?_
  refine Go.callv (pc2 := 102) (as := []) (S := []) (w := (some (vI (k_kind r_1.2)))) (os2 := [(n0, 4, r_1.2)]) (sz2 := (n0 + 5)) (S2 := [vI (k_kind r_1.2)]) (rm := R_k_kind) at_99 rfl xc (by exact w_123 hw) (by exact w_124 hw) D_C (by exact w_126 hw) (by exact w_125 hw) (by exact w_127 hw) rfl (by exact w_2 hw) (q := 0) rfl (by decide) pd_k_kind (by decide) (Nat.le_of_ble_eq_true rfl) (by decide) (by decide) (nc := 0) (ns := 0) rfl rfl rfl (cu2 := 5) rfl (su2 := 146) rfl rfl (Pays.one (q := 0) rfl rfl (fun P2 hP2 => th_k_kind hw rfl)) rfl ?_
  refine Go.istore (pc2 := 104) (L2 := [some (vI v0), some (vI v1), none, none, some (vR n0), some (vI s0), some (vI r.1), some (vI r_1.1), some (vI (k_isSolved r_1.2)), some (vJ (k_centreXNum r_1.2)), none, some (vJ (k_centreYNum r_1.2)), none, some (vJ (k_centreDen r_1.2)), none, some (vJ (k_radiusSqNum r_1.2)), none, some (vI (k_kind r_1.2)), none]) at_102 rfl (Nat.le_of_ble_eq_true rfl) rfl ?_
  refine Go.aload (pc2 := 106) at_104 rfl rfl ?_
  refine Go.callv (pc2 := 109) (as := []) (S := []) (w := (some (vI (k_boundaryCount r_1.2)))) (os2 := [(n0, 4, r_1.2)]) (sz2 := (n0 + 5)) (S2 := [vI (k_boundaryCount r_1.2)]) (rm := R_k_boundaryCount) at_106 rfl xc (by exact w_128 hw) (by exact w_129 hw) D_C (by exact w_131 hw) (by exact w_130 hw) (by exact w_132 hw) rfl (by exact w_2 hw) (q := 0) rfl (by decide) pd_k_boundaryCount (by decide) (Nat.le_of_ble_eq_true rfl) (by decide) (by decide) (nc := 0) (ns := 0) rfl rfl rfl (cu2 := 5) rfl (su2 := 146) rfl rfl (Pays.one (q := 0) rfl rfl (fun P2 hP2 => th_k_boundaryCount hw rfl)) rfl ?_
  refine Go.istore (pc2 := 111) (L2 := [some (vI v0), some (vI v1), none, none, some (vR n0), some (vI s0), some (vI r.1), some (vI r_1.1), some (vI (k_isSolved r_1.2)), some (vJ (k_centreXNum r_1.2)), none, some (vJ (k_centreYNum r_1.2)), none, some (vJ (k_centreDen r_1.2)), none, some (vJ (k_radiusSqNum r_1.2)), none, some (vI (k_kind r_1.2)), some (vI (k_boundaryCount r_1.2))]) at_109 rfl (Nat.le_of_ble_eq_true rfl) rfl ?_
  refine Go.iload (pc2 := 113) at_111 rfl rfl ?_
  by_cases hc : s0 = 0
  · replace hf := ifp hc hf
    refine Go.ifT (pc2 := 180) at_113 hc (by decide) (by decide) ?_
    refine Go.iload (pc2 := 182) at_180 rfl rfl ?_
    refine Go.iconst (pc2 := 183) at_182 rfl (by decide) ?_
    by_cases hc : r.1 = (-1)
    · replace hf := ifp hc hf
      refine Go.icmpF (pc2 := 186) at_183 (fun q => q hc) rfl ?_
      refine Go.iload (pc2 := 188) at_186 rfl rfl ?_
      refine Go.iconst (pc2 := 189) at_188 rfl (by decide) ?_
      by_cases hc : r_1.1 = (-1)
      · replace hf := ifp hc hf
        refine Go.icmpF (pc2 := 192) at_189 (fun q => q hc) rfl ?_
        refine Go.iload (pc2 := 194) at_192 rfl rfl ?_
        by_cases hc : k_isSolved r_1.2 = 0
        · replace hf := ifp hc hf
          refine Go.ifF (pc2 := 197) at_194 (fun q => q hc) rfl ?_
          refine Go.lload (pc2 := 199) at_197 rfl rfl ?_
          refine Go.lconst (pc2 := 200) (i := 0) at_199 rfl (by decide) ?_
          by_cases hc : k_centreXNum r_1.2 = 0
          · replace hf := ifp hc hf
            refine Go.lcmpF (pc3 := 201) (pc2 := 204) at_200 at_201 rfl (fun q => q hc) rfl ?_
            refine Go.lload (pc2 := 206) at_204 rfl rfl ?_
            refine Go.lconst (pc2 := 207) (i := 0) at_206 rfl (by decide) ?_
            by_cases hc : k_centreYNum r_1.2 = 0
            · replace hf := ifp hc hf
              refine Go.lcmpF (pc3 := 208) (pc2 := 211) at_207 at_208 rfl (fun q => q hc) rfl ?_
              refine Go.lload (pc2 := 213) at_211 rfl rfl ?_
              refine Go.lconst (pc2 := 214) (i := 0) at_213 rfl (by decide) ?_
              by_cases hc : k_centreDen r_1.2 = 0
              · replace hf := ifp hc hf
                refine Go.lcmpF (pc3 := 215) (pc2 := 218) at_214 at_215 rfl (fun q => q hc) rfl ?_
                refine Go.lload (pc2 := 220) at_218 rfl rfl ?_
                refine Go.lconst (pc2 := 221) (i := 0) at_220 rfl (by decide) ?_
                by_cases hc : k_radiusSqNum r_1.2 = 0
                · replace hf := ifp hc hf
                  refine Go.lcmpF (pc3 := 222) (pc2 := 225) at_221 at_222 rfl (fun q => q hc) rfl ?_
                  refine Go.iload (pc2 := 227) at_225 rfl rfl ?_
                  by_cases hc : k_kind r_1.2 = 0
                  · replace hf := ifp hc hf
                    refine Go.ifF (pc2 := 230) at_227 (fun q => q hc) rfl ?_
                    refine Go.iload (pc2 := 232) at_230 rfl rfl ?_
                    by_cases hc : k_boundaryCount r_1.2 = 0
                    · replace hf := ifp hc hf
                      refine Go.ifF (pc2 := 235) at_232 (fun q => q hc) rfl ?_
                      refine Go.iconst (pc2 := 236) at_235 rfl (by decide) ?_
                      refine Go.goto (pc2 := 240) at_236 (by decide) (by decide) ?_
                      cases hf
                      exact Go.retz at_240 rfl rfl (Nat.le_of_ble_eq_true rfl) (Nat.le_of_ble_eq_true rfl) (fun _ _ => rfl)
                    · replace hf := ifn hc hf
                      refine Go.ifT (pc2 := 239) at_232 hc (by decide) (by decide) ?_
                      refine Go.iconst (pc2 := 240) at_239 rfl (by decide) ?_
                      cases hf
                      exact Go.retz at_240 rfl rfl (Nat.le_of_ble_eq_true rfl) (Nat.le_of_ble_eq_true rfl) (fun _ _ => rfl)
                  · replace hf := ifn hc hf
                    refine Go.ifT (pc2 := 239) at_227 hc (by decide) (by decide) ?_
                    refine Go.iconst (pc2 := 240) at_239 rfl (by decide) ?_
                    cases hf
                    exact Go.retz at_240 rfl rfl (Nat.le_of_ble_eq_true rfl) (Nat.le_of_ble_eq_true rfl) (fun _ _ => rfl)
                · replace hf := ifn hc hf
                  refine Go.lcmpT (pc3 := 222) (pc2 := 239) at_221 at_222 rfl hc (by decide) (by decide) ?_
                  refine Go.iconst (pc2 := 240) at_239 rfl (by decide) ?_
                  cases hf
                  exact Go.retz at_240 rfl rfl (Nat.le_of_ble_eq_true rfl) (Nat.le_of_ble_eq_true rfl) (fun _ _ => rfl)
              · replace hf := ifn hc hf
                refine Go.lcmpT (pc3 := 215) (pc2 := 239) at_214 at_215 rfl hc (by decide) (by decide) ?_
                refine Go.iconst (pc2 := 240) at_239 rfl (by decide) ?_
                cases hf
                exact Go.retz at_240 rfl rfl (Nat.le_of_ble_eq_true rfl) (Nat.le_of_ble_eq_true rfl) (fun _ _ => rfl)
            · replace hf := ifn hc hf
              refine Go.lcmpT (pc3 := 208) (pc2 := 239) at_207 at_208 rfl hc (by decide) (by decide) ?_
              refine Go.iconst (pc2 := 240) at_239 rfl (by decide) ?_
              cases hf
              exact Go.retz at_240 rfl rfl (Nat.le_of_ble_eq_true rfl) (Nat.le_of_ble_eq_true rfl) (fun _ _ => rfl)
          · replace hf := ifn hc hf
            refine Go.lcmpT (pc3 := 201) (pc2 := 239) at_200 at_201 rfl hc (by decide) (by decide) ?_
            refine Go.iconst (pc2 := 240) at_239 rfl (by decide) ?_
            cases hf
            exact Go.retz at_240 rfl rfl (Nat.le_of_ble_eq_true rfl) (Nat.le_of_ble_eq_true rfl) (fun _ _ => rfl)
        · replace hf := ifn hc hf
          refine Go.ifT (pc2 := 239) at_194 hc (by decide) (by decide) ?_
          refine Go.iconst (pc2 := 240) at_239 rfl (by decide) ?_
          cases hf
          exact Go.retz at_240 rfl rfl (Nat.le_of_ble_eq_true rfl) (Nat.le_of_ble_eq_true rfl) (fun _ _ => rfl)
      · replace hf := ifn hc hf
        refine Go.icmpT (pc2 := 239) at_189 hc (by decide) (by decide) ?_
        refine Go.iconst (pc2 := 240) at_239 rfl (by decide) ?_
        cases hf
        exact Go.retz at_240 rfl rfl (Nat.le_of_ble_eq_true rfl) (Nat.le_of_ble_eq_true rfl) (fun _ _ => rfl)
    · replace hf := ifn hc hf
      refine Go.icmpT (pc2 := 239) at_183 hc (by decide) (by decide) ?_
      refine Go.iconst (pc2 := 240) at_239 rfl (by decide) ?_
      cases hf
      exact Go.retz at_240 rfl rfl (Nat.le_of_ble_eq_true rfl) (Nat.le_of_ble_eq_true rfl) (fun _ _ => rfl)
  · replace hf := ifn hc hf
    refine Go.ifF (pc2 := 116) at_113 hc rfl ?_
    refine Go.iload (pc2 := 118) at_116 rfl rfl ?_
    by_cases hc : r.1 = 0
    · replace hf := ifp hc hf
      refine Go.ifF (pc2 := 121) at_118 (fun q => q hc) rfl ?_
      refine Go.iload (pc2 := 123) at_121 rfl rfl ?_
      refine Go.iconst (pc2 := 124) at_123 rfl (by decide) ?_
      by_cases hc : r_1.1 = 1
      · replace hf := ifp hc hf
        refine Go.icmpF (pc2 := 127) at_124 (fun q => q hc) rfl ?_
        refine Go.iload (pc2 := 129) at_127 rfl rfl ?_
        by_cases hc : k_isSolved r_1.2 = 0
        · replace hf := ifp hc hf
          refine Go.ifT (pc2 := 178) at_129 hc (by decide) (by decide) ?_
          refine Go.iconst (pc2 := 179) at_178 rfl (by decide) ?_
          cases hf
          exact Go.retz at_179 rfl rfl (Nat.le_of_ble_eq_true rfl) (Nat.le_of_ble_eq_true rfl) (fun _ _ => rfl)
        · replace hf := ifn hc hf
          refine Go.ifF (pc2 := 132) at_129 hc rfl ?_
          refine Go.lload (pc2 := 134) at_132 rfl rfl ?_
          refine Go.iloadN (pc2 := 135) at_134 rfl rfl ?_
          refine Go.i2l (pc2 := 136) at_135 rfl ?_
          by_cases hc : k_centreXNum r_1.2 = v0
          · replace hf := ifp hc hf
            refine Go.lcmpF (pc3 := 137) (pc2 := 140) at_136 at_137 rfl (fun q => q hc) rfl ?_
            refine Go.lload (pc2 := 142) at_140 rfl rfl ?_
            refine Go.iloadN (pc2 := 143) at_142 rfl rfl ?_
            refine Go.i2l (pc2 := 144) at_143 rfl ?_
            by_cases hc : k_centreYNum r_1.2 = v1
            · replace hf := ifp hc hf
              refine Go.lcmpF (pc3 := 145) (pc2 := 148) at_144 at_145 rfl (fun q => q hc) rfl ?_
              refine Go.lload (pc2 := 150) at_148 rfl rfl ?_
              refine Go.lconst (pc2 := 151) (i := 1) at_150 rfl (by decide) ?_
              by_cases hc : k_centreDen r_1.2 = 1
              · replace hf := ifp hc hf
                refine Go.lcmpF (pc3 := 152) (pc2 := 155) at_151 at_152 rfl (fun q => q hc) rfl ?_
                refine Go.lload (pc2 := 157) at_155 rfl rfl ?_
                refine Go.lconst (pc2 := 158) (i := 0) at_157 rfl (by decide) ?_
                by_cases hc : k_radiusSqNum r_1.2 = 0
                · replace hf := ifp hc hf
                  refine Go.lcmpF (pc3 := 159) (pc2 := 162) at_158 at_159 rfl (fun q => q hc) rfl ?_
                  refine Go.iload (pc2 := 164) at_162 rfl rfl ?_
                  refine Go.iconst (pc2 := 165) at_164 rfl (by decide) ?_
                  by_cases hc : k_kind r_1.2 = 1
                  · replace hf := ifp hc hf
                    refine Go.icmpF (pc2 := 168) at_165 (fun q => q hc) rfl ?_
                    refine Go.iload (pc2 := 170) at_168 rfl rfl ?_
                    refine Go.iconst (pc2 := 171) at_170 rfl (by decide) ?_
                    by_cases hc : k_boundaryCount r_1.2 = 1
                    · replace hf := ifp hc hf
                      refine Go.icmpF (pc2 := 174) at_171 (fun q => q hc) rfl ?_
                      refine Go.iconst (pc2 := 175) at_174 rfl (by decide) ?_
                      refine Go.goto (pc2 := 179) at_175 (by decide) (by decide) ?_
                      cases hf
                      exact Go.retz at_179 rfl rfl (Nat.le_of_ble_eq_true rfl) (Nat.le_of_ble_eq_true rfl) (fun _ _ => rfl)
                    · replace hf := ifn hc hf
                      refine Go.icmpT (pc2 := 178) at_171 hc (by decide) (by decide) ?_
                      refine Go.iconst (pc2 := 179) at_178 rfl (by decide) ?_
                      cases hf
                      exact Go.retz at_179 rfl rfl (Nat.le_of_ble_eq_true rfl) (Nat.le_of_ble_eq_true rfl) (fun _ _ => rfl)
                  · replace hf := ifn hc hf
                    refine Go.icmpT (pc2 := 178) at_165 hc (by decide) (by decide) ?_
                    refine Go.iconst (pc2 := 179) at_178 rfl (by decide) ?_
                    cases hf
                    exact Go.retz at_179 rfl rfl (Nat.le_of_ble_eq_true rfl) (Nat.le_of_ble_eq_true rfl) (fun _ _ => rfl)
                · replace hf := ifn hc hf
                  refine Go.lcmpT (pc3 := 159) (pc2 := 178) at_158 at_159 rfl hc (by decide) (by decide) ?_
                  refine Go.iconst (pc2 := 179) at_178 rfl (by decide) ?_
                  cases hf
                  exact Go.retz at_179 rfl rfl (Nat.le_of_ble_eq_true rfl) (Nat.le_of_ble_eq_true rfl) (fun _ _ => rfl)
              · replace hf := ifn hc hf
                refine Go.lcmpT (pc3 := 152) (pc2 := 178) at_151 at_152 rfl hc (by decide) (by decide) ?_
                refine Go.iconst (pc2 := 179) at_178 rfl (by decide) ?_
                cases hf
                exact Go.retz at_179 rfl rfl (Nat.le_of_ble_eq_true rfl) (Nat.le_of_ble_eq_true rfl) (fun _ _ => rfl)
            · replace hf := ifn hc hf
              refine Go.lcmpT (pc3 := 145) (pc2 := 178) at_144 at_145 rfl hc (by decide) (by decide) ?_
              refine Go.iconst (pc2 := 179) at_178 rfl (by decide) ?_
              cases hf
              exact Go.retz at_179 rfl rfl (Nat.le_of_ble_eq_true rfl) (Nat.le_of_ble_eq_true rfl) (fun _ _ => rfl)
          · replace hf := ifn hc hf
            refine Go.lcmpT (pc3 := 137) (pc2 := 178) at_136 at_137 rfl hc (by decide) (by decide) ?_
            refine Go.iconst (pc2 := 179) at_178 rfl (by decide) ?_
            cases hf
            exact Go.retz at_179 rfl rfl (Nat.le_of_ble_eq_true rfl) (Nat.le_of_ble_eq_true rfl) (fun _ _ => rfl)
      · replace hf := ifn hc hf
        refine Go.icmpT (pc2 := 178) at_124 hc (by decide) (by decide) ?_
        refine Go.iconst (pc2 := 179) at_178 rfl (by decide) ?_
        cases hf
        exact Go.retz at_179 rfl rfl (Nat.le_of_ble_eq_true rfl) (Nat.le_of_ble_eq_true rfl) (fun _ _ => rfl)
    · replace hf := ifn hc hf
      refine Go.ifT (pc2 := 178) at_118 hc (by decide) (by decide) ?_
      refine Go.iconst (pc2 := 179) at_178 rfl (by decide) ?_
      cases hf
      exact Go.retz at_179 rfl rfl (Nat.le_of_ble_eq_true rfl) (Nat.le_of_ble_eq_true rfl) (fun _ _ => rfl)
set_option maxRecDepth 65536 in
set_option maxHeartbeats 4000000 in
theorem th_u_law {l : Launch} {Z : State} {a0 : Array Value} (hw : ∀ d ∈ tables_1, d.before a0 Z = true) {n0 : Nat} {P : Heap → Prop} (hst : ∀ b, n0 ≤ b → StB D b P) {F : Nat} {rr : Int} {v0 v1 v2 v3 : Int} (hf : u_law F v0 v1 v2 v3 = some rr) :
    Meth l Z D n0 P x code maxLocals ret room_1 [vI v0, vI v1, vI v2, vI v3] [] n0 (QL rr) := by
  refine Meth.of (plainFor_of_name pn_law) (Nat.le_of_ble_eq_true rfl) ?_
  show G_u_law l Z n0 P 0 [some (vI v0), some (vI v1), some (vI v2), some (vI v3), none, none, none, none, none, none, none, none, none, none, none, none, none, none, none] [] [] n0 0 0 (QL rr)
  unfold u_law at hf
  refine Go.newo (pc2 := 3) (cw_ok hw) at_0 rfl xc D_C (by exact w_0 hw) (by exact w_1 hw) (by exact w_2 hw) (fun o h => nomatch h) hst (by decide) (by decide) (os2 := [(n0, 0, zM)]) rfl (sz2 := (n0 + 1)) rfl (cu2 := 1) rfl (su2 := 18) rfl ?_
  refine Go.dup (pc2 := 4) at_3 rfl rfl ?_
  refine Go.iloadN (pc2 := 5) at_4 rfl rfl ?_
  refine Go.iloadN (pc2 := 6) at_5 rfl rfl ?_
  refine bind_in hf ?_
  clear hf
  intro r h_r hf
  refine Go.callc (pc2 := 9) (as := [vI v2, vI v3]) (S := [vR n0]) (w := none) (os2 := [(n0, 4, r)]) (sz2 := (n0 + 5)) (S2 := [vR n0]) (rm := R_k_ctor) at_6 rfl rfl rfl xc (by exact w_3 hw) (by exact w_4 hw) (by exact w_5 hw) rfl (by exact w_2 hw) (by decide) pd_k_ctor (by decide) (Nat.le_of_ble_eq_true rfl) (by decide) (by decide) (nc := 4) (ns := 128) rfl rfl rfl (cu2 := 5) rfl (su2 := 146) rfl rfl (Pays.one (q := 0) rfl rfl (fun P2 hP2 => th_k_ctor hw h_r)) rfl ?_
  refine Go.astore (pc2 := 11) (L2 := [some (vI v0), some (vI v1), some (vI v2), some (vI v3), some (vR n0), none, none, none, none, none, none, none, none, none, none, none, none, none, none]) at_9 rfl (Nat.le_of_ble_eq_true rfl) rfl ?_
  refine Go.iloadN (pc2 := 12) at_11 rfl rfl ?_
  refine Go.sipush (pc2 := 15) at_12 rfl (by decide) ?_
  by_cases hc : v0 < (-255)
  · replace hf := ifp hc hf
    refine Go.icmpT (pc2 := 43) at_15 hc (by decide) (by decide) ?_
    refine Go.iconst (pc2 := 44) at_43 rfl (by decide) ?_
    exact Go.mask [true, true, false, false, true, true, true, true, true, true, true, true, true, true, true, true, true, true, true] (tj_u_law_44 hw hst hf)
  · replace hf := ifn hc hf
    refine Go.icmpF (pc2 := 18) at_15 hc rfl ?_
    refine Go.iloadN (pc2 := 19) at_18 rfl rfl ?_
    refine Go.sipush (pc2 := 22) at_19 rfl (by decide) ?_
    by_cases hc : 255 < v0
    · replace hf := ifp hc hf
      refine Go.icmpT (pc2 := 43) at_22 hc (by decide) (by decide) ?_
      refine Go.iconst (pc2 := 44) at_43 rfl (by decide) ?_
      exact Go.mask [true, true, false, false, true, true, true, true, true, true, true, true, true, true, true, true, true, true, true] (tj_u_law_44 hw hst hf)
    · replace hf := ifn hc hf
      refine Go.icmpF (pc2 := 25) at_22 hc rfl ?_
      refine Go.iloadN (pc2 := 26) at_25 rfl rfl ?_
      refine Go.sipush (pc2 := 29) at_26 rfl (by decide) ?_
      by_cases hc : v1 < (-255)
      · replace hf := ifp hc hf
        refine Go.icmpT (pc2 := 43) at_29 hc (by decide) (by decide) ?_
        refine Go.iconst (pc2 := 44) at_43 rfl (by decide) ?_
        exact Go.mask [true, true, false, false, true, true, true, true, true, true, true, true, true, true, true, true, true, true, true] (tj_u_law_44 hw hst hf)
      · replace hf := ifn hc hf
        refine Go.icmpF (pc2 := 32) at_29 hc rfl ?_
        refine Go.iloadN (pc2 := 33) at_32 rfl rfl ?_
        refine Go.sipush (pc2 := 36) at_33 rfl (by decide) ?_
        by_cases hc : 255 < v1
        · replace hf := ifp hc hf
          refine Go.icmpT (pc2 := 43) at_36 hc (by decide) (by decide) ?_
          refine Go.iconst (pc2 := 44) at_43 rfl (by decide) ?_
          exact Go.mask [true, true, false, false, true, true, true, true, true, true, true, true, true, true, true, true, true, true, true] (tj_u_law_44 hw hst hf)
        · replace hf := ifn hc hf
          refine Go.icmpF (pc2 := 39) at_36 hc rfl ?_
          refine Go.iconst (pc2 := 40) at_39 rfl (by decide) ?_
          refine Go.goto (pc2 := 44) at_40 (by decide) (by decide) ?_
          exact Go.mask [true, true, false, false, true, true, true, true, true, true, true, true, true, true, true, true, true, true, true] (tj_u_law_44 hw hst hf)
set_option maxRecDepth 65536 in
set_option maxHeartbeats 4000000 in
theorem comes_1 {Post : Tables → Env → Array Value → State → Outcome → State → Prop} (hpost : ∀ tb e args s v u, (limb_1_1.after args s (.returned v) u = true ∧ limb_1_2.after args s (.returned v) u = true ∧ True) → FrameEnd s (.returned v) u (Jvm.fieldLocs frame_1_writes args s ++ Jvm.arrayLocs frame_1_arrays args s ++ Jvm.staticLocs frame_1_statics s) 24 384 → Post tb e args s (.returned v) u) :
    ArmFor flags0 classFile x code maxLocals ret World_1 tables_1 room_1 Calls_1 rest_1 Pre_1 Post := by
  intro l hfl _ _ p e ha hc hk s m args below hf hA hF happ hP
  obtain ⟨hcalls, hrest, hpre⟩ := hP
  obtain ⟨-, -, -, hnamed, -, -, -, hat⟩ := (Spec.applies_iff hf).mp happ
  obtain ⟨hg, hn⟩ := and_e (Cond.before_iff.mp (show (Jvm.Cond.and given_1 narrow_1).before args s = true from hpre))
  obtain ⟨g6, g7⟩ := and_e hg
  have hw := fun d (hd : d ∈ tables_1) => atoms_spec (ws := Jvm.Cond.code x code maxLocals ret :: tables_1) hat d (List.mem_cons_of_mem _ hd)
  obtain ⟨w0, w1, w2, w3, rfl⟩ : ∃ w0 w1 w2 w3 : Value, args = #[w0, w1, w2, w3] := by
    have hs : args.size = 4 := by simpa [Cond.value, given_1] using g6
    obtain ⟨L⟩ := args
    match L, hs with
    | [w0, w1, w2, w3], _ => exact ⟨w0, w1, w2, w3, rfl⟩
  obtain ⟨q0, g7'⟩ := and_e g7
  obtain ⟨i0, e0⟩ := is_v q0
  obtain rfl : w0 = (.int i0) := Option.some.inj e0
  obtain ⟨q1, g7'⟩ := and_e g7'
  obtain ⟨i1, e1⟩ := is_v q1
  obtain rfl : w1 = (.int i1) := Option.some.inj e1
  obtain ⟨q2, g7'⟩ := and_e g7'
  obtain ⟨i2, e2⟩ := is_v q2
  obtain rfl : w2 = (.int i2) := Option.some.inj e2
  obtain ⟨i3, e3⟩ := is_v g7'
  obtain rfl : w3 = (.int i3) := Option.some.inj e3
  have hlaw := u_law_ok (r32t i0) (r32t i1) (r32t i2) (r32t i3)
  have M := th_u_law (l := l) (Z := s) hw (n0 := s.heap.size) (P := fun _ => True) (fun _ _ _ _ _ _ _ _ _ _ _ => trivial) hlaw
  obtain ⟨n, o, h1, h2, h3, _, L, rfl, ⟨_, rfl, rfl, N, -⟩, hq⟩ := M ((okS_cons (r32t i0) (okS_cons (r32t i1) (okS_cons (r32t i2) (okS_cons (r32t i3) (fun u hu => nomatch hu)))))) s.heap ⟨rfl, Nat.le_refl _, fun q b k O e => by simp at e, fun q q2 b k O b2 k2 O2 e => by simp at e, fun _ _ _ _ => trivial, trivial⟩ tables_1 p e ha hc hk s m _ below hf ((Spec.applies_iff_loose hf).mp happ).1 ⟨by simp only [List.map_cons, List.map_nil, Jvm.Own.rv, of32], State.Warmed39.refl s, rfl⟩ trivial
  refine ⟨n, _, h1, h2, h3, hpost _ _ _ _ _ _ ⟨Cond.after_iff.mpr rfl, Cond.after_iff.mpr (eq_i res_at (Term.int_eval (1)) rfl), trivial⟩ ⟨hq.1, hq.2.1, (hq.2.2.sift fun y hy => Or.inr (N y hy)).mono (by decide) (by decide)⟩⟩
theorem main_1_1 : Claimed_1_1 := comes_1 fun _ _ _ _ _ _ h hF => ⟨h.1, hF⟩
theorem main_1_2 : Claimed_1_2 := comes_1 fun _ _ _ _ _ _ h hF => ⟨h.2.1, hF⟩

end Jvm.Pilot.@@N@@
namespace Jvm.Pilot.@@N@@
open Jvm Jvm.ClassFile Sem Op Lib Jvm.Free Jvm.Stand Jvm.Pilot.@@N@@.Jvm.D
/-! MADE BY PROGRAM (witnessworld.py) out of the Statement's table words and the real class files: 11 classes; the members and pool entries that the words name. The judged class is class 1, her method 1. -/
namespace start1
open Jvm.ClassFile
def u (s : String) : CpInfo := .utf8 (stringToUtf16 s)
/-- a pool by its gaps: so many unusable entries, then the entry; so many at the end -/
def gap : Nat → List CpInfo → List CpInfo
  | 0, r => r
  | n + 1, r => .unusable :: gap n r
def poolList (es : List (Nat × CpInfo)) (last : Nat) : List CpInfo := es.foldr (fun e r => gap e.1 (e.2 :: r)) (gap last [])
def pool (es : List (Nat × CpInfo)) (last : Nat) : Array CpInfo := ⟨poolList es last⟩
def fileOf (pool : Array CpInfo) (this : Nat) (attrs : Array Attribute := #[]) (ms : Array MethodInfo := #[]) (fl : Nat := 33) (sup : Nat := 0) (ifs : Array Nat := #[]) (fds : Array FieldInfo := #[]) : ClassFile where
  minorVersion := 0
  majorVersion := 65
  constantPool := pool
  accessFlags := fl
  thisClass := this
  superClass := sup
  interfaces := ifs
  fields := fds
  methods := ms
  attributes := attrs
def plain (name : String) (sup : Option ClassId) : Class where
  name := name
  kind := .ordinary
  loader := none
  accessFlags := 33
  super := sup
  interfaces := #[]
  cf := none
  fields := #[]
  methods := #[]
  instanceTypes := #[]
  staticTypes := #[]
  resolved := #[]
  callSites := []
  init := .initialized
  statics := none
  mirror := none

def pool0 : Array CpInfo := pool [(5, u "<init>"), (0, u "()V"), (1, .class_ 10), (1, u "java/lang/Object")] 113

def k0c0 : Code := { maxStack := 0, maxLocals := 1, code := object_method_1_code, exceptionTable := #[], attributes := #[] }
def k0m0 : Method := { name := "<init>", desc := "()V", sig := { parameters := [], returnType := none }, accessFlags := 1, code := some k0c0 }
/-- java/lang/Object -/
def k0 : Class := { plain "java/lang/Object" none with
  accessFlags := 33
  interfaces := #[]
  cf := some (fileOf pool0 8 #[] #[{ accessFlags := 1, nameIndex := 5, descriptorIndex := 6, attributes := #[] }] 33 0 #[] #[])
  fields := #[]
  methods := #[k0m0]
  instanceTypes := #[]
  staticTypes := #[]
  resolved := Array.replicate 124 none
  statics := none }

def pool1 : Array CpInfo := pool [(2, .class_ 4), (1, u "java/lang/Object"), (0, u "<init>"), (0, u "()V"), (0, .class_ 8), (0, u "MinCircle"), (0, .methodref 7 10), (0, .nameAndType 5 11), (0, u "(II)V"), (0, .methodref 7 13), (0, .nameAndType 14 15), (0, u "addPoint"), (0, u "(II)I"), (0, .methodref 7 17), (0, .nameAndType 18 19), (0, u "solve"), (0, u "()I"), (0, .methodref 7 21), (0, .nameAndType 22 23), (0, u "isSolved"), (0, u "()Z"), (0, .methodref 7 25), (0, .nameAndType 26 27), (0, u "centreXNum"), (0, u "()J"), (0, .methodref 7 29), (0, .nameAndType 30 27), (0, u "centreYNum"), (0, .methodref 7 32), (0, .nameAndType 33 27), (0, u "centreDen"), (0, .methodref 7 35), (0, .nameAndType 36 27), (0, u "radiusSqNum"), (0, .methodref 7 38), (0, .nameAndType 39 19), (0, u "kind"), (0, .methodref 7 41), (0, .nameAndType 42 19), (0, u "boundaryCount"), (0, .class_ 44), (0, u "MinCircleL2"), (2, u "law"), (0, u "(IIII)Z")] 3

def k1m0 : Method := { name := "<init>", desc := "()V", sig := { parameters := [], returnType := none }, accessFlags := 1, code := none }
def k1c1 : Code := { maxStack := 4, maxLocals := 19, code := code, exceptionTable := #[], attributes := #[] }
def k1m1 : Method := { name := "law", desc := "(IIII)Z", sig := { parameters := [.int, .int, .int, .int], returnType := some .boolean }, accessFlags := 9, code := some k1c1 }
/-- MinCircleL2 -/
def k1 : Class := { plain "MinCircleL2" (some 0) with
  accessFlags := 49
  interfaces := #[]
  cf := some (fileOf pool1 43 #[] #[{ accessFlags := 1, nameIndex := 5, descriptorIndex := 6, attributes := #[] }, { accessFlags := 9, nameIndex := 47, descriptorIndex := 48, attributes := #[] }] 49 2 #[] #[])
  fields := #[]
  methods := #[k1m0, k1m1]
  instanceTypes := #[]
  staticTypes := #[]
  resolved := Array.replicate 52 none
  statics := none }

def pool2 : Array CpInfo := pool [(1, .methodref 2 3), (0, .class_ 4), (0, .nameAndType 5 6), (0, u "java/lang/Object"), (0, u "<init>"), (0, u "()V"), (0, .fieldref 8 9), (0, .class_ 10), (0, .nameAndType 11 12), (0, u "MinCircle"), (0, u "xs"), (0, u "[I"), (0, .fieldref 8 14), (0, .nameAndType 15 12), (0, u "ys"), (0, .fieldref 8 17), (0, .nameAndType 18 12), (0, u "order"), (0, .fieldref 8 20), (0, .nameAndType 21 22), (0, u "onB"), (0, u "[Z"), (0, .integer 65535), (0, .fieldref 8 25), (0, .nameAndType 26 27), (0, u "cap"), (0, u "I"), (0, .fieldref 8 29), (0, .nameAndType 30 27), (0, u "rng"), (0, .fieldref 8 32), (0, .nameAndType 33 27), (0, u "n"), (0, .fieldref 8 35), (0, .nameAndType 36 37), (0, u "solved"), (0, u "Z"), (0, .fieldref 8 39), (0, .nameAndType 40 41), (0, u "td"), (0, u "J"), (0, .methodref 8 43), (0, .nameAndType 44 45), (0, u "inRange"), (0, u "(II)Z"), (0, .fieldref 8 47), (0, .nameAndType 48 27), (0, u "bCount"), (0, .methodref 8 50), (0, .nameAndType 51 6), (0, u "shuffle"), (0, .methodref 8 53), (0, .nameAndType 54 6), (0, u "runIncremental"), (0, .methodref 8 56), (0, .nameAndType 57 6), (0, u "finishDisk"), (0, .fieldref 8 59), (0, .nameAndType 60 41), (0, u "cxNum"), (0, .fieldref 8 62), (0, .nameAndType 63 41), (0, u "cyNum"), (0, .fieldref 8 65), (0, .nameAndType 66 41), (0, u "den"), (0, .fieldref 8 68), (0, .nameAndType 69 41), (0, u "rNum"), (0, .fieldref 8 71), (0, .nameAndType 72 27), (0, u "kindV"), (0, .methodref 8 74), (0, .nameAndType 75 76), (0, u "pwFinal"), (0, u "(II)J"), (6, .methodref 8 84), (0, .nameAndType 85 86), (0, u "setPoint"), (0, u "(I)V"), (10, u "(II)V"), (7, .fieldref 8 106), (0, .nameAndType 107 41), (0, u "tnx"), (0, .fieldref 8 109), (0, .nameAndType 110 41), (0, u "tny"), (0, .fieldref 8 112), (0, .nameAndType 113 41), (0, u "trr"), (0, .long 2), (7, .methodref 8 123), (0, .nameAndType 124 125), (0, u "absL"), (0, u "(J)J"), (0, .methodref 8 127), (0, .nameAndType 128 129), (0, u "gcd"), (0, u "(JJ)J"), (0, .methodref 8 131), (0, .nameAndType 132 6), (0, u "recordRadius"), (0, .methodref 8 134), (0, .nameAndType 135 136), (0, u "computeKind"), (0, u "()I"), (0, u "MIN_COORD"), (2, u "MAX_COORD"), (1, u "MIN_CAPACITY"), (1, u "MAX_CAPACITY"), (1, u "MIN_SEED"), (1, u "MAX_SEED"), (0, u "REFUSED"), (1, u "KIND_NONE"), (1, u "KIND_POINT"), (0, u "KIND_PAIR"), (1, u "KIND_TRIPLE"), (1, u "LOC_NONE"), (0, u "LOC_INSIDE"), (0, u "LOC_ON"), (0, u "LOC_OUTSIDE"), (3, u "addPoint"), (0, u "(II)I"), (1, u "()Z"), (1, u "solve"), (3, u "isSolved"), (0, u "centreXNum"), (0, u "()J"), (0, u "centreYNum"), (0, u "centreDen"), (0, u "radiusSqNum"), (0, u "kind"), (0, u "boundaryCount")] 4

def k2c0 : Code := { maxStack := 3, maxLocals := 5, code := prog_1_method_1_code, exceptionTable := #[], attributes := #[] }
def k2m0 : Method := { name := "<init>", desc := "(II)V", sig := { parameters := [.int, .int], returnType := none }, accessFlags := 1, code := some k2c0 }
def k2c1 : Code := { maxStack := 3, maxLocals := 4, code := prog_1_method_2_code, exceptionTable := #[], attributes := #[] }
def k2m1 : Method := { name := "addPoint", desc := "(II)I", sig := { parameters := [.int, .int], returnType := some .int }, accessFlags := 1, code := some k2c1 }
def k2c2 : Code := { maxStack := 2, maxLocals := 1, code := prog_1_method_5_code, exceptionTable := #[], attributes := #[] }
def k2m2 : Method := { name := "solve", desc := "()I", sig := { parameters := [], returnType := some .int }, accessFlags := 1, code := some k2c2 }
def k2c3 : Code := { maxStack := 1, maxLocals := 1, code := prog_1_method_9_code, exceptionTable := #[], attributes := #[] }
def k2m3 : Method := { name := "isSolved", desc := "()Z", sig := { parameters := [], returnType := some .boolean }, accessFlags := 1, code := some k2c3 }
def k2c4 : Code := { maxStack := 2, maxLocals := 1, code := prog_1_method_10_code, exceptionTable := #[], attributes := #[] }
def k2m4 : Method := { name := "centreXNum", desc := "()J", sig := { parameters := [], returnType := some .long }, accessFlags := 1, code := some k2c4 }
def k2c5 : Code := { maxStack := 2, maxLocals := 1, code := prog_1_method_11_code, exceptionTable := #[], attributes := #[] }
def k2m5 : Method := { name := "centreYNum", desc := "()J", sig := { parameters := [], returnType := some .long }, accessFlags := 1, code := some k2c5 }
def k2c6 : Code := { maxStack := 2, maxLocals := 1, code := prog_1_method_12_code, exceptionTable := #[], attributes := #[] }
def k2m6 : Method := { name := "centreDen", desc := "()J", sig := { parameters := [], returnType := some .long }, accessFlags := 1, code := some k2c6 }
def k2c7 : Code := { maxStack := 2, maxLocals := 1, code := prog_1_method_13_code, exceptionTable := #[], attributes := #[] }
def k2m7 : Method := { name := "radiusSqNum", desc := "()J", sig := { parameters := [], returnType := some .long }, accessFlags := 1, code := some k2c7 }
def k2c8 : Code := { maxStack := 1, maxLocals := 1, code := prog_1_method_14_code, exceptionTable := #[], attributes := #[] }
def k2m8 : Method := { name := "kind", desc := "()I", sig := { parameters := [], returnType := some .int }, accessFlags := 1, code := some k2c8 }
def k2c9 : Code := { maxStack := 1, maxLocals := 1, code := prog_1_method_15_code, exceptionTable := #[], attributes := #[] }
def k2m9 : Method := { name := "boundaryCount", desc := "()I", sig := { parameters := [], returnType := some .int }, accessFlags := 1, code := some k2c9 }
def k2c10 : Code := { maxStack := 2, maxLocals := 3, code := prog_1_method_18_code, exceptionTable := #[], attributes := #[] }
def k2m10 : Method := { name := "inRange", desc := "(II)Z", sig := { parameters := [.int, .int], returnType := some .boolean }, accessFlags := 2, code := some k2c10 }
def k2c11 : Code := { maxStack := 4, maxLocals := 4, code := prog_1_method_20_code, exceptionTable := #[], attributes := #[] }
def k2m11 : Method := { name := "shuffle", desc := "()V", sig := { parameters := [], returnType := none }, accessFlags := 2, code := some k2c11 }
def k2c12 : Code := { maxStack := 3, maxLocals := 2, code := prog_1_method_21_code, exceptionTable := #[], attributes := #[] }
def k2m12 : Method := { name := "runIncremental", desc := "()V", sig := { parameters := [], returnType := none }, accessFlags := 2, code := some k2c12 }
def k2c13 : Code := { maxStack := 3, maxLocals := 2, code := prog_1_method_25_code, exceptionTable := #[], attributes := #[] }
def k2m13 : Method := { name := "setPoint", desc := "(I)V", sig := { parameters := [.int], returnType := none }, accessFlags := 2, code := some k2c13 }
def k2c14 : Code := { maxStack := 4, maxLocals := 3, code := prog_1_method_30_code, exceptionTable := #[], attributes := #[] }
def k2m14 : Method := { name := "absL", desc := "(J)J", sig := { parameters := [.long], returnType := some .long }, accessFlags := 2, code := some k2c14 }
def k2c15 : Code := { maxStack := 4, maxLocals := 12, code := prog_1_method_31_code, exceptionTable := #[], attributes := #[] }
def k2m15 : Method := { name := "gcd", desc := "(JJ)J", sig := { parameters := [.long, .long], returnType := some .long }, accessFlags := 2, code := some k2c15 }
def k2c16 : Code := { maxStack := 5, maxLocals := 5, code := prog_1_method_32_code, exceptionTable := #[], attributes := #[] }
def k2m16 : Method := { name := "finishDisk", desc := "()V", sig := { parameters := [], returnType := none }, accessFlags := 2, code := some k2c16 }
def k2c17 : Code := { maxStack := 4, maxLocals := 6, code := prog_1_method_33_code, exceptionTable := #[], attributes := #[] }
def k2m17 : Method := { name := "recordRadius", desc := "()V", sig := { parameters := [], returnType := none }, accessFlags := 2, code := some k2c17 }
def k2c18 : Code := { maxStack := 6, maxLocals := 7, code := prog_1_method_34_code, exceptionTable := #[], attributes := #[] }
def k2m18 : Method := { name := "pwFinal", desc := "(II)J", sig := { parameters := [.int, .int], returnType := some .long }, accessFlags := 2, code := some k2c18 }
def k2c19 : Code := { maxStack := 4, maxLocals := 11, code := prog_1_method_35_code, exceptionTable := #[], attributes := #[] }
def k2m19 : Method := { name := "computeKind", desc := "()I", sig := { parameters := [], returnType := some .int }, accessFlags := 2, code := some k2c19 }
/-- MinCircle -/
def k2 : Class := { plain "MinCircle" (some 0) with
  accessFlags := 49
  interfaces := #[]
  cf := some (fileOf pool2 8 #[] #[{ accessFlags := 1, nameIndex := 5, descriptorIndex := 97, attributes := #[] }, { accessFlags := 1, nameIndex := 165, descriptorIndex := 166, attributes := #[] }, { accessFlags := 1, nameIndex := 170, descriptorIndex := 136, attributes := #[] }, { accessFlags := 1, nameIndex := 174, descriptorIndex := 168, attributes := #[] }, { accessFlags := 1, nameIndex := 175, descriptorIndex := 176, attributes := #[] }, { accessFlags := 1, nameIndex := 177, descriptorIndex := 176, attributes := #[] }, { accessFlags := 1, nameIndex := 178, descriptorIndex := 176, attributes := #[] }, { accessFlags := 1, nameIndex := 179, descriptorIndex := 176, attributes := #[] }, { accessFlags := 1, nameIndex := 180, descriptorIndex := 136, attributes := #[] }, { accessFlags := 1, nameIndex := 181, descriptorIndex := 136, attributes := #[] }, { accessFlags := 2, nameIndex := 44, descriptorIndex := 45, attributes := #[] }, { accessFlags := 2, nameIndex := 51, descriptorIndex := 6, attributes := #[] }, { accessFlags := 2, nameIndex := 54, descriptorIndex := 6, attributes := #[] }, { accessFlags := 2, nameIndex := 85, descriptorIndex := 86, attributes := #[] }, { accessFlags := 2, nameIndex := 124, descriptorIndex := 125, attributes := #[] }, { accessFlags := 2, nameIndex := 128, descriptorIndex := 129, attributes := #[] }, { accessFlags := 2, nameIndex := 57, descriptorIndex := 6, attributes := #[] }, { accessFlags := 2, nameIndex := 132, descriptorIndex := 6, attributes := #[] }, { accessFlags := 2, nameIndex := 75, descriptorIndex := 76, attributes := #[] }, { accessFlags := 2, nameIndex := 135, descriptorIndex := 136, attributes := #[] }] 49 2 #[] #[{ accessFlags := 25, nameIndex := 137, descriptorIndex := 27, attributes := #[] }, { accessFlags := 25, nameIndex := 140, descriptorIndex := 27, attributes := #[] }, { accessFlags := 25, nameIndex := 142, descriptorIndex := 27, attributes := #[] }, { accessFlags := 25, nameIndex := 144, descriptorIndex := 27, attributes := #[] }, { accessFlags := 25, nameIndex := 146, descriptorIndex := 27, attributes := #[] }, { accessFlags := 25, nameIndex := 148, descriptorIndex := 27, attributes := #[] }, { accessFlags := 25, nameIndex := 149, descriptorIndex := 27, attributes := #[] }, { accessFlags := 25, nameIndex := 151, descriptorIndex := 27, attributes := #[] }, { accessFlags := 25, nameIndex := 153, descriptorIndex := 27, attributes := #[] }, { accessFlags := 25, nameIndex := 154, descriptorIndex := 27, attributes := #[] }, { accessFlags := 25, nameIndex := 156, descriptorIndex := 27, attributes := #[] }, { accessFlags := 25, nameIndex := 158, descriptorIndex := 27, attributes := #[] }, { accessFlags := 25, nameIndex := 159, descriptorIndex := 27, attributes := #[] }, { accessFlags := 25, nameIndex := 160, descriptorIndex := 27, attributes := #[] }, { accessFlags := 25, nameIndex := 161, descriptorIndex := 27, attributes := #[] }, { accessFlags := 2, nameIndex := 26, descriptorIndex := 27, attributes := #[] }, { accessFlags := 2, nameIndex := 30, descriptorIndex := 27, attributes := #[] }, { accessFlags := 2, nameIndex := 33, descriptorIndex := 27, attributes := #[] }, { accessFlags := 2, nameIndex := 36, descriptorIndex := 37, attributes := #[] }, { accessFlags := 2, nameIndex := 11, descriptorIndex := 12, attributes := #[] }, { accessFlags := 2, nameIndex := 15, descriptorIndex := 12, attributes := #[] }, { accessFlags := 2, nameIndex := 18, descriptorIndex := 12, attributes := #[] }, { accessFlags := 2, nameIndex := 21, descriptorIndex := 22, attributes := #[] }, { accessFlags := 2, nameIndex := 60, descriptorIndex := 41, attributes := #[] }, { accessFlags := 2, nameIndex := 63, descriptorIndex := 41, attributes := #[] }, { accessFlags := 2, nameIndex := 66, descriptorIndex := 41, attributes := #[] }, { accessFlags := 2, nameIndex := 69, descriptorIndex := 41, attributes := #[] }, { accessFlags := 2, nameIndex := 72, descriptorIndex := 27, attributes := #[] }, { accessFlags := 2, nameIndex := 48, descriptorIndex := 27, attributes := #[] }, { accessFlags := 2, nameIndex := 107, descriptorIndex := 41, attributes := #[] }, { accessFlags := 2, nameIndex := 110, descriptorIndex := 41, attributes := #[] }, { accessFlags := 2, nameIndex := 40, descriptorIndex := 41, attributes := #[] }, { accessFlags := 2, nameIndex := 113, descriptorIndex := 41, attributes := #[] }])
  fields := #[{ name := "MIN_COORD", type := .int, accessFlags := 25, slot := 0, constantValue := 0 }, { name := "MAX_COORD", type := .int, accessFlags := 25, slot := 1, constantValue := 0 }, { name := "MIN_CAPACITY", type := .int, accessFlags := 25, slot := 2, constantValue := 0 }, { name := "MAX_CAPACITY", type := .int, accessFlags := 25, slot := 3, constantValue := 0 }, { name := "MIN_SEED", type := .int, accessFlags := 25, slot := 4, constantValue := 0 }, { name := "MAX_SEED", type := .int, accessFlags := 25, slot := 5, constantValue := 0 }, { name := "REFUSED", type := .int, accessFlags := 25, slot := 6, constantValue := 0 }, { name := "KIND_NONE", type := .int, accessFlags := 25, slot := 7, constantValue := 0 }, { name := "KIND_POINT", type := .int, accessFlags := 25, slot := 8, constantValue := 0 }, { name := "KIND_PAIR", type := .int, accessFlags := 25, slot := 9, constantValue := 0 }, { name := "KIND_TRIPLE", type := .int, accessFlags := 25, slot := 10, constantValue := 0 }, { name := "LOC_NONE", type := .int, accessFlags := 25, slot := 11, constantValue := 0 }, { name := "LOC_INSIDE", type := .int, accessFlags := 25, slot := 12, constantValue := 0 }, { name := "LOC_ON", type := .int, accessFlags := 25, slot := 13, constantValue := 0 }, { name := "LOC_OUTSIDE", type := .int, accessFlags := 25, slot := 14, constantValue := 0 }, { name := "cap", type := .int, accessFlags := 2, slot := 0, constantValue := 0 }, { name := "rng", type := .int, accessFlags := 2, slot := 1, constantValue := 0 }, { name := "n", type := .int, accessFlags := 2, slot := 2, constantValue := 0 }, { name := "solved", type := .boolean, accessFlags := 2, slot := 3, constantValue := 0 }, { name := "xs", type := (.array .int), accessFlags := 2, slot := 4, constantValue := 0 }, { name := "ys", type := (.array .int), accessFlags := 2, slot := 5, constantValue := 0 }, { name := "order", type := (.array .int), accessFlags := 2, slot := 6, constantValue := 0 }, { name := "onB", type := (.array .boolean), accessFlags := 2, slot := 7, constantValue := 0 }, { name := "cxNum", type := .long, accessFlags := 2, slot := 8, constantValue := 0 }, { name := "cyNum", type := .long, accessFlags := 2, slot := 9, constantValue := 0 }, { name := "den", type := .long, accessFlags := 2, slot := 10, constantValue := 0 }, { name := "rNum", type := .long, accessFlags := 2, slot := 11, constantValue := 0 }, { name := "kindV", type := .int, accessFlags := 2, slot := 12, constantValue := 0 }, { name := "bCount", type := .int, accessFlags := 2, slot := 13, constantValue := 0 }, { name := "tnx", type := .long, accessFlags := 2, slot := 14, constantValue := 0 }, { name := "tny", type := .long, accessFlags := 2, slot := 15, constantValue := 0 }, { name := "td", type := .long, accessFlags := 2, slot := 16, constantValue := 0 }, { name := "trr", type := .long, accessFlags := 2, slot := 17, constantValue := 0 }]
  methods := #[k2m0, k2m1, k2m2, k2m3, k2m4, k2m5, k2m6, k2m7, k2m8, k2m9, k2m10, k2m11, k2m12, k2m13, k2m14, k2m15, k2m16, k2m17, k2m18, k2m19]
  instanceTypes := #[.int, .int, .int, .boolean, (.array .int), (.array .int), (.array .int), (.array .boolean), .long, .long, .long, .long, .int, .int, .long, .long, .long, .long]
  staticTypes := #[.int, .int, .int, .int, .int, .int, .int, .int, .int, .int, .int, .int, .int, .int, .int]
  resolved := Array.replicate 186 none
  statics := none }

def pool3 : Array CpInfo := pool [(1, u "java/lang/Cloneable"), (0, .class_ 1), (0, u "java/lang/Object"), (0, .class_ 3)] 3

/-- java/lang/Cloneable -/
def k3 : Class := { plain "java/lang/Cloneable" (some 0) with
  accessFlags := 1537
  interfaces := #[]
  cf := some (fileOf pool3 2 #[] #[] 1537 4 #[] #[])
  fields := #[]
  methods := #[]
  instanceTypes := #[]
  staticTypes := #[]
  resolved := Array.replicate 8 none
  statics := none }

def pool4 : Array CpInfo := pool [(1, u "java/io/Serializable"), (0, .class_ 1), (0, u "java/lang/Object"), (0, .class_ 3)] 3

/-- java/io/Serializable -/
def k4 : Class := { plain "java/io/Serializable" (some 0) with
  accessFlags := 1537
  interfaces := #[]
  cf := some (fileOf pool4 2 #[] #[] 1537 4 #[] #[])
  fields := #[]
  methods := #[]
  instanceTypes := #[]
  staticTypes := #[]
  resolved := Array.replicate 8 none
  statics := none }

/-- the primitive boolean -/
def k5 : Class := { plain "boolean" none with kind := .primitive 'Z', accessFlags := 0x411 }
/-- [Z -/
def k6 : Class := { plain "[Z" (some 0) with kind := .array 5 .boolean, interfaces := #[3, 4], accessFlags := 1041 }

/-- the primitive byte -/
def k7 : Class := { plain "byte" none with kind := .primitive 'B', accessFlags := 0x411 }
/-- [B -/
def k8 : Class := { plain "[B" (some 0) with kind := .array 7 .byte, interfaces := #[3, 4], accessFlags := 1041 }

/-- the primitive int -/
def k9 : Class := { plain "int" none with kind := .primitive 'I', accessFlags := 0x411 }
/-- [I -/
def k10 : Class := { plain "[I" (some 0) with kind := .array 9 .int, interfaces := #[3, 4], accessFlags := 1041 }

def heap : Heap := #[]
def classes : Array Class := #[k0, k1, k2, k3, k4, k5, k6, k7, k8, k9, k10]
def interned : List (Array UInt16 × Addr) := []
def slotsUsed : Nat := 0
def theMethod : MethodId := ⟨1, 1⟩
def args0 : Array Value := #[.int 5, .int 5, .int 5, .int 5]
def aboutOver (below : List Frame) : State where
  vm := { classes := classes, interned := interned.toArray }
  heap := heap
  slotsUsed := slotsUsed
  threads := #[{ frames := .invoking theMethod args0 :: below }]
def below0 : List Frame := [.native { method := ⟨0, 0⟩, args := #[] }]
def about1 : State := aboutOver below0
def p0 : Program := .bare "" "" ""
def e0 : Env := launch0.env 0 0 0
theorem w_frames : about1.frames = Frame.invoking theMethod args0 :: below0 := rfl
set_option maxRecDepth 65536 in
theorem w_args : argsFit about1.vm theMethod args0 = true := by decide +kernel
set_option maxRecDepth 65536 in
theorem w_heap : heapFits about1 = true := by decide +kernel
set_option maxRecDepth 65536 in
theorem w_runnable : about1.curStatus? = some .runnable := by decide +kernel
set_option maxRecDepth 65536 in
theorem w_alone : about1.alone = true := by decide +kernel
set_option maxRecDepth 65536 in
theorem w_named : about1.methodNamed? x = some theMethod := by decide +kernel
set_option maxRecDepth 65536 in
theorem w_hears : about1.hears theMethod below0 = true := by decide +kernel
set_option maxRecDepth 65536 in
theorem w_ripe : about1.ripe theMethod args0 below0 = true := by decide +kernel
theorem w_running : about1.status = .running := rfl
set_option maxRecDepth 65536 in
theorem w_room : about1.hasRoom e0.platform room_1 = true :=
  launch0.hasRoom_least _ room_1 (by decide +kernel) (by decide +kernel) (by decide +kernel) (by decide +kernel) (by decide +kernel) (by decide +kernel)
theorem allAtoms_all (ts : List Jvm.Cond) (a : Array Jvm.Value) (st : Jvm.State) : (allAtoms ts).before a st = ts.all (fun c => c.before a st) := by
  induction ts with
  | nil => rfl
  | cons c t ih =>
    show (Jvm.Cond.and c (allAtoms t)).before a st = _
    rw [Jvm.Cond.before_and, ih, List.all_cons]
def words1 : List Jvm.Cond := Jvm.Cond.code x code maxLocals ret :: tables_1
/-- a 'code' word, met by the world's own term for the bytes: nothing is compared byte by byte -/
theorem code_word {y : MethodName} {bytes : ByteArray} {mx : Nat} {rt : Option FieldType} {a : Array Value} {s : State} {m : MethodId} {meth : Method} {c : Code} (h1 : s.methodNamed? y = some m) (h2 : s.vm.method? m = some meth) (h3 : meth.code = some c) (h4 : c.code = bytes)
    (h5 : (c.maxLocals == mx && c.exceptionTable.isEmpty && decide (c.maxStack ≤ mostOperands) && decide (meth.sig.returnType = rt) && !meth.locks && decide (parseMethodDescriptor y.desc = some meth.sig)) = true) : (Jvm.Cond.code y bytes mx rt).before a s = true := by
  simp only [Bool.and_eq_true, beq_iff_eq, Bool.not_eq_true', decide_eq_true_eq] at h5
  obtain ⟨⟨⟨⟨⟨g1, g2⟩, g3⟩, g4⟩, g5⟩, g6⟩ := h5
  simp [Cond.before, Cond.holds, Cond.value, h1, h2, h3, h4, g1, g2, g3, g4, g5, g6]
def isCode : Jvm.Cond → Bool
  | .code _ _ _ _ => true
  | _ => false
theorem all_split {L : List Jvm.Cond} {P : Jvm.Cond → Bool} (h1 : L.all (fun c => isCode c || P c) = true) (h2 : ∀ c ∈ L.filter isCode, P c = true) : L.all P = true := by
  refine List.all_eq_true.mpr fun c hc => ?_
  have h := List.all_eq_true.mp h1 c hc
  rcases Bool.eq_false_or_eq_true (isCode c) with hi | hi
  · exact h2 c (List.mem_filter.mpr ⟨hc, hi⟩)
  · simpa [hi] using h
set_option maxRecDepth 65536 in
theorem w_c0 : (Jvm.Cond.code x code maxLocals ret).before args0 about1 = true := code_word (m := ⟨1, 1⟩) (meth := k1m1) (c := k1c1) (by decide +kernel) rfl rfl rfl (by decide +kernel)
set_option maxRecDepth 65536 in
theorem w_c1 : (Jvm.Cond.code ({ cls := "MinCircle", name := "<init>", desc := "(II)V" } : Jvm.MethodName) prog_1_method_1_code (5 : Nat) (Option.none : Option Jvm.ClassFile.FieldType)).before args0 about1 = true := code_word (m := ⟨2, 0⟩) (meth := k2m0) (c := k2c0) (by decide +kernel) rfl rfl rfl (by decide +kernel)
set_option maxRecDepth 65536 in
theorem w_c2 : (Jvm.Cond.code ({ cls := "java/lang/Object", name := "<init>", desc := "()V" } : Jvm.MethodName) object_method_1_code (1 : Nat) (Option.none : Option Jvm.ClassFile.FieldType)).before args0 about1 = true := code_word (m := ⟨0, 0⟩) (meth := k0m0) (c := k0c0) (by decide +kernel) rfl rfl rfl (by decide +kernel)
set_option maxRecDepth 65536 in
theorem w_c3 : (Jvm.Cond.code ({ cls := "MinCircle", name := "addPoint", desc := "(II)I" } : Jvm.MethodName) prog_1_method_2_code (4 : Nat) (Option.some Jvm.ClassFile.FieldType.int)).before args0 about1 = true := code_word (m := ⟨2, 1⟩) (meth := k2m1) (c := k2c1) (by decide +kernel) rfl rfl rfl (by decide +kernel)
set_option maxRecDepth 65536 in
theorem w_c4 : (Jvm.Cond.code ({ cls := "MinCircle", name := "inRange", desc := "(II)Z" } : Jvm.MethodName) prog_1_method_18_code (3 : Nat) (Option.some Jvm.ClassFile.FieldType.boolean)).before args0 about1 = true := code_word (m := ⟨2, 10⟩) (meth := k2m10) (c := k2c10) (by decide +kernel) rfl rfl rfl (by decide +kernel)
set_option maxRecDepth 65536 in
theorem w_c5 : (Jvm.Cond.code ({ cls := "MinCircle", name := "solve", desc := "()I" } : Jvm.MethodName) prog_1_method_5_code (1 : Nat) (Option.some Jvm.ClassFile.FieldType.int)).before args0 about1 = true := code_word (m := ⟨2, 2⟩) (meth := k2m2) (c := k2c2) (by decide +kernel) rfl rfl rfl (by decide +kernel)
set_option maxRecDepth 65536 in
theorem w_c6 : (Jvm.Cond.code ({ cls := "MinCircle", name := "shuffle", desc := "()V" } : Jvm.MethodName) prog_1_method_20_code (4 : Nat) (Option.none : Option Jvm.ClassFile.FieldType)).before args0 about1 = true := code_word (m := ⟨2, 11⟩) (meth := k2m11) (c := k2c11) (by decide +kernel) rfl rfl rfl (by decide +kernel)
set_option maxRecDepth 65536 in
theorem w_c7 : (Jvm.Cond.code ({ cls := "MinCircle", name := "runIncremental", desc := "()V" } : Jvm.MethodName) prog_1_method_21_code (2 : Nat) (Option.none : Option Jvm.ClassFile.FieldType)).before args0 about1 = true := code_word (m := ⟨2, 12⟩) (meth := k2m12) (c := k2c12) (by decide +kernel) rfl rfl rfl (by decide +kernel)
set_option maxRecDepth 65536 in
theorem w_c8 : (Jvm.Cond.code ({ cls := "MinCircle", name := "setPoint", desc := "(I)V" } : Jvm.MethodName) prog_1_method_25_code (2 : Nat) (Option.none : Option Jvm.ClassFile.FieldType)).before args0 about1 = true := code_word (m := ⟨2, 13⟩) (meth := k2m13) (c := k2c13) (by decide +kernel) rfl rfl rfl (by decide +kernel)
set_option maxRecDepth 65536 in
theorem w_c9 : (Jvm.Cond.code ({ cls := "MinCircle", name := "finishDisk", desc := "()V" } : Jvm.MethodName) prog_1_method_32_code (5 : Nat) (Option.none : Option Jvm.ClassFile.FieldType)).before args0 about1 = true := code_word (m := ⟨2, 16⟩) (meth := k2m16) (c := k2c16) (by decide +kernel) rfl rfl rfl (by decide +kernel)
set_option maxRecDepth 65536 in
theorem w_c10 : (Jvm.Cond.code ({ cls := "MinCircle", name := "gcd", desc := "(JJ)J" } : Jvm.MethodName) prog_1_method_31_code (12 : Nat) (Option.some Jvm.ClassFile.FieldType.long)).before args0 about1 = true := code_word (m := ⟨2, 15⟩) (meth := k2m15) (c := k2c15) (by decide +kernel) rfl rfl rfl (by decide +kernel)
set_option maxRecDepth 65536 in
theorem w_c11 : (Jvm.Cond.code ({ cls := "MinCircle", name := "absL", desc := "(J)J" } : Jvm.MethodName) prog_1_method_30_code (3 : Nat) (Option.some Jvm.ClassFile.FieldType.long)).before args0 about1 = true := code_word (m := ⟨2, 14⟩) (meth := k2m14) (c := k2c14) (by decide +kernel) rfl rfl rfl (by decide +kernel)
set_option maxRecDepth 65536 in
theorem w_c12 : (Jvm.Cond.code ({ cls := "MinCircle", name := "recordRadius", desc := "()V" } : Jvm.MethodName) prog_1_method_33_code (6 : Nat) (Option.none : Option Jvm.ClassFile.FieldType)).before args0 about1 = true := code_word (m := ⟨2, 17⟩) (meth := k2m17) (c := k2c17) (by decide +kernel) rfl rfl rfl (by decide +kernel)
set_option maxRecDepth 65536 in
theorem w_c13 : (Jvm.Cond.code ({ cls := "MinCircle", name := "pwFinal", desc := "(II)J" } : Jvm.MethodName) prog_1_method_34_code (7 : Nat) (Option.some Jvm.ClassFile.FieldType.long)).before args0 about1 = true := code_word (m := ⟨2, 18⟩) (meth := k2m18) (c := k2c18) (by decide +kernel) rfl rfl rfl (by decide +kernel)
set_option maxRecDepth 65536 in
theorem w_c14 : (Jvm.Cond.code ({ cls := "MinCircle", name := "computeKind", desc := "()I" } : Jvm.MethodName) prog_1_method_35_code (11 : Nat) (Option.some Jvm.ClassFile.FieldType.int)).before args0 about1 = true := code_word (m := ⟨2, 19⟩) (meth := k2m19) (c := k2c19) (by decide +kernel) rfl rfl rfl (by decide +kernel)
set_option maxRecDepth 65536 in
theorem w_c15 : (Jvm.Cond.code ({ cls := "MinCircle", name := "isSolved", desc := "()Z" } : Jvm.MethodName) prog_1_method_9_code (1 : Nat) (Option.some Jvm.ClassFile.FieldType.boolean)).before args0 about1 = true := code_word (m := ⟨2, 3⟩) (meth := k2m3) (c := k2c3) (by decide +kernel) rfl rfl rfl (by decide +kernel)
set_option maxRecDepth 65536 in
theorem w_c16 : (Jvm.Cond.code ({ cls := "MinCircle", name := "centreXNum", desc := "()J" } : Jvm.MethodName) prog_1_method_10_code (1 : Nat) (Option.some Jvm.ClassFile.FieldType.long)).before args0 about1 = true := code_word (m := ⟨2, 4⟩) (meth := k2m4) (c := k2c4) (by decide +kernel) rfl rfl rfl (by decide +kernel)
set_option maxRecDepth 65536 in
theorem w_c17 : (Jvm.Cond.code ({ cls := "MinCircle", name := "centreYNum", desc := "()J" } : Jvm.MethodName) prog_1_method_11_code (1 : Nat) (Option.some Jvm.ClassFile.FieldType.long)).before args0 about1 = true := code_word (m := ⟨2, 5⟩) (meth := k2m5) (c := k2c5) (by decide +kernel) rfl rfl rfl (by decide +kernel)
set_option maxRecDepth 65536 in
theorem w_c18 : (Jvm.Cond.code ({ cls := "MinCircle", name := "centreDen", desc := "()J" } : Jvm.MethodName) prog_1_method_12_code (1 : Nat) (Option.some Jvm.ClassFile.FieldType.long)).before args0 about1 = true := code_word (m := ⟨2, 6⟩) (meth := k2m6) (c := k2c6) (by decide +kernel) rfl rfl rfl (by decide +kernel)
set_option maxRecDepth 65536 in
theorem w_c19 : (Jvm.Cond.code ({ cls := "MinCircle", name := "radiusSqNum", desc := "()J" } : Jvm.MethodName) prog_1_method_13_code (1 : Nat) (Option.some Jvm.ClassFile.FieldType.long)).before args0 about1 = true := code_word (m := ⟨2, 7⟩) (meth := k2m7) (c := k2c7) (by decide +kernel) rfl rfl rfl (by decide +kernel)
set_option maxRecDepth 65536 in
theorem w_c20 : (Jvm.Cond.code ({ cls := "MinCircle", name := "kind", desc := "()I" } : Jvm.MethodName) prog_1_method_14_code (1 : Nat) (Option.some Jvm.ClassFile.FieldType.int)).before args0 about1 = true := code_word (m := ⟨2, 8⟩) (meth := k2m8) (c := k2c8) (by decide +kernel) rfl rfl rfl (by decide +kernel)
set_option maxRecDepth 65536 in
theorem w_c21 : (Jvm.Cond.code ({ cls := "MinCircle", name := "boundaryCount", desc := "()I" } : Jvm.MethodName) prog_1_method_15_code (1 : Nat) (Option.some Jvm.ClassFile.FieldType.int)).before args0 about1 = true := code_word (m := ⟨2, 9⟩) (meth := k2m9) (c := k2c9) (by decide +kernel) rfl rfl rfl (by decide +kernel)
def codes1 : List Jvm.Cond := [Jvm.Cond.code x code maxLocals ret, Jvm.Cond.code ({ cls := "MinCircle", name := "<init>", desc := "(II)V" } : Jvm.MethodName) prog_1_method_1_code (5 : Nat) (Option.none : Option Jvm.ClassFile.FieldType), Jvm.Cond.code ({ cls := "java/lang/Object", name := "<init>", desc := "()V" } : Jvm.MethodName) object_method_1_code (1 : Nat) (Option.none : Option Jvm.ClassFile.FieldType), Jvm.Cond.code ({ cls := "MinCircle", name := "addPoint", desc := "(II)I" } : Jvm.MethodName) prog_1_method_2_code (4 : Nat) (Option.some Jvm.ClassFile.FieldType.int), Jvm.Cond.code ({ cls := "MinCircle", name := "inRange", desc := "(II)Z" } : Jvm.MethodName) prog_1_method_18_code (3 : Nat) (Option.some Jvm.ClassFile.FieldType.boolean), Jvm.Cond.code ({ cls := "MinCircle", name := "solve", desc := "()I" } : Jvm.MethodName) prog_1_method_5_code (1 : Nat) (Option.some Jvm.ClassFile.FieldType.int), Jvm.Cond.code ({ cls := "MinCircle", name := "shuffle", desc := "()V" } : Jvm.MethodName) prog_1_method_20_code (4 : Nat) (Option.none : Option Jvm.ClassFile.FieldType), Jvm.Cond.code ({ cls := "MinCircle", name := "runIncremental", desc := "()V" } : Jvm.MethodName) prog_1_method_21_code (2 : Nat) (Option.none : Option Jvm.ClassFile.FieldType), Jvm.Cond.code ({ cls := "MinCircle", name := "setPoint", desc := "(I)V" } : Jvm.MethodName) prog_1_method_25_code (2 : Nat) (Option.none : Option Jvm.ClassFile.FieldType), Jvm.Cond.code ({ cls := "MinCircle", name := "finishDisk", desc := "()V" } : Jvm.MethodName) prog_1_method_32_code (5 : Nat) (Option.none : Option Jvm.ClassFile.FieldType), Jvm.Cond.code ({ cls := "MinCircle", name := "gcd", desc := "(JJ)J" } : Jvm.MethodName) prog_1_method_31_code (12 : Nat) (Option.some Jvm.ClassFile.FieldType.long), Jvm.Cond.code ({ cls := "MinCircle", name := "absL", desc := "(J)J" } : Jvm.MethodName) prog_1_method_30_code (3 : Nat) (Option.some Jvm.ClassFile.FieldType.long), Jvm.Cond.code ({ cls := "MinCircle", name := "recordRadius", desc := "()V" } : Jvm.MethodName) prog_1_method_33_code (6 : Nat) (Option.none : Option Jvm.ClassFile.FieldType), Jvm.Cond.code ({ cls := "MinCircle", name := "pwFinal", desc := "(II)J" } : Jvm.MethodName) prog_1_method_34_code (7 : Nat) (Option.some Jvm.ClassFile.FieldType.long), Jvm.Cond.code ({ cls := "MinCircle", name := "computeKind", desc := "()I" } : Jvm.MethodName) prog_1_method_35_code (11 : Nat) (Option.some Jvm.ClassFile.FieldType.int), Jvm.Cond.code ({ cls := "MinCircle", name := "isSolved", desc := "()Z" } : Jvm.MethodName) prog_1_method_9_code (1 : Nat) (Option.some Jvm.ClassFile.FieldType.boolean), Jvm.Cond.code ({ cls := "MinCircle", name := "centreXNum", desc := "()J" } : Jvm.MethodName) prog_1_method_10_code (1 : Nat) (Option.some Jvm.ClassFile.FieldType.long), Jvm.Cond.code ({ cls := "MinCircle", name := "centreYNum", desc := "()J" } : Jvm.MethodName) prog_1_method_11_code (1 : Nat) (Option.some Jvm.ClassFile.FieldType.long), Jvm.Cond.code ({ cls := "MinCircle", name := "centreDen", desc := "()J" } : Jvm.MethodName) prog_1_method_12_code (1 : Nat) (Option.some Jvm.ClassFile.FieldType.long), Jvm.Cond.code ({ cls := "MinCircle", name := "radiusSqNum", desc := "()J" } : Jvm.MethodName) prog_1_method_13_code (1 : Nat) (Option.some Jvm.ClassFile.FieldType.long), Jvm.Cond.code ({ cls := "MinCircle", name := "kind", desc := "()I" } : Jvm.MethodName) prog_1_method_14_code (1 : Nat) (Option.some Jvm.ClassFile.FieldType.int), Jvm.Cond.code ({ cls := "MinCircle", name := "boundaryCount", desc := "()I" } : Jvm.MethodName) prog_1_method_15_code (1 : Nat) (Option.some Jvm.ClassFile.FieldType.int)]
set_option maxRecDepth 65536 in
theorem codes_eq : words1.filter isCode = codes1 := rfl
theorem w_codes : ∀ c ∈ words1.filter isCode, c.before args0 about1 = true := by
  rw [codes_eq]
  intro c hc
  simp only [codes1, List.mem_cons, List.not_mem_nil, or_false] at hc
  rcases hc with rfl | rfl | rfl | rfl | rfl | rfl | rfl | rfl | rfl | rfl | rfl | rfl | rfl | rfl | rfl | rfl | rfl | rfl | rfl | rfl | rfl | rfl
  · exact w_c0
  · exact w_c1
  · exact w_c2
  · exact w_c3
  · exact w_c4
  · exact w_c5
  · exact w_c6
  · exact w_c7
  · exact w_c8
  · exact w_c9
  · exact w_c10
  · exact w_c11
  · exact w_c12
  · exact w_c13
  · exact w_c14
  · exact w_c15
  · exact w_c16
  · exact w_c17
  · exact w_c18
  · exact w_c19
  · exact w_c20
  · exact w_c21
set_option maxRecDepth 65536 in
theorem w_t1 : (words1.take 24).all (fun c => isCode c || c.before args0 about1) = true := by decide +kernel
set_option maxRecDepth 65536 in
theorem w_t2 : ((words1.drop 24).take 24).all (fun c => isCode c || c.before args0 about1) = true := by decide +kernel
set_option maxRecDepth 65536 in
theorem w_t3 : (((words1.drop 24).drop 24).take 24).all (fun c => isCode c || c.before args0 about1) = true := by decide +kernel
set_option maxRecDepth 65536 in
theorem w_t4 : ((((words1.drop 24).drop 24).drop 24).take 24).all (fun c => isCode c || c.before args0 about1) = true := by decide +kernel
set_option maxRecDepth 65536 in
theorem w_t5 : (((((words1.drop 24).drop 24).drop 24).drop 24).take 24).all (fun c => isCode c || c.before args0 about1) = true := by decide +kernel
set_option maxRecDepth 65536 in
theorem w_t6 : (((((words1.drop 24).drop 24).drop 24).drop 24).drop 24).all (fun c => isCode c || c.before args0 about1) = true := by decide +kernel
theorem w_tables : (allAtoms (Jvm.Cond.code x code maxLocals ret :: tables_1)).before args0 about1 = true := by
  rw [allAtoms_all]
  show words1.all (fun c => c.before args0 about1) = true
  refine all_split ?_ w_codes
  rw [← List.take_append_drop 24 words1, List.all_append, w_t1, ← List.take_append_drop 24 (words1.drop 24), List.all_append, w_t2, ← List.take_append_drop 24 ((words1.drop 24).drop 24), List.all_append, w_t3, ← List.take_append_drop 24 (((words1.drop 24).drop 24).drop 24), List.all_append, w_t4, ← List.take_append_drop 24 ((((words1.drop 24).drop 24).drop 24).drop 24), List.all_append, w_t5, w_t6]
  rfl
set_option maxRecDepth 65536 in
theorem w_case : (Jvm.Cond.and given_1 narrow_1).before args0 about1 = true := by decide +kernel
theorem w_applies : (headSpec (Jvm.Cond.code x code maxLocals ret :: tables_1) room_1).applies x e0.platform about1 = true :=
  (Spec.applies_iff w_frames).mpr ⟨w_running, w_runnable, w_alone, w_named, w_hears, w_ripe, w_room, w_tables⟩
theorem atStart : AtStart classFile x code maxLocals ret World_1 tables_1 room_1 Calls_1 rest_1 Pre_1 launch0 p0 e0 about1 theMethod args0 below0 :=
  ⟨lists_1, trivial, launch0.admits_env _ _ _, launch0.least_env, fairChoices_fair.cas, fairChoices_fair.clock, w_frames, w_args, w_heap, w_applies, trivial, trivial, w_case⟩
end start1
theorem witness_1 : WitnessClaimed_1 := ⟨start1.p0, start1.e0, start1.about1, start1.theMethod, start1.args0, start1.below0, start1.atStart⟩
end Jvm.Pilot.@@N@@
