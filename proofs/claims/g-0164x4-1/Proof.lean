import JvmDerived
import JvmDerived.Pilot.@@N@@Statement
import JvmDerived.Pilot.@@N@@Code
set_option linter.unusedVariables false
set_option linter.unusedSimpArgs false
namespace Jvm.RoadKit
open Sem ClassFile Op Lib Jvm.Stand Jvm.Free Jvm.LawKit
section New
variable {p : Program} {l : Launch} {e : Env} {R : Room} {s : State} {m : MethodId} {args : Array Value} {below : List Frame} {meth : Method} {c : Code} {T : State} {locs : List Loc} {cells slots : Nat}
theorem retI (X : Stand p l e R s m args below meth c T locs cells slots) (hx : p.tables.exec = Jvm.exec) {pc : Nat} {Ls : Array Slot} {z : Int32} {rest : List Value} (hret : meth.sig.returnType = some .int) (hd : decode c.code pc = .ok (.ireturn, 1)) {fs : List Frame}
    (hl : ∀ (f : JFrame) (acts : List Action), f.method = m → f.locked = none → f.entered = [] → (doReturn e (T.setTop f) acts (some (.int z))).1 = T.setFrames fs) : Steps p.tables e below (T.setTop (mkF m pc Ls (.int z :: rest))) (T.setFrames fs) := by
  have hm' : T.vm.method? m = some meth := X.method'
  have hn : narrow .int (.int z) = .int z := rfl
  show Steps p.tables e below (T.setTop { method := m, pc := pc, locals := Ls, stack := _ :: rest, locked := none }) _
  jvm_step X.here [X.here.top, hx, hd, hm', hret, hn]
  first | (intro acts; rw [hl _ acts rfl rfl rfl]) | rw [hl _ _ rfl rfl rfl]
  exact Steps.refl _
end New
end Jvm.RoadKit
namespace Jvm.Own
abbrev R32 (x : Int) : Prop := -2147483648 ≤ x ∧ x < 2147483648
abbrev R64 (x : Int) : Prop := -9223372036854775808 ≤ x ∧ x < 9223372036854775808
def w32 (x : Int) : Int := Int.bmod x 4294967296
def w64 (x : Int) : Int := Int.bmod x 18446744073709551616
def w8 (x : Int) : Int := Int.bmod x 256
def and32 (x y : Int) : Int := (Int32.ofInt x &&& Int32.ofInt y).toInt
def or32 (x y : Int) : Int := (Int32.ofInt x ||| Int32.ofInt y).toInt
def xor32 (x y : Int) : Int := (Int32.ofInt x ^^^ Int32.ofInt y).toInt
def and64 (x y : Int) : Int := (Int64.ofInt x &&& Int64.ofInt y).toInt
def or64 (x y : Int) : Int := (Int64.ofInt x ||| Int64.ofInt y).toInt
def xor64 (x y : Int) : Int := (Int64.ofInt x ^^^ Int64.ofInt y).toInt
def shl32 (x y : Int) : Int := (Int32.ofInt x <<< (Int32.ofInt y &&& 31)).toInt
def shr32 (x y : Int) : Int := (Int32.ofInt x >>> (Int32.ofInt y &&& 31)).toInt
def ushr32 (x y : Int) : Int := (((Int32.ofInt x).toUInt32 >>> (Int32.ofInt y &&& 31).toUInt32).toInt32).toInt
def shl64 (x y : Int) : Int := (Int64.ofInt x <<< ((Int32.ofInt y).toInt64 &&& 63)).toInt
def shr64 (x y : Int) : Int := (Int64.ofInt x >>> ((Int32.ofInt y).toInt64 &&& 63)).toInt
def ushr64 (x y : Int) : Int := (((Int64.ofInt x).toUInt64 >>> ((Int32.ofInt y).toInt64.toUInt64 &&& Int64.toUInt64 63)).toInt64).toInt
abbrev Mo := Nat → Nat → Int
def zM : Mo := fun _ _ => 0
def upd (O : Mo) (j i : Nat) (x : Int) : Mo := fun j' i' => if j' = j ∧ i' = i then x else O j' i'
theorem upd_same (O : Mo) (j i : Nat) (x : Int) : upd O j i x j i = x := by simp [upd]
theorem upd_ne {O : Mo} {j i j' i' : Nat} {x : Int} (h : ¬ (j' = j ∧ i' = i)) : upd O j i x j' i' = O j' i' := by simp only [upd]; rw [if_neg h]
def lt {α : Type} (e : Int) (K : Int → α) : α := K e
def loop {σ ρ : Type} (body : σ → Option (σ ⊕ ρ)) : Nat → σ → Option ρ
  | 0, _ => none
  | n + 1, s => (body s).bind (Sum.elim (loop body n) some)
theorem lt_in {α : Type} {e : Int} {K : Int → α} {r : α} {G : Int → Prop} (hf : lt e K = r) (h : ∀ x, K x = r → G x) : G e := h e hf
theorem bind_in {α β : Type} {x : Option α} {k : α → Option β} {r : β} {Q : Prop} (hf : x.bind k = some r) (h : ∀ a, x = some a → k a = some r → Q) : Q := by
  cases x with
  | none => cases hf
  | some a => exact h a rfl hf
theorem loop_ind {σ ρ : Type} {body : σ → Option (σ ⊕ ρ)} {Gs : σ → Prop} {Gr : ρ → Prop} (hb : ∀ s x, body s = some x → Sum.elim Gs Gr x → Gs s) : ∀ n s r, loop body n s = some r → Gr r → Gs s
  | 0, s, r, h, _ => by cases h
  | n + 1, s, r, h, k => by
    unfold loop at h
    cases hx : body s with
    | none => rw [hx] at h; cases h
    | some x =>
      rw [hx] at h
      cases x with
      | inl s' => exact hb s _ hx (loop_ind hb n s' r h k)
      | inr r' =>
        have h' : some r' = some r := h
        cases h'
        exact hb s _ hx k
theorem loop_go {σ ρ β : Type} {body : σ → Option (σ ⊕ ρ)} {n : Nat} {s0 : σ} {k : ρ → Option β} {res : β} {Gs : σ → Prop} {Gr : ρ → Prop} (hf : (loop body n s0).bind k = some res)
    (hb : ∀ s x, body s = some x → Sum.elim Gs Gr x → Gs s) (hk : ∀ r, k r = some res → Gr r) : Gs s0 :=
  bind_in hf fun r h1 h2 => loop_ind hb n s0 r h1 (hk r h2)
theorem ifp {α : Type} {c : Prop} [inst : Decidable c] {a b r : α} (hc : c) (hf : (if c then a else b) = r) : a = r := (if_pos hc).symm.trans hf
theorem ifn {α : Type} {c : Prop} [inst : Decidable c] {a b r : α} (hc : ¬ c) (hf : (if c then a else b) = r) : b = r := (if_neg hc).symm.trans hf
theorem okb {α : Type} {c : Prop} [inst : Decidable c] {a : Option α} {r : α} (hf : (if c then a else none) = some r) : c := by
  by_cases h : c
  · exact h
  · rw [if_neg h] at hf; cases hf
theorem okn {α : Type} {c : Prop} [inst : Decidable c] {a : Option α} {r : α} (hf : (if c then none else a) = some r) : ¬ c := by
  by_cases h : c
  · rw [if_pos h] at hf; cases hf
  · exact h
end Jvm.Own

namespace Jvm.Own
open Sem ClassFile Op Lib Jvm.Stand Jvm.Free Jvm.LawKit Jvm.RoadKit
/-! values: ints and longs as Int, references as addresses -/
abbrev V := Int ⊕ (Int ⊕ Nat)
abbrev vI (x : Int) : V := Sum.inl x
abbrev vJ (x : Int) : V := Sum.inr (Sum.inl x)
abbrev vR (a : Nat) : V := Sum.inr (Sum.inr a)
def rv : V → Value
  | .inl x => .int (Int32.ofInt x)
  | .inr (.inl x) => .long (Int64.ofInt x)
  | .inr (.inr a) => .ref a
def okV : V → Prop
  | .inl x => R32 x
  | .inr (.inl x) => R64 x
  | .inr (.inr _) => True
def okS (S : List V) : Prop := ∀ u ∈ S, okV u
theorem ofw32 (x : Int) : Int32.ofInt (w32 x) = Int32.ofInt x := Int32.toInt_inj.mp (by simp [w32, Int32.toInt_ofInt])
theorem ofw64 (x : Int) : Int64.ofInt (w64 x) = Int64.ofInt x := Int64.toInt_inj.mp (by simp [w64, Int64.toInt_ofInt])
theorem rw32 (x : Int) : R32 (w32 x) := by unfold R32 w32; have := @Int.le_bmod x 4294967296 (by decide); have := @Int.bmod_lt x 4294967296 (by decide); omega
theorem rw64 (x : Int) : R64 (w64 x) := by unfold R64 w64; have := @Int.le_bmod x 18446744073709551616 (by decide); have := @Int.bmod_lt x 18446744073709551616 (by decide); omega
theorem w32_id {x : Int} (h : R32 x) : w32 x = x := Int.bmod_eq_of_le (by have := h.1; omega) (by have := h.2; omega)
theorem w64_id {x : Int} (h : R64 x) : w64 x = x := Int.bmod_eq_of_le (by have := h.1; omega) (by have := h.2; omega)
theorem ti32 {x : Int} (h : R32 x) : (Int32.ofInt x).toInt = x := by rw [Int32.toInt_ofInt]; exact w32_id h
theorem ti64 {x : Int} (h : R64 x) : (Int64.ofInt x).toInt = x := by rw [Int64.toInt_ofInt]; exact w64_id h
theorem r32t (x : Int32) : R32 x.toInt := ⟨by have := Int32.le_toInt x; omega, by have := Int32.toInt_lt x; omega⟩
theorem r64t (x : Int64) : R64 x.toInt := ⟨by have := Int64.le_toInt x; omega, by have := Int64.toInt_lt x; omega⟩
theorem of32 (x : Int32) : Int32.ofInt x.toInt = x := Int32.ofInt_toInt x
theorem of64 (x : Int64) : Int64.ofInt x.toInt = x := Int64.ofInt_toInt x
theorem eq32 {x y : Int} (hx : R32 x) (hy : R32 y) : Int32.ofInt x = Int32.ofInt y ↔ x = y := ⟨fun h => by rw [← ti32 hx, ← ti32 hy, h], fun h => by rw [h]⟩
theorem eq64 {x y : Int} (hx : R64 x) (hy : R64 y) : Int64.ofInt x = Int64.ofInt y ↔ x = y := ⟨fun h => by rw [← ti64 hx, ← ti64 hy, h], fun h => by rw [h]⟩
theorem lt32 {x y : Int} (hx : R32 x) (hy : R32 y) : Int32.ofInt x < Int32.ofInt y ↔ x < y := by rw [Int32.lt_iff_toInt_lt, ti32 hx, ti32 hy]
theorem lt64 {x y : Int} (hx : R64 x) (hy : R64 y) : Int64.ofInt x < Int64.ofInt y ↔ x < y := by rw [Int64.lt_iff_toInt_lt, ti64 hx, ti64 hy]
theorem add32o (x y : Int) : Int32.ofInt x + Int32.ofInt y = Int32.ofInt (w32 (x + y)) := by rw [ofw32, Int32.ofInt_add]
theorem sub32o (x y : Int) : Int32.ofInt x - Int32.ofInt y = Int32.ofInt (w32 (x - y)) := by rw [ofw32, Int32.ofInt_sub]
theorem mul32o (x y : Int) : Int32.ofInt x * Int32.ofInt y = Int32.ofInt (w32 (x * y)) := by rw [ofw32, Int32.ofInt_mul]
theorem neg32o (x : Int) : -Int32.ofInt x = Int32.ofInt (w32 (-x)) := by rw [ofw32, Int32.ofInt_neg]
theorem div32o {x y : Int} (hx : R32 x) (hy : R32 y) : Int32.ofInt x / Int32.ofInt y = Int32.ofInt (w32 (x.tdiv y)) := Int32.toInt_inj.mp (by rw [Int32.toInt_div, ti32 hx, ti32 hy, ti32 (rw32 _)]; rfl)
theorem add64o (x y : Int) : Int64.ofInt x + Int64.ofInt y = Int64.ofInt (w64 (x + y)) := by rw [ofw64, Int64.ofInt_add]
theorem sub64o (x y : Int) : Int64.ofInt x - Int64.ofInt y = Int64.ofInt (w64 (x - y)) := by rw [ofw64, Int64.ofInt_sub]
theorem mul64o (x y : Int) : Int64.ofInt x * Int64.ofInt y = Int64.ofInt (w64 (x * y)) := by rw [ofw64, Int64.ofInt_mul]
theorem neg64o (x : Int) : -Int64.ofInt x = Int64.ofInt (w64 (-x)) := by rw [ofw64, Int64.ofInt_neg]
theorem div64o {x y : Int} (hx : R64 x) (hy : R64 y) : Int64.ofInt x / Int64.ofInt y = Int64.ofInt (w64 (x.tdiv y)) := Int64.toInt_inj.mp (by rw [Int64.toInt_div, ti64 hx, ti64 hy, ti64 (rw64 _)]; rfl)
theorem rem64o {x y : Int} (hx : R64 x) (hy : R64 y) : Int64.ofInt x - Int64.ofInt x / Int64.ofInt y * Int64.ofInt y = Int64.ofInt (w64 (x.tmod y)) := by
  rw [div64o hx hy, ofw64, mul64o, ofw64, sub64o, ofw64, ofw64]
  congr 1
  have := Int.mul_tdiv_add_tmod x y
  rw [Int.mul_comm] at this
  omega
theorem rem32o {x y : Int} (hx : R32 x) (hy : R32 y) : Int32.ofInt x - Int32.ofInt x / Int32.ofInt y * Int32.ofInt y = Int32.ofInt (w32 (x.tmod y)) := by
  rw [div32o hx hy, ofw32, mul32o, ofw32, sub32o, ofw32, ofw32]
  congr 1
  have := Int.mul_tdiv_add_tmod x y
  rw [Int.mul_comm] at this
  omega
theorem i2l_o {x : Int} (hx : R32 x) : (Int32.ofInt x).toInt64 = Int64.ofInt x := Int64.toInt_inj.mp (by rw [Int32.toInt_toInt64, ti32 hx, ti64 ⟨by have := hx.1; omega, by have := hx.2; omega⟩])
theorem l2i_o (x : Int) : (Int64.ofInt x).toInt32 = Int32.ofInt (w32 x) := Int32.toInt_inj.mp (by
  rw [Int64.toInt_toInt32, Int64.toInt_ofInt, ti32 (rw32 _)]
  exact Int.bmod_bmod_of_dvd (by decide))
theorem i2b_o (x : Int) : (Int32.ofInt x).toInt8.toInt32 = Int32.ofInt (w8 x) := Int32.toInt_inj.mp (by
  rw [Int8.toInt_toInt32, Int32.toInt_toInt8, Int32.toInt_ofInt]
  have h1 := @Int.le_bmod x 256 (by decide)
  have h2 := @Int.bmod_lt x 256 (by decide)
  rw [ti32 (x := w8 x) ⟨by unfold w8; omega, by unfold w8; omega⟩]
  exact Int.bmod_bmod_of_dvd (by decide))
theorem r8 (x : Int) : -128 ≤ w8 x ∧ w8 x < 128 := by
  have h1 := @Int.le_bmod x 256 (by decide)
  have h2 := @Int.bmod_lt x 256 (by decide)
  unfold w8; omega
theorem and1_o (x : Int) : Int32.ofInt x &&& 1 = Int32.ofInt (x % 2) := by
  apply Int32.toInt_inj.mp
  rw [ti32 (x := x % 2) ⟨by omega, by omega⟩]
  have e1 : (Int32.ofInt x &&& 1).toInt = ((BitVec.ofInt 32 x) &&& 1#32).toInt := rfl
  rw [e1]
  have e2 : (BitVec.ofInt 32 x &&& 1#32).toNat = (x % 2).toNat := by
    rw [BitVec.toNat_and, show (1#32).toNat = 2 ^ 1 - 1 from rfl, Nat.and_two_pow_sub_one_eq_mod, BitVec.toNat_ofInt]
    omega
  rw [BitVec.toInt_eq_toNat_cond, e2]
  omega
/-! the local variables -/
def st1 (L : List (Option V)) (i : Nat) (v : V) : List (Option V) :=
  match i with
  | 0 => L.set 0 (some v)
  | i' + 1 => match L[i']? with
    | some (some (.inr (.inl _))) => (L.set i' none).set (i' + 1) (some v)
    | _ => L.set (i' + 1) (some v)
def st2 (L : List (Option V)) (i : Nat) (x : Int) : List (Option V) := (st1 L i (vJ x)).set (i + 1) none
def WF (Ls : Array Slot) : Prop := (∀ (i : Nat) (v : Value), Ls[i]? = some (.val v) → v.category = 2 → Ls[i + 1]? = some .second) ∧ (∀ i : Nat, Ls[i]? = some .second → ∃ (j : Nat) (v : Value), i = j + 1 ∧ Ls[j]? = some (.val v) ∧ v.category = 2)
def LocRel (L : List (Option V)) (Ls : Array Slot) : Prop := Ls.size = L.length ∧ WF Ls ∧ ∀ (i : Nat) (u : V), L[i]? = some (some u) → Ls[i]? = some (.val (rv u)) ∧ okV u
theorem st1_len (L : List (Option V)) (i : Nat) (v : V) : (st1 L i v).length = L.length := by
  unfold st1; split
  · simp
  · split <;> simp
theorem cat_rv (u : V) : (rv u).category = 2 ↔ ∃ x, u = vJ x := by
  rcases u with x | x | a <;> simp [rv, Value.category]
theorem cat_rv1 {u : V} (h : (rv u).category ≠ 2) : ∀ x, u ≠ vJ x := fun x e => h ((cat_rv u).mpr ⟨x, e⟩)
theorem st1_get {L : List (Option V)} {i : Nat} {v : V} {t : Nat} {u : V} (h : (st1 L i v)[t]? = some (some u)) : (t = i ∧ u = v) ∨ (t ≠ i ∧ L[t]? = some (some u) ∧ ¬ (t + 1 = i ∧ ∃ x, u = vJ x)) := by
  unfold st1 at h
  split at h
  · rw [List.getElem?_set] at h
    split at h
    · rename_i e; subst e
      split at h
      · left; exact ⟨rfl, by simpa using h.symm⟩
      · cases h
    · rename_i e; exact Or.inr ⟨fun q => e q.symm, h, by omega⟩
  · rename_i i'
    split at h
    · rename_i x hx
      rw [List.getElem?_set] at h
      split at h
      · rename_i e; subst e
        split at h
        · left; exact ⟨rfl, by simpa using h.symm⟩
        · cases h
      · rename_i e
        rw [List.getElem?_set] at h
        split at h
        · split at h <;> simp at h
        · rename_i e2
          exact Or.inr ⟨fun q => e q.symm, h, fun q => e2 (by omega)⟩
    · rename_i hn
      rw [List.getElem?_set] at h
      split at h
      · rename_i e; subst e
        split at h
        · left; exact ⟨rfl, by simpa using h.symm⟩
        · cases h
      · rename_i e
        refine Or.inr ⟨fun q => e q.symm, h, fun q => ?_⟩
        obtain ⟨q1, x, rfl⟩ := q
        have : t = i' := by omega
        subst this
        exact hn x h
theorem aset {Ls : Array Slot} {i : Nat} {x : Slot} (hi : i < Ls.size) (t : Nat) : (Ls.setIfInBounds i x)[t]? = if t = i then some x else Ls[t]? := by
  rw [Array.getElem?_setIfInBounds]
  by_cases e : i = t
  · subst e; simp [hi]
  · rw [if_neg e, if_neg (fun q => e q.symm)]
theorem setAt_ok {Ls : Array Slot} {i : Nat} {x : Slot} (hi : i < Ls.size) : setAt Ls i x = some (Ls.setIfInBounds i x) := by simp [setAt, hi]
theorem stage1 {L : List (Option V)} {Ls : Array Slot} (H : LocRel L Ls) {i : Nat} (hi : i < L.length) (v : Value) : ∃ l1 : Array Slot, storeLocals Ls i v = storeSelf l1 i v ∧ l1.size = Ls.size ∧
    (∀ (t : Nat) (w : Value), t ≠ i → l1[t]? = some (.val w) → w.category = 2 → t + 1 ≠ i ∧ l1[t + 1]? = some .second) ∧ (∀ t : Nat, t ≠ i → l1[t]? = some .second → ∃ (j : Nat) (w : Value), t = j + 1 ∧ j ≠ i ∧ l1[j]? = some (.val w) ∧ w.category = 2) ∧
    (∀ (t : Nat) (u : V), t ≠ i → L[t]? = some (some u) → ¬ (t + 1 = i ∧ ∃ x, u = vJ x) → l1[t]? = some (.val (rv u)) ∧ okV u) := by
  obtain ⟨hs, ⟨w1, w2⟩, hr⟩ := H
  have hi' : i < Ls.size := by omega
  obtain ⟨y, hy⟩ : ∃ y, Ls[i]? = some y := ⟨_, Array.getElem?_eq_getElem hi'⟩
  cases y with
  | unset =>
    refine ⟨Ls, by simp [storeLocals, hy], rfl, fun t w ht h c => ⟨fun e => ?_, w1 t w h c⟩, fun t ht h => ?_, fun t u ht h _ => hr t u h⟩
    · subst e; have := w1 t w h c; rw [hy] at this; cases this
    · obtain ⟨j, w, e, h2, c⟩ := w2 t h
      refine ⟨j, w, e, fun q => ?_, h2, c⟩
      subst q; rw [hy] at h2; cases h2
  | second =>
    obtain ⟨j, w, e, hj, cw⟩ := w2 i hy
    have hj' : j < Ls.size := by omega
    refine ⟨Ls.setIfInBounds j .unset, by subst e; simp [storeLocals, hy, setAt, hj'], by simp, fun t x ht h c => ?_, fun t ht h => ?_, fun t u ht h hn => ?_⟩
    · rw [aset hj'] at h
      split at h
      · cases h
      · rename_i q
        refine ⟨by omega, ?_⟩
        rw [aset hj', if_neg ?_]
        · exact w1 t x h c
        · intro e2; have := w1 t x h c; rw [e2, hj] at this; cases this
    · rw [aset hj'] at h
      split at h
      · cases h
      · rename_i q
        obtain ⟨j2, x, e2, h2, c2⟩ := w2 t h
        refine ⟨j2, x, e2, fun q2 => ?_, ?_, c2⟩
        · subst q2; rw [hy] at h2; cases h2
        · rw [aset hj', if_neg (by omega)]; exact h2
    · have := hr t u h
      refine ⟨?_, this.2⟩
      rw [aset hj', if_neg ?_]
      · exact this.1
      · intro q
        subst q
        have h3 := this.1
        rw [hj] at h3
        cases h3
        exact hn ⟨e.symm, (cat_rv u).mp cw⟩
  | val old =>
    by_cases co : old.category = 2
    · have hn := w1 i old hy co
      have hi2 : i + 1 < Ls.size := by have := (Array.getElem?_eq_some_iff.mp hn).1; exact this
      refine ⟨Ls.setIfInBounds (i + 1) .unset, by simp [storeLocals, hy, setAt, co, hi2], by simp, fun t x ht h c => ?_, fun t ht h => ?_, fun t u ht h hq => ?_⟩
      · rw [aset hi2] at h
        split at h
        · cases h
        · rename_i q
          refine ⟨fun e => ?_, ?_⟩
          · subst e; have := w1 t x h c; rw [hy] at this; cases this
          · rw [aset hi2, if_neg (by omega)]; exact w1 t x h c
      · rw [aset hi2] at h
        split at h
        · cases h
        · rename_i q
          obtain ⟨j2, x, e2, h2, c2⟩ := w2 t h
          refine ⟨j2, x, e2, by omega, ?_, c2⟩
          rw [aset hi2, if_neg ?_]
          · exact h2
          · intro q2; subst q2; rw [hn] at h2; cases h2
      · have := hr t u h
        refine ⟨?_, this.2⟩
        rw [aset hi2, if_neg ?_]
        · exact this.1
        · intro q; subst q; rw [hn] at this; cases this.1
    · refine ⟨Ls, by simp [storeLocals, hy, co], rfl, fun t w ht h c => ⟨fun e => ?_, w1 t w h c⟩, fun t ht h => ?_, fun t u ht h _ => hr t u h⟩
      · subst e; have := w1 t w h c; rw [hy] at this; cases this
      · obtain ⟨j, w, e, h2, c⟩ := w2 t h
        refine ⟨j, w, e, fun q => ?_, h2, c⟩
        subst q; rw [hy] at h2; cases h2; exact co c
theorem st1_ok {L : List (Option V)} {Ls : Array Slot} (H : LocRel L Ls) {i : Nat} {u : V} (hi : i < L.length) (hu : okV u) (hc : ∀ x, u ≠ vJ x) : ∃ Ls', storeLocals Ls i (rv u) = some Ls' ∧ LocRel (st1 L i u) Ls' := by
  obtain ⟨l1, e1, e2, a1, a2, a3⟩ := stage1 H hi (rv u)
  have hi' : i < l1.size := by have := H.1; omega
  have c1 : (rv u).category ≠ 2 := fun q => by obtain ⟨x, hx⟩ := (cat_rv u).mp q; exact hc x hx
  refine ⟨l1.setIfInBounds i (.val (rv u)), by rw [e1]; simp [storeSelf, setAt, hi', c1], by rw [st1_len]; simp [e2, H.1], ⟨fun t w h c => ?_, fun t h => ?_⟩, fun t w h => ?_⟩
  · rw [aset hi'] at h
    split at h
    · cases h; exact absurd c c1
    · rename_i q
      obtain ⟨b1, b2⟩ := a1 t w q h c
      rw [aset hi', if_neg b1]; exact b2
  · rw [aset hi'] at h
    split at h
    · cases h
    · rename_i q
      obtain ⟨j, w, b1, b2, b3, b4⟩ := a2 t q h
      exact ⟨j, w, b1, by rw [aset hi', if_neg b2]; exact b3, b4⟩
  · rcases st1_get h with ⟨rfl, rfl⟩ | ⟨q1, q2, q3⟩
    · exact ⟨by rw [aset hi', if_pos rfl], hu⟩
    · obtain ⟨b1, b2⟩ := a3 t w q1 q2 q3
      exact ⟨by rw [aset hi', if_neg q1]; exact b1, b2⟩
theorem st2_get {L : List (Option V)} {i : Nat} {x : Int} {t : Nat} {u : V} (h : (st2 L i x)[t]? = some (some u)) : t ≠ i + 1 ∧ ((t = i ∧ u = vJ x) ∨ (t ≠ i ∧ L[t]? = some (some u) ∧ ¬ (t + 1 = i ∧ ∃ x, u = vJ x))) := by
  unfold st2 at h
  rw [List.getElem?_set] at h
  split at h
  · split at h <;> simp at h
  · rename_i q
    exact ⟨fun e => q e.symm, st1_get h⟩
theorem st2_ok {L : List (Option V)} {Ls : Array Slot} (H : LocRel L Ls) {i : Nat} {x : Int} (hi : i + 1 < L.length) (hu : R64 x) : ∃ Ls', storeLocals Ls i (rv (vJ x)) = some Ls' ∧ LocRel (st2 L i x) Ls' := by
  obtain ⟨l1, e1, e2, a1, a2, a3⟩ := stage1 H (by omega : i < L.length) (rv (vJ x))
  have hs : l1.size = L.length := e2.trans H.1
  have hi' : i < l1.size := by omega
  have hi2 : i + 1 < l1.size := by omega
  have hlen : (st2 L i x).length = L.length := by simp [st2, st1_len]
  have c2 : (rv (vJ x)).category = 2 := rfl
  have g1 : (l1.setIfInBounds i (.val (rv (vJ x))))[i + 1]? = l1[i + 1]? := by rw [aset hi', if_neg (by omega)]
  obtain ⟨y, hy⟩ : ∃ y, l1[i + 1]? = some y := ⟨_, Array.getElem?_eq_getElem hi2⟩
  by_cases hb : ∃ w, y = .val w ∧ w.category = 2
  · obtain ⟨w, rfl, cw⟩ := hb
    have hn := (a1 (i + 1) w (by omega) hy cw).2
    have hi3 : i + 1 + 1 < l1.size := (Array.getElem?_eq_some_iff.mp hn).1
    refine ⟨((l1.setIfInBounds i (.val (rv (vJ x)))).setIfInBounds (i + 2) .unset).setIfInBounds (i + 1) .second, ?_, by rw [hlen]; simp [hs], ⟨fun t w2 h c => ?_, fun t h => ?_⟩, fun t w2 h => ?_⟩
    · rw [e1]
      have hi3' : i + 2 < l1.size := hi3
      have hy2 := (Array.getElem?_eq_some_iff.mp hy).2
      simp [storeSelf, setAt, hi', c2, g1, hy2, cw, hi3', hi2]
    · rw [aset (by simp; omega), aset (by simp; omega), aset hi'] at h
      split at h
      · cases h
      · split at h
        · cases h
        · split at h
          · rename_i q1 q2 q3
            subst q3
            rw [aset (by simp; omega), if_pos rfl]
          · rename_i q1 q2 q3
            obtain ⟨b1, b2⟩ := a1 t w2 q3 h c
            rw [aset (by simp; omega), if_neg (by omega), aset (by simp; omega), if_neg (by omega), aset hi', if_neg b1]
            exact b2
    · rw [aset (by simp; omega), aset (by simp; omega), aset hi'] at h
      split at h
      · rename_i q1
        exact ⟨i, rv (vJ x), q1, by rw [aset (by simp; omega), if_neg (by omega), aset (by simp; omega), if_neg (by omega), aset hi', if_pos rfl], c2⟩
      · split at h
        · cases h
        · split at h
          · cases h
          · rename_i q1 q2 q3
            obtain ⟨j, w3, b1, b2, b3, b4⟩ := a2 t q3 h
            refine ⟨j, w3, b1, ?_, b4⟩
            rw [aset (by simp; omega), if_neg (by omega), aset (by simp; omega), if_neg ?_, aset hi', if_neg b2]
            · exact b3
            · intro q; subst q
              have : l1[i + 1 + 1]? = some (.val w3) := b3
              rw [hn] at this; cases this
    · obtain ⟨q0, q⟩ := st2_get h
      rw [aset (by simp; omega), if_neg q0, aset (by simp; omega), aset hi']
      rcases q with ⟨rfl, rfl⟩ | ⟨q1, q2, q3⟩
      · rw [if_neg (by omega), if_pos rfl]; exact ⟨rfl, hu⟩
      · obtain ⟨b1, b2⟩ := a3 t w2 q1 q2 q3
        refine ⟨?_, b2⟩
        rw [if_neg ?_, if_neg q1]
        · exact b1
        · intro q; subst q
          have : l1[i + 1 + 1]? = some (.val (rv w2)) := b1
          rw [hn] at this; cases this
  · refine ⟨(l1.setIfInBounds i (.val (rv (vJ x)))).setIfInBounds (i + 1) .second, ?_, by rw [hlen]; simp [hs], ⟨fun t w2 h c => ?_, fun t h => ?_⟩, fun t w2 h => ?_⟩
    · rw [e1]
      cases y with
      | val w =>
        have cw : w.category ≠ 2 := fun q => hb ⟨w, rfl, q⟩
        have hy2 := (Array.getElem?_eq_some_iff.mp hy).2
        simp [storeSelf, setAt, hi', c2, g1, hy2, cw, hi2]
      | unset => have hy2 := (Array.getElem?_eq_some_iff.mp hy).2; simp [storeSelf, setAt, hi', c2, g1, hy2, hi2]
      | second => have hy2 := (Array.getElem?_eq_some_iff.mp hy).2; simp [storeSelf, setAt, hi', c2, g1, hy2, hi2]
    · rw [aset (by simp; omega), aset hi'] at h
      split at h
      · cases h
      · split at h
        · rename_i q1 q2
          subst q2
          rw [aset (by simp; omega), if_pos rfl]
        · rename_i q1 q2
          obtain ⟨b1, b2⟩ := a1 t w2 q2 h c
          rw [aset (by simp; omega), if_neg (by omega), aset hi', if_neg b1]
          exact b2
    · rw [aset (by simp; omega), aset hi'] at h
      split at h
      · rename_i q1
        exact ⟨i, rv (vJ x), q1, by rw [aset (by simp; omega), if_neg (by omega), aset hi', if_pos rfl], c2⟩
      · split at h
        · cases h
        · rename_i q1 q2
          obtain ⟨j, w3, b1, b2, b3, b4⟩ := a2 t q2 h
          refine ⟨j, w3, b1, ?_, b4⟩
          rw [aset (by simp; omega), if_neg ?_, aset hi', if_neg b2]
          · exact b3
          · intro q; subst q
            rw [hy] at b3; cases b3
            exact hb ⟨w3, rfl, b4⟩
    · obtain ⟨q0, q⟩ := st2_get h
      rw [aset (by simp; omega), if_neg q0, aset hi']
      rcases q with ⟨rfl, rfl⟩ | ⟨q1, q2, q3⟩
      · rw [if_pos rfl]; exact ⟨rfl, hu⟩
      · obtain ⟨b1, b2⟩ := a3 t w2 q1 q2 q3
        exact ⟨by rw [if_neg q1]; exact b1, b2⟩
/-! entry -/
def laid : List V → List (Option V)
  | [] => []
  | .inr (.inl x) :: r => some (vJ x) :: none :: laid r
  | u :: r => some u :: laid r
def ent (as : List V) (maxL : Nat) : List (Option V) := laid as ++ List.replicate (maxL - (laid as).length) none
def mask : List Bool → List (Option V) → List (Option V)
  | true :: bs, u :: r => u :: mask bs r
  | false :: bs, _ :: r => none :: mask bs r
  | _, r => r
theorem mask_len (bs : List Bool) (L : List (Option V)) : (mask bs L).length = L.length := by
  induction L generalizing bs with
  | nil => rcases bs with _ | ⟨_ | _, bs⟩ <;> rfl
  | cons a r ih => rcases bs with _ | ⟨_ | _, bs⟩ <;> simp [mask, ih]
theorem mask_get {bs : List Bool} {L : List (Option V)} {i : Nat} {u : V} (h : (mask bs L)[i]? = some (some u)) : L[i]? = some (some u) := by
  induction L generalizing bs i with
  | nil => cases bs <;> simp [mask] at h
  | cons a r ih =>
    rcases bs with _ | ⟨_ | _, bs⟩
    · exact h
    · cases i with
      | zero => simp [mask] at h
      | succ i => simp only [mask, List.getElem?_cons_succ] at h ⊢; exact ih h
    · cases i with
      | zero => exact h
      | succ i => simp only [mask, List.getElem?_cons_succ] at h ⊢; exact ih h
theorem LocRel.mask {L : List (Option V)} {Ls : Array Slot} (H : LocRel L Ls) (bs : List Bool) : LocRel (mask bs L) Ls := ⟨by rw [mask_len]; exact H.1, H.2.1, fun i u h => H.2.2 i u (mask_get h)⟩
def WFl (Ls : List Slot) : Prop := (∀ (i : Nat) (v : Value), Ls[i]? = some (.val v) → v.category = 2 → Ls[i + 1]? = some .second) ∧ (∀ i : Nat, Ls[i]? = some .second → ∃ (j : Nat) (v : Value), i = j + 1 ∧ Ls[j]? = some (.val v) ∧ v.category = 2)
theorem wfl_rep (n : Nat) : WFl (List.replicate n .unset) := by
  refine ⟨fun i v h => ?_, fun i h => ?_⟩ <;> (rw [List.getElem?_replicate] at h; split at h <;> simp at h)
theorem wfl_cons1 {a : Value} {r : List Slot} (H : WFl r) (c : a.category ≠ 2) : WFl (.val a :: r) := by
  refine ⟨fun i v h cv => ?_, fun i h => ?_⟩
  · cases i with
    | zero => simp at h; subst h; exact absurd cv c
    | succ i => simp only [List.getElem?_cons_succ] at h ⊢; exact H.1 i v h cv
  · cases i with
    | zero => simp at h
    | succ i =>
      simp only [List.getElem?_cons_succ] at h
      obtain ⟨j, v, e, h2, c2⟩ := H.2 i h
      exact ⟨j + 1, v, by omega, by simpa using h2, c2⟩
theorem wfl_cons2 {a : Value} {r : List Slot} (H : WFl r) (c : a.category = 2) : WFl (.val a :: .second :: r) := by
  refine ⟨fun i v h cv => ?_, fun i h => ?_⟩
  · rcases i with _ | _ | i
    · rfl
    · simp at h
    · simp only [List.getElem?_cons_succ] at h ⊢; exact H.1 i v h cv
  · rcases i with _ | _ | i
    · simp at h
    · exact ⟨0, a, rfl, rfl, c⟩
    · simp only [List.getElem?_cons_succ] at h
      obtain ⟨j, v, e, h2, c2⟩ := H.2 i h
      exact ⟨j + 2, v, by omega, by simpa using h2, c2⟩
theorem laid_ok (n : Nat) : ∀ as : List V, okS as → (laid as).length = (Jvm.Sym.laidSlots (as.map rv)).length ∧ WFl (Jvm.Sym.laidSlots (as.map rv) ++ List.replicate n .unset) ∧ ∀ (i : Nat) (u : V), (laid as)[i]? = some (some u) → (Jvm.Sym.laidSlots (as.map rv))[i]? = some (.val (rv u)) ∧ okV u
  | [], _ => ⟨rfl, by simpa [Jvm.Sym.laidSlots] using wfl_rep n, fun i u h => by simp [laid] at h⟩
  | .inl x :: r, ho => by
    obtain ⟨h1, h2, h3⟩ := laid_ok n r (fun u hu => ho u (List.mem_cons_of_mem _ hu))
    refine ⟨by simp [laid, Jvm.Sym.laidSlots, rv, Value.category, h1], ?_, fun i u h => ?_⟩
    · exact wfl_cons1 (a := rv (vI x)) h2 (by simp [rv, Value.category])
    · cases i with
      | zero => simp [laid] at h; subst h; exact ⟨rfl, ho _ (List.mem_cons_self ..)⟩
      | succ i => simp only [laid, List.getElem?_cons_succ] at h; exact h3 i u h
  | .inr (.inr x) :: r, ho => by
    obtain ⟨h1, h2, h3⟩ := laid_ok n r (fun u hu => ho u (List.mem_cons_of_mem _ hu))
    refine ⟨by simp [laid, Jvm.Sym.laidSlots, rv, Value.category, h1], ?_, fun i u h => ?_⟩
    · exact wfl_cons1 (a := rv (vR x)) h2 (by simp [rv, Value.category])
    · cases i with
      | zero => simp [laid] at h; subst h; exact ⟨rfl, ho _ (List.mem_cons_self ..)⟩
      | succ i => simp only [laid, List.getElem?_cons_succ] at h; exact h3 i u h
  | .inr (.inl x) :: r, ho => by
    obtain ⟨h1, h2, h3⟩ := laid_ok n r (fun u hu => ho u (List.mem_cons_of_mem _ hu))
    refine ⟨by simp [laid, Jvm.Sym.laidSlots, rv, Value.category, h1], ?_, fun i u h => ?_⟩
    · exact wfl_cons2 (a := rv (vJ x)) h2 rfl
    · rcases i with _ | _ | i
      · simp [laid] at h; subst h; exact ⟨rfl, ho _ (List.mem_cons_self ..)⟩
      · simp [laid] at h
      · simp only [laid, List.getElem?_cons_succ] at h; exact h3 i u h
theorem ent_ok {as : List V} {maxL : Nat} (ho : okS as) (hl : (laid as).length ≤ maxL) : LocRel (ent as maxL) (argsToLocals (as.map rv).toArray maxL) := by
  have e : (argsToLocals (as.map rv).toArray maxL).toList = Jvm.Sym.laidSlots (as.map rv) ++ List.replicate (maxL - (Jvm.Sym.laidSlots (as.map rv)).length) .unset := by rw [Jvm.Sym.argsToLocals_toList]
  obtain ⟨h1, h2, h3⟩ := laid_ok (maxL - (Jvm.Sym.laidSlots (as.map rv)).length) as ho
  have g : ∀ i, (argsToLocals (as.map rv).toArray maxL)[i]? = (Jvm.Sym.laidSlots (as.map rv) ++ List.replicate (maxL - (Jvm.Sym.laidSlots (as.map rv)).length) .unset)[i]? := fun i => by rw [← e, Array.getElem?_toList]
  refine ⟨?_, ⟨fun i v h c => ?_, fun i h => ?_⟩, fun i u h => ?_⟩
  · rw [← Array.length_toList, e]; simp [ent, h1]
  · rw [g] at h ⊢; exact h2.1 i v h c
  · rw [g] at h
    obtain ⟨j, v, q1, q2, q3⟩ := h2.2 i h
    exact ⟨j, v, q1, by rw [g]; exact q2, q3⟩
  · rw [g]
    unfold ent at h
    by_cases q : i < (laid as).length
    · rw [List.getElem?_append_left q] at h
      rw [List.getElem?_append_left (by omega)]
      exact h3 i u h
    · rw [List.getElem?_append_right (by omega), List.getElem?_replicate] at h
      split at h <;> simp at h
/-! the heap: objects of one class, each with its arrays laid right behind it -/
def fv : FieldType → Int → Value
  | .long, x => .long (Int64.ofInt x)
  | _, x => .int (Int32.ofInt x)
def tv : FieldType → Int → V
  | .long, x => vJ x
  | _, x => vI x
def okT : FieldType → Int → Prop
  | .long, x => R64 x
  | .boolean, x => x = 0 ∨ x = 1
  | .byte, x => -128 ≤ x ∧ x < 128
  | _, x => R32 x
def norm : FieldType → Int → Int
  | .boolean, x => x % 2
  | .byte, x => w8 x
  | _, x => x
def pt (t : FieldType) : Prop := t = .int ∨ t = .boolean ∨ t = .byte ∨ t = .long
theorem rv_tv (t : FieldType) (x : Int) : rv (tv t x) = fv t x := by cases t <;> rfl
theorem okV_tv {t : FieldType} {x : Int} (h : okT t x) : okV (tv t x) := by
  cases t <;> simp only [okT, tv, okV, R32, R64] at * <;> omega
theorem dflt_fv {t : FieldType} (h : pt t) : defaultValue t = fv t 0 := by rcases h with rfl | rfl | rfl | rfl <;> rfl
theorem okT0 {t : FieldType} (h : pt t) : okT t 0 := by rcases h with rfl | rfl | rfl | rfl <;> simp [okT, R32, R64]
theorem norm_ok {t : FieldType} {x : Int} (h : pt t) (hx : okV (tv t x)) : narrow t (fv t x) = fv t (norm t x) ∧ fits t (fv t (norm t x)) = true ∧ okT t (norm t x) := by
  rcases h with rfl | rfl | rfl | rfl
  · exact ⟨rfl, rfl, hx⟩
  · refine ⟨?_, ?_, ?_⟩
    · show Value.int (Int32.ofInt x &&& 1) = _; rw [and1_o]; rfl
    · have := fits_nar_bool (Int32.ofInt x)
      rw [show nar .boolean (Int32.ofInt x) = Int32.ofInt x &&& 1 from rfl, and1_o] at this
      exact this
    · simp only [okT, norm]; omega
  · refine ⟨?_, ?_, ?_⟩
    · show Value.int ((Int32.ofInt x).toInt8.toInt32) = _; rw [i2b_o]; rfl
    · have := fits_nar_byte (Int32.ofInt x)
      rw [i2b_o] at this
      exact this
    · exact r8 x
  · exact ⟨rfl, rfl, hx⟩
abbrev OB := Nat × Nat × Mo
/-- the class: its name, its plain fields (number, name, descriptor, type), its arrays (name, descriptor, component type, length) -/
abbrev Cls := String × List (Nat × String × String × FieldType) × List (String × String × FieldType × Nat)
abbrev Cls.C (D : Cls) : String := D.1
abbrev Cls.FS (D : Cls) : List (Nat × String × String × FieldType) := D.2.1
abbrev Cls.AS (D : Cls) : List (String × String × FieldType × Nat) := D.2.2
def Obj (Z : State) (D : Cls) (b k : Nat) (O : Mo) (h : Heap) : Prop :=
  Exa Z h b D.C ∧ (∀ (i : Nat) (n d : String) (t : FieldType), (i, n, d, t) ∈ D.FS → Fld Z h b D.C n d (fv t (O 0 i)) ∧ okT t (O 0 i)) ∧
  (∀ (j : Nat) (n d : String) (t : FieldType) (len : Nat), D.AS[j]? = some (n, d, t, len) → Fld Z h b D.C n d (if j < k then .ref (b + j + 1) else .null)) ∧
  (∀ (j : Nat) (n d : String) (t : FieldType) (len : Nat), D.AS[j]? = some (n, d, t, len) → j < k → ∃ c : Cell, Arr Z h (b + j + 1) c t ∧ c.slots.size = len ∧ ∀ i : Nat, i < len → c.slots[i]? = some (fv t (O (j + 1) i)) ∧ okT t (O (j + 1) i))
def StB (D : Cls) (b : Nat) (P : Heap → Prop) : Prop := ∀ (h h' : Heap) (a sl : Nat) (v : Value), b ≤ a → a ≤ b + D.AS.length → Wr h h' a sl v → P h → P h'
def StE (P : Heap → Prop) : Prop := ∀ h h' : Heap, Ext h h' → P h → P h'
def HS (Z : State) (D : Cls) (n0 : Nat) (P : Heap → Prop) (os : List OB) (sz : Nat) (h : Heap) : Prop :=
  h.size = sz ∧ n0 ≤ sz ∧ (∀ (q b k : Nat) (O : Mo), os[q]? = some (b, k, O) → Obj Z D b k O h ∧ n0 ≤ b ∧ StB D b P) ∧
  (∀ (q q' b k : Nat) (O : Mo) (b' k' : Nat) (O' : Mo), os[q]? = some (b, k, O) → os[q']? = some (b', k', O') → q ≠ q' → b + D.AS.length < b' ∨ b' + D.AS.length < b) ∧ StE P ∧ P h
/-- what the sheet's words say of the class -/
def CW (Z : State) (a0 : Array Value) (D : Cls) : Prop :=
  (∀ (i : Nat) (n d : String) (t : FieldType), (i, n, d, t) ∈ D.FS → Laid Z a0 D.C D.C n d ∧ parseFieldDescriptor d = some t ∧ pt t) ∧
  (∀ (j : Nat) (n d : String) (t : FieldType) (len : Nat), D.AS[j]? = some (n, d, t, len) → Laid Z a0 D.C D.C n d ∧ parseFieldDescriptor d = some (.array t) ∧ pt t ∧ len * 8 ≤ 536870912) ∧
  (∀ (i : Nat) (n d : String) (t : FieldType) (i' : Nat) (n' d' : String) (t' : FieldType), (i, n, d, t) ∈ D.FS → (i', n', d', t') ∈ D.FS → (i = i' ∧ n = n' ∧ d = d' ∧ t = t') ∨ (i ≠ i' ∧ n ≠ n')) ∧
  (∀ (i : Nat) (n d : String) (t : FieldType) (j : Nat) (n' d' : String) (t' : FieldType) (len : Nat), (i, n, d, t) ∈ D.FS → D.AS[j]? = some (n', d', t', len) → n ≠ n') ∧
  (∀ (j : Nat) (n d : String) (t : FieldType) (len j' : Nat) (n' d' : String) (t' : FieldType) (len' : Nat), D.AS[j]? = some (n, d, t, len) → D.AS[j']? = some (n', d', t', len') → j ≠ j' → n ≠ n')
theorem nne {x y : Nat} (h : ¬ x = y) : @Ne Addr x y := h
section Heaps
variable {Z : State} {a0 : Array Value} {D : Cls} {n0 : Nat} {P : Heap → Prop} {b k : Nat} {O : Mo} {h h' : Heap} {os : List OB} {sz q : Nat}
theorem Obj.putf (cw : CW Z a0 D) (H : Obj Z D b k O h) {i : Nat} {n d : String} {t : FieldType} {x : Int} (hf : (i, n, d, t) ∈ D.FS) (W : Wr h h' b (Jvm.RoadKit.slotOf Z D.C n d) (fv t x)) (hx : okT t x) : Obj Z D b k (upd O 0 i x) h' := by
  obtain ⟨h1, h2, h3, h4⟩ := H
  obtain ⟨c1, c2, c3, c4, c5⟩ := cw
  obtain ⟨l1, p1, t1⟩ := c1 _ _ _ _ hf
  refine ⟨h1.wr W, fun i' n' d' t' hf' => ?_, fun j n' d' t' len ha => ?_, fun j n' d' t' len ha hj => ?_⟩
  · obtain ⟨f1, f2⟩ := h2 _ _ _ _ hf'
    rcases c3 _ _ _ _ _ _ _ _ hf hf' with ⟨rfl, rfl, rfl, rfl⟩ | ⟨ne, nn⟩
    · rw [upd_same]; exact ⟨f1.same W, hx⟩
    · rw [upd_ne (fun q => ne q.2.symm)]
      obtain ⟨l2, p2, _⟩ := c1 _ _ _ _ hf'
      exact ⟨f1.other W (Or.inr (slot_ne l2 l1 (fun e => nn e.symm) p2 p1)), f2⟩
  · have f1 := h3 _ _ _ _ _ ha
    obtain ⟨l2, p2, _⟩ := c2 _ _ _ _ _ ha
    exact f1.other W (Or.inr (slot_ne l2 l1 (fun e => c4 _ _ _ _ _ _ _ _ _ hf ha e.symm) p2 p1))
  · obtain ⟨c, A, s, g⟩ := h4 _ _ _ _ _ ha hj
    refine ⟨c, A.other W (nne (by omega)), s, fun i' hi' => ?_⟩
    rw [upd_ne (by omega)]; exact g i' hi'
theorem Obj.puta (H : Obj Z D b k O h) {j i len : Nat} {n d : String} {t : FieldType} {x : Int} (ha : D.AS[j]? = some (n, d, t, len)) (hj : j < k) (hi : i < len) (W : Wr h h' (b + j + 1) i (fv t x)) (hx : okT t x) : Obj Z D b k (upd O (j + 1) i x) h' := by
  obtain ⟨h1, h2, h3, h4⟩ := H
  refine ⟨h1.wr W, fun i' n' d' t' hf' => ?_, fun j' n' d' t' len' ha' => ?_, fun j' n' d' t' len' ha' hj' => ?_⟩
  · obtain ⟨f1, f2⟩ := h2 _ _ _ _ hf'
    rw [upd_ne (by omega)]
    exact ⟨f1.other W (Or.inl (nne (by omega))), f2⟩
  · exact (h3 _ _ _ _ _ ha').other W (Or.inl (nne (by omega)))
  · obtain ⟨c, A, s, g⟩ := h4 _ _ _ _ _ ha' hj'
    by_cases e : j' = j
    · subst e
      cases ha.symm.trans ha'
      refine ⟨_, A.same W, by rw [sz_set]; exact s, fun i' hi' => ?_⟩
      by_cases e2 : i' = i
      · subst e2
        rw [upd_same]
        exact ⟨by simp [Cell.setSlot, s, hi'], hx⟩
      · rw [upd_ne (fun q => e2 q.2)]
        refine ⟨?_, (g i' hi').2⟩
        have := (g i' hi').1
        simp only [Cell.setSlot]
        rw [Array.getElem?_setIfInBounds_ne (fun q => e2 q.symm)]
        exact this
    · refine ⟨c, A.other W (nne (by omega)), s, fun i' hi' => ?_⟩
      rw [upd_ne (by omega)]; exact g i' hi'
theorem Obj.other (H : Obj Z D b k O h) {a sl : Nat} {v : Value} (W : Wr h h' a sl v) (hne : a < b ∨ b + D.AS.length < a) : Obj Z D b k O h' := by
  obtain ⟨h1, h2, h3, h4⟩ := H
  refine ⟨h1.wr W, fun i' n' d' t' hf' => ⟨(h2 _ _ _ _ hf').1.other W (Or.inl (nne (by omega))), (h2 _ _ _ _ hf').2⟩, fun j' n' d' t' len' ha' => (h3 _ _ _ _ _ ha').other W (Or.inl (nne (by omega))), fun j' n' d' t' len' ha' hj' => ?_⟩
  obtain ⟨c, A, s, g⟩ := h4 _ _ _ _ _ ha' hj'
  have hl : j' < D.AS.length := (List.getElem?_eq_some_iff.mp ha').1
  exact ⟨c, A.other W (nne (by omega)), s, g⟩
theorem Obj.ext (H : Obj Z D b k O h) (E : Ext h h') : Obj Z D b k O h' := by
  obtain ⟨h1, h2, h3, h4⟩ := H
  refine ⟨h1.ext E, fun i' n' d' t' hf' => ⟨(h2 _ _ _ _ hf').1.ext E, (h2 _ _ _ _ hf').2⟩, fun j' n' d' t' len' ha' => (h3 _ _ _ _ _ ha').ext E, fun j' n' d' t' len' ha' hj' => ?_⟩
  obtain ⟨c, A, s, g⟩ := h4 _ _ _ _ _ ha' hj'
  exact ⟨c, A.ext E, s, g⟩
theorem Obj.top (H : Obj Z D b k O h) (hk : k = D.AS.length) : b + D.AS.length < h.size := by
  obtain ⟨h1, h2, h3, h4⟩ := H
  by_cases z : D.AS.length = 0
  · have : b < h.size := h1.lt
    omega
  · obtain ⟨⟨n, d, t, len⟩, hx⟩ : ∃ y, D.AS[D.AS.length - 1]? = some y := ⟨_, List.getElem?_eq_getElem (by omega)⟩
    obtain ⟨c, A, -⟩ := h4 _ _ _ _ _ hx (by omega)
    have : b + (D.AS.length - 1) + 1 < h.size := A.lt
    omega
theorem Obj.mkArr (cw : CW Z a0 D) (H : Obj Z D b k O h) {n d : String} {t : FieldType} {len : Nat} {h1 h2 : Heap} {cA : ClassId} (ha : D.AS[k]? = some (n, d, t, len)) (E : Ext h h1) (A : Arr Z h1 (b + k + 1) (newA cA t (Int32.ofInt len)) t)
    (W : Wr h1 h2 b (Jvm.RoadKit.slotOf Z D.C n d) (.ref (b + k + 1))) (hO : ∀ i, O (k + 1) i = 0) : Obj Z D b (k + 1) O h2 := by
  have H1 := H.ext E
  obtain ⟨g1, g2, g3, g4⟩ := H1
  obtain ⟨c1, c2, c3, c4, c5⟩ := cw
  obtain ⟨l1, p1, t1, b1⟩ := c2 _ _ _ _ _ ha
  refine ⟨g1.wr W, fun i' n' d' t' hf' => ?_, fun j n' d' t' len' ha' => ?_, fun j n' d' t' len' ha' hj => ?_⟩
  · obtain ⟨f1, f2⟩ := g2 _ _ _ _ hf'
    obtain ⟨l2, p2, _⟩ := c1 _ _ _ _ hf'
    exact ⟨f1.other W (Or.inr (slot_ne l2 l1 (fun e => c4 _ _ _ _ _ _ _ _ _ hf' ha e) p2 p1)), f2⟩
  · by_cases e : j = k
    · subst e
      cases ha.symm.trans ha'
      rw [if_pos (by omega)]
      exact (g3 _ _ _ _ _ ha).same W
    · have f1 := g3 _ _ _ _ _ ha'
      obtain ⟨l2, p2, _⟩ := c2 _ _ _ _ _ ha'
      have e3 : (j < k + 1) = (j < k) := propext ⟨fun q => by omega, fun q => by omega⟩
      simp only [e3]
      exact f1.other W (Or.inr (slot_ne l2 l1 (fun e2 => c5 _ _ _ _ _ _ _ _ _ _ ha' ha e e2) p2 p1))
  · by_cases e : j = k
    · subst e
      cases ha.symm.trans ha'
      have e32 : (Int32.ofInt (len : Int)).toNatClampNeg = len := by
        unfold Int32.toNatClampNeg
        rw [ti32 ⟨by omega, by omega⟩]; simp
      refine ⟨_, A.other W (nne (by omega)), by rw [sz_new, e32], fun i hi => ?_⟩
      rw [hO]
      refine ⟨?_, okT0 t1⟩
      simp [newA, e32, hi, dflt_fv t1]
    · obtain ⟨c, A', s, g⟩ := g4 _ _ _ _ _ ha' (by omega)
      exact ⟨c, A'.other W (nne (by omega)), s, g⟩
theorem HS.wr (H : HS Z D n0 P os sz h) (hq : os[q]? = some (b, k, O)) {a sl : Nat} {v : Value} {k' : Nat} {O' : Mo} (h1 : b ≤ a) (h2 : a ≤ b + D.AS.length) (W : Wr h h' a sl v) (hO : Obj Z D b k' O' h') : HS Z D n0 P (os.set q (b, k', O')) sz h' := by
  obtain ⟨g1, g2, g3, g4, g5, g6⟩ := H
  have hlt : q < os.length := (List.getElem?_eq_some_iff.mp hq).1
  have key : ∀ q2 b2 k2 O2, (os.set q (b, k', O'))[q2]? = some (b2, k2, O2) → (q2 = q ∧ b2 = b ∧ k2 = k' ∧ O2 = O') ∨ (q2 ≠ q ∧ os[q2]? = some (b2, k2, O2)) := fun q2 b2 k2 O2 e => by
    rw [List.getElem?_set] at e
    split at e
    · rename_i e2; subst e2
      cases e; exact Or.inl ⟨rfl, rfl, rfl, rfl⟩
    · rename_i e2; exact Or.inr ⟨fun e3 => e2 e3.symm, e⟩
  refine ⟨by rw [W.size]; exact g1, g2, fun q2 b2 k2 O2 e => ?_, fun q2 q3 b2 k2 O2 b3 k3 O3 e2 e3 ne => ?_, g5, (g3 _ _ _ _ hq).2.2 h h' a sl v h1 h2 W g6⟩
  · rcases key _ _ _ _ e with ⟨rfl, rfl, rfl, rfl⟩ | ⟨ne, e⟩
    · exact ⟨hO, (g3 _ _ _ _ hq).2⟩
    · obtain ⟨m1, m2⟩ := g3 _ _ _ _ e
      refine ⟨m1.other W ?_, m2⟩
      have := g4 _ _ _ _ _ _ _ _ e hq ne
      omega
  · rcases key _ _ _ _ e2 with ⟨rfl, rfl, rfl, rfl⟩ | ⟨ne2, f2⟩
    · rcases key _ _ _ _ e3 with ⟨rfl, rfl, rfl, rfl⟩ | ⟨ne3, f3⟩
      · exact absurd rfl ne
      · exact g4 _ _ _ _ _ _ _ _ hq f3 ne
    · rcases key _ _ _ _ e3 with ⟨rfl, rfl, rfl, rfl⟩ | ⟨ne3, f3⟩
      · exact g4 _ _ _ _ _ _ _ _ f2 hq ne
      · exact g4 _ _ _ _ _ _ _ _ f2 f3 ne
theorem HS.ext (H : HS Z D n0 P os sz h) (E : Ext h h') : HS Z D n0 P os h'.size h' := by
  obtain ⟨g1, g2, g3, g4, g5, g6⟩ := H
  exact ⟨rfl, by have := E.1; omega, fun q2 b2 k2 O2 e => ⟨(g3 _ _ _ _ e).1.ext E, (g3 _ _ _ _ e).2⟩, g4, g5, g5 _ _ E g6⟩
theorem HS.new (cw : CW Z a0 D) (H : HS Z D n0 P os sz h) (hk : ∀ o ∈ os, o.2.1 = D.AS.length) (hP : ∀ b, n0 ≤ b → StB D b P) (E : Ext h h') (hs : h'.size = sz + 1) (A : Exa Z h' h.size D.C)
    (F : ∀ {O nm d : String} {ty : FieldType}, Laid Z a0 D.C O nm d → parseFieldDescriptor d = some ty → Fld Z h' h.size O nm d (defaultValue ty)) : HS Z D n0 P (os ++ [(sz, 0, zM)]) (sz + 1) h' := by
  obtain ⟨g1, g2, g3, g4, g5, g6⟩ := H
  subst g1
  obtain ⟨c1, c2, c3, c4, c5⟩ := cw
  have key : ∀ q2 b2 k2 O2, (os ++ [(h.size, 0, zM)])[q2]? = some (b2, k2, O2) → (q2 < os.length ∧ os[q2]? = some (b2, k2, O2)) ∨ (q2 = os.length ∧ b2 = h.size ∧ k2 = 0 ∧ O2 = zM) := fun q2 b2 k2 O2 e => by
    by_cases l : q2 < os.length
    · rw [List.getElem?_append_left l] at e; exact Or.inl ⟨l, e⟩
    · rw [List.getElem?_append_right (by omega)] at e
      have : q2 - os.length = 0 := by have := (List.getElem?_eq_some_iff.mp e).1; simp at this; omega
      rw [this] at e
      simp at e
      exact Or.inr ⟨by omega, e.1.symm, e.2.1.symm, e.2.2.symm⟩
  have low : ∀ q2 b2 k2 O2, os[q2]? = some (b2, k2, O2) → b2 + D.AS.length < h.size := fun q2 b2 k2 O2 e => (g3 _ _ _ _ e).1.top (hk _ (List.mem_of_getElem? e))
  refine ⟨hs, by omega, fun q2 b2 k2 O2 e => ?_, fun q2 q3 b2 k2 O2 b3 k3 O3 e2 e3 ne => ?_, g5, g5 _ _ E g6⟩
  · rcases key _ _ _ _ e with ⟨-, e⟩ | ⟨-, rfl, rfl, rfl⟩
    · exact ⟨(g3 _ _ _ _ e).1.ext E, (g3 _ _ _ _ e).2⟩
    · refine ⟨⟨A, fun i n d t hf => ?_, fun j n d t len ha => ?_, fun j n d t len ha hj => absurd hj (by omega)⟩, by omega, hP _ (by omega)⟩
      · obtain ⟨l1, p1, t1⟩ := c1 _ _ _ _ hf
        have := F l1 p1
        rw [dflt_fv t1] at this
        exact ⟨this, okT0 t1⟩
      · obtain ⟨l1, p1, t1, -⟩ := c2 _ _ _ _ _ ha
        have := F l1 p1
        rw [if_neg (by omega)]
        exact this
  · rcases key _ _ _ _ e2 with ⟨-, e2⟩ | ⟨n2, rfl, rfl, rfl⟩ <;> rcases key _ _ _ _ e3 with ⟨-, e3⟩ | ⟨n3, rfl, rfl, rfl⟩
    · exact g4 _ _ _ _ _ _ _ _ e2 e3 ne
    · exact Or.inl (low _ _ _ _ e2)
    · exact Or.inr (low _ _ _ _ e3)
    · omega
/-- all objects but the q-th, with P: what a call on the q-th keeps -/
def Rest (Z : State) (D : Cls) (P : Heap → Prop) (os : List OB) (q : Nat) (h : Heap) : Prop := P h ∧ ∀ (q' b k : Nat) (O : Mo), q' ≠ q → os[q']? = some (b, k, O) → Obj Z D b k O h
theorem HS.split (H : HS Z D n0 P os sz h) (hq : os[q]? = some (b, k, O)) : HS Z D n0 (Rest Z D P os q) [(b, k, O)] sz h := by
  obtain ⟨g1, g2, g3, g4, g5, g6⟩ := H
  refine ⟨g1, g2, fun q2 b2 k2 O2 e => ?_, fun q2 q3 b2 k2 O2 b3 k3 O3 e2 e3 ne => ?_, fun x x' E hx => ⟨g5 _ _ E hx.1, fun q' b' k' O' n e => (hx.2 _ _ _ _ n e).ext E⟩, g6, fun q' b' k' O' n e => (g3 _ _ _ _ e).1⟩
  · have : q2 = 0 := by have := (List.getElem?_eq_some_iff.mp e).1; simp at this; omega
    subst this
    simp at e
    obtain ⟨rfl, rfl, rfl⟩ := e
    refine ⟨(g3 _ _ _ _ hq).1, (g3 _ _ _ _ hq).2.1, fun x x' a sl v l1 l2 W hx => ⟨(g3 _ _ _ _ hq).2.2 x x' a sl v l1 l2 W hx.1, fun q' b' k' O' n e => (hx.2 _ _ _ _ n e).other W ?_⟩⟩
    have := g4 _ _ _ _ _ _ _ _ e hq n
    omega
  · have h2 : q2 = 0 := by have := (List.getElem?_eq_some_iff.mp e2).1; simp at this; omega
    have h3 : q3 = 0 := by have := (List.getElem?_eq_some_iff.mp e3).1; simp at this; omega
    omega
theorem HS.merge (H : HS Z D n0 P os sz h) (hq : os[q]? = some (b, k, O)) {k' : Nat} {O' : Mo} {sz' : Nat} (M : HS Z D n0 (Rest Z D P os q) [(b, k', O')] sz' h') : HS Z D n0 P (os.set q (b, k', O')) sz' h' := by
  obtain ⟨g1, g2, g3, g4, g5, g6⟩ := H
  obtain ⟨m1, m2, m3, m4, m5, m6⟩ := M
  have hlt : q < os.length := (List.getElem?_eq_some_iff.mp hq).1
  have key : ∀ q2 b2 k2 O2, (os.set q (b, k', O'))[q2]? = some (b2, k2, O2) → (q2 = q ∧ b2 = b ∧ k2 = k' ∧ O2 = O') ∨ (q2 ≠ q ∧ os[q2]? = some (b2, k2, O2)) := fun q2 b2 k2 O2 e => by
    rw [List.getElem?_set] at e
    split at e
    · rename_i e2; subst e2
      cases e; exact Or.inl ⟨rfl, rfl, rfl, rfl⟩
    · rename_i e2; exact Or.inr ⟨fun e3 => e2 e3.symm, e⟩
  refine ⟨m1, m2, fun q2 b2 k2 O2 e => ?_, fun q2 q3 b2 k2 O2 b3 k3 O3 e2 e3 ne => ?_, g5, m6.1⟩
  · rcases key _ _ _ _ e with ⟨rfl, rfl, rfl, rfl⟩ | ⟨ne, e⟩
    · exact ⟨(m3 0 _ _ _ rfl).1, (g3 _ _ _ _ hq).2⟩
    · exact ⟨m6.2 _ _ _ _ ne e, (g3 _ _ _ _ e).2⟩
  · rcases key _ _ _ _ e2 with ⟨rfl, rfl, rfl, rfl⟩ | ⟨ne2, f2⟩
    · rcases key _ _ _ _ e3 with ⟨rfl, rfl, rfl, rfl⟩ | ⟨ne3, f3⟩
      · exact absurd rfl ne
      · exact g4 _ _ _ _ _ _ _ _ hq f3 ne
    · rcases key _ _ _ _ e3 with ⟨rfl, rfl, rfl, rfl⟩ | ⟨ne3, f3⟩
      · exact g4 _ _ _ _ _ _ _ _ f2 hq ne
      · exact g4 _ _ _ _ _ _ _ _ f2 f3 ne
def RestA (Z : State) (D : Cls) (P : Heap → Prop) (os : List OB) (h : Heap) : Prop := P h ∧ ∀ (q' b k : Nat) (O : Mo), os[q']? = some (b, k, O) → Obj Z D b k O h
theorem HS.split0 (H : HS Z D n0 P os sz h) : HS Z D n0 (RestA Z D P os) [] sz h := by
  obtain ⟨g1, g2, g3, g4, g5, g6⟩ := H
  exact ⟨g1, g2, fun q2 b2 k2 O2 e => by simp at e, fun q2 q3 b2 k2 O2 b3 k3 O3 e2 e3 ne => by simp at e2, fun x x' E hx => ⟨g5 _ _ E hx.1, fun q' b' k' O' e => (hx.2 _ _ _ _ e).ext E⟩, g6, fun q' b' k' O' e => (g3 _ _ _ _ e).1⟩
theorem HS.merge0 (H : HS Z D n0 P os sz h) {sz' : Nat} (M : HS Z D n0 (RestA Z D P os) [] sz' h') : HS Z D n0 P os sz' h' := by
  obtain ⟨g1, g2, g3, g4, g5, g6⟩ := H
  obtain ⟨m1, m2, m3, m4, m5, m6⟩ := M
  exact ⟨m1, m2, fun q2 b2 k2 O2 e => ⟨m6.2 _ _ _ _ e, (g3 _ _ _ _ e).2⟩, g4, g5, m6.1⟩
end Heaps
section Runs
def Cx (Z : State) (y : MethodName) (bytes : ByteArray) (maxL : Nat) (ret : Option FieldType) (p : Program) (s : State) (m : MethodId) (meth : Method) (c : Code) : Prop :=
  p.tables.exec = Jvm.exec ∧ c.code = bytes ∧ c.maxLocals = maxL ∧ meth.sig.returnType = ret ∧ s.vm.findClass y.cls = some m.cls ∧ meth.name = y.name ∧ Z.Warmed39 s.vm ∧ meth.locks = false
/-- from here the method returns v, and leaves the objects os' -/
def Go (l : Launch) (Z : State) (D : Cls) (n0 : Nat) (P : Heap → Prop) (y : MethodName) (bytes : ByteArray) (maxL : Nat) (ret : Option FieldType) (R : Room)
    (pc : Nat) (L : List (Option V)) (S : List V) (os : List OB) (sz cu su : Nat) (Q : Option V → Heap → Prop) : Prop :=
  ∀ (p : Program) (e : Env) (s : State) (m : MethodId) (args : Array Value) (below : List Frame) (meth : Method) (c : Code), Cx Z y bytes maxL ret p s m meth c →
  ∀ (T : State) (locs : List Loc), Stand p l e R s m args below meth c T locs cu su → HS Z D n0 P os sz T.heap → sz = s.heap.size + cu → Fr n0 locs → ∀ Ls : Array Slot, Ls.size = maxL → LocRel L Ls → okS S →
  ∃ (s₂ : State) (locs' : List Loc) (cu' su' : Nat) (v : Option V), Steps p.tables e below (T.setTop (mkF m pc Ls (S.map rv))) s₂ ∧ s₂.status = .running ∧ Ended s₂ below (.returned (v.map rv)) ∧ s.WarmedH s₂.vm ∧
    s.sameButNew ({ s₂ with vm := s.vm } : State) locs' cu' su' ∧ cu' ≤ R.cells ∧ su' ≤ R.slots ∧ Q v s₂.heap ∧ Fr n0 locs' ∧ (∀ w, v = some w → okV w)
variable {l : Launch} {Z : State} {a0 : Array Value} {D : Cls} {n0 : Nat} {P : Heap → Prop} {y : MethodName} {bytes : ByteArray} {maxL : Nat} {ret : Option FieldType} {R : Room} {pc pc2 pc3 : Nat} {L L2 : List (Option V)} {S S2 : List V} {os os2 os' : List OB} {sz sz2 sz' cu cu2 su su2 : Nat} {v : Option V} {Q : Option V → Heap → Prop}
theorem okS_cons {u : V} (h : okV u) (hS : okS S) : okS (u :: S) := fun w hw => (List.mem_cons.mp hw).elim (fun e => e ▸ h) (hS w)
theorem okS_tail {u : V} (hS : okS (u :: S)) : okS S := fun w hw => hS w (List.mem_cons_of_mem _ hw)
theorem okS_head {u : V} (hS : okS (u :: S)) : okV u := hS u (List.mem_cons_self ..)
theorem Go.step (h : Go l Z D n0 P y bytes maxL ret R pc2 L2 S2 os2 sz2 cu2 su2 Q)
    (hs : ∀ (p : Program) (e : Env) (s : State) (m : MethodId) (args : Array Value) (below : List Frame) (meth : Method) (c : Code), Cx Z y bytes maxL ret p s m meth c →
      ∀ (T : State) (locs : List Loc), Stand p l e R s m args below meth c T locs cu su → HS Z D n0 P os sz T.heap → sz = s.heap.size + cu → Fr n0 locs → ∀ Ls : Array Slot, Ls.size = maxL → LocRel L Ls → okS S →
      ∃ (T2 : State) (locs2 : List Loc) (Ls2 : Array Slot), Stand p l e R s m args below meth c T2 locs2 cu2 su2 ∧ HS Z D n0 P os2 sz2 T2.heap ∧ sz2 = s.heap.size + cu2 ∧ Fr n0 locs2 ∧ Ls2.size = maxL ∧ LocRel L2 Ls2 ∧ okS S2 ∧
        ∀ target, Steps p.tables e below (T2.setTop (mkF m pc2 Ls2 (S2.map rv))) target → Steps p.tables e below (T.setTop (mkF m pc Ls (S.map rv))) target) :
    Go l Z D n0 P y bytes maxL ret R pc L S os sz cu su Q := by
  intro p e s m args below meth c hc T locs X H hz hF Ls hl hL hS
  obtain ⟨T2, locs2, Ls2, X2, H2, hz2, hF2, hl2, hL2, hS2, st⟩ := hs p e s m args below meth c hc T locs X H hz hF Ls hl hL hS
  obtain ⟨s2, locs', cu', su', v, g, r⟩ := h p e s m args below meth c hc T2 locs2 X2 H2 hz2 hF2 Ls2 hl2 hL2 hS2
  exact ⟨s2, locs', cu', su', v, st _ g, r⟩
theorem Go.pure (h : Go l Z D n0 P y bytes maxL ret R pc2 L S2 os sz cu su Q)
    (hok : ∀ Ls, LocRel L Ls → okS S → okS S2)
    (hs : ∀ (p : Program) (e : Env) (s : State) (m : MethodId) (args : Array Value) (below : List Frame) (meth : Method) (c : Code), Cx Z y bytes maxL ret p s m meth c →
      ∀ (T : State) (locs : List Loc), Stand p l e R s m args below meth c T locs cu su → HS Z D n0 P os sz T.heap → ∀ Ls : Array Slot, Ls.size = maxL → LocRel L Ls → okS S →
        ∀ target, Steps p.tables e below (T.setTop (mkF m pc2 Ls (S2.map rv))) target → Steps p.tables e below (T.setTop (mkF m pc Ls (S.map rv))) target) :
    Go l Z D n0 P y bytes maxL ret R pc L S os sz cu su Q :=
  Go.step h fun p e s m args below meth c hc T locs X H hz hF Ls hl hL hS => ⟨T, locs, Ls, X, H, hz, hF, hl, hL, hok Ls hL hS, hs p e s m args below meth c hc T locs X H Ls hl hL hS⟩
theorem Go.mask (bs : List Bool) (h : Go l Z D n0 P y bytes maxL ret R pc (mask bs L) S os sz cu su Q) : Go l Z D n0 P y bytes maxL ret R pc L S os sz cu su Q :=
  Go.step h fun p e s m args below meth c hc T locs X H hz hF Ls hl hL hS => ⟨T, locs, Ls, X, H, hz, hF, hl, hL.mask bs, hS, fun _ k => k⟩

theorem Go.iloadN {k : Fin 4} {x : Int} (hd : decode bytes pc = .ok (.iload_n k, 1)) (hp : pc + 1 = pc2) (hx : L[k.val]? = some (some (vI x))) (h : Go l Z D n0 P y bytes maxL ret R pc2 L (vI x :: S) os sz cu su Q) : Go l Z D n0 P y bytes maxL ret R pc L S os sz cu su Q := by
  subst hp
  refine Go.pure h (fun Ls hL hS => okS_cons (hL.2.2 _ _ hx).2 hS) (fun p e s m args below meth c hc T locs X H Ls hl hL hS target hr => ?_)
  exact XS.iloadN X.here hc.1 rfl (hb hc.2.1 hd) (hL.2.2 _ _ hx).1 hr
theorem Go.iload {k : Nat} {x : Int} (hd : decode bytes pc = .ok (.iload k, 2)) (hp : pc + 2 = pc2) (hx : L[k]? = some (some (vI x))) (h : Go l Z D n0 P y bytes maxL ret R pc2 L (vI x :: S) os sz cu su Q) : Go l Z D n0 P y bytes maxL ret R pc L S os sz cu su Q := by
  subst hp
  refine Go.pure h (fun Ls hL hS => okS_cons (hL.2.2 _ _ hx).2 hS) (fun p e s m args below meth c hc T locs X H Ls hl hL hS target hr => ?_)
  exact XS.iload X.here hc.1 rfl (hb hc.2.1 hd) (hL.2.2 _ _ hx).1 hr
theorem Go.lloadN {k : Fin 4} {x : Int} (hd : decode bytes pc = .ok (.lload_n k, 1)) (hp : pc + 1 = pc2) (hx : L[k.val]? = some (some (vJ x))) (h : Go l Z D n0 P y bytes maxL ret R pc2 L (vJ x :: S) os sz cu su Q) : Go l Z D n0 P y bytes maxL ret R pc L S os sz cu su Q := by
  subst hp
  refine Go.pure h (fun Ls hL hS => okS_cons (hL.2.2 _ _ hx).2 hS) (fun p e s m args below meth c hc T locs X H Ls hl hL hS target hr => ?_)
  exact XT.lloadN X.here hc.1 rfl (hb hc.2.1 hd) (hL.2.2 _ _ hx).1 hr
theorem Go.lload {k : Nat} {x : Int} (hd : decode bytes pc = .ok (.lload k, 2)) (hp : pc + 2 = pc2) (hx : L[k]? = some (some (vJ x))) (h : Go l Z D n0 P y bytes maxL ret R pc2 L (vJ x :: S) os sz cu su Q) : Go l Z D n0 P y bytes maxL ret R pc L S os sz cu su Q := by
  subst hp
  refine Go.pure h (fun Ls hL hS => okS_cons (hL.2.2 _ _ hx).2 hS) (fun p e s m args below meth c hc T locs X H Ls hl hL hS target hr => ?_)
  exact XT.lload X.here hc.1 rfl (hb hc.2.1 hd) (hL.2.2 _ _ hx).1 hr
theorem Go.aloadN {k : Fin 4} {x : Nat} (hd : decode bytes pc = .ok (.aload_n k, 1)) (hp : pc + 1 = pc2) (hx : L[k.val]? = some (some (vR x))) (h : Go l Z D n0 P y bytes maxL ret R pc2 L (vR x :: S) os sz cu su Q) : Go l Z D n0 P y bytes maxL ret R pc L S os sz cu su Q := by
  subst hp
  refine Go.pure h (fun Ls hL hS => okS_cons (hL.2.2 _ _ hx).2 hS) (fun p e s m args below meth c hc T locs X H Ls hl hL hS target hr => ?_)
  exact XS.aloadN X.here hc.1 rfl (hb hc.2.1 hd) (hL.2.2 _ _ hx).1 rfl hr
theorem Go.aload {k : Nat} {x : Nat} (hd : decode bytes pc = .ok (.aload k, 2)) (hp : pc + 2 = pc2) (hx : L[k]? = some (some (vR x))) (h : Go l Z D n0 P y bytes maxL ret R pc2 L (vR x :: S) os sz cu su Q) : Go l Z D n0 P y bytes maxL ret R pc L S os sz cu su Q := by
  subst hp
  refine Go.pure h (fun Ls hL hS => okS_cons (hL.2.2 _ _ hx).2 hS) (fun p e s m args below meth c hc T locs X H Ls hl hL hS target hr => ?_)
  exact XS.aload X.here hc.1 rfl (hb hc.2.1 hd) (hL.2.2 _ _ hx).1 rfl hr
theorem Go.istoreN {k : Fin 4} {x : Int} (hd : decode bytes pc = .ok (.istore_n k, 1)) (hp : pc + 1 = pc2) (hk : k.val < L.length) (hL2 : st1 L k.val (vI x) = L2) (h : Go l Z D n0 P y bytes maxL ret R pc2 L2 S os sz cu su Q) : Go l Z D n0 P y bytes maxL ret R pc L (vI x :: S) os sz cu su Q := by
  subst hp hL2
  refine Go.step h fun p e s m args below meth c hc T locs X H hz hF Ls hl hL hS => ?_
  obtain ⟨Ls', e1, e2⟩ := st1_ok hL hk (okS_head hS) (fun _ q => by cases q)
  exact ⟨T, locs, Ls', X, H, hz, hF, by rw [← hl, e2.1, hL.1]; simp [st2, st1_len], e2, okS_tail hS, fun target hr => XS.istoreN X.here hc.1 rfl (hb hc.2.1 hd) rfl e1 hr⟩
theorem Go.istore {k : Nat} {x : Int} (hd : decode bytes pc = .ok (.istore k, 2)) (hp : pc + 2 = pc2) (hk : k < L.length) (hL2 : st1 L k (vI x) = L2) (h : Go l Z D n0 P y bytes maxL ret R pc2 L2 S os sz cu su Q) : Go l Z D n0 P y bytes maxL ret R pc L (vI x :: S) os sz cu su Q := by
  subst hp hL2
  refine Go.step h fun p e s m args below meth c hc T locs X H hz hF Ls hl hL hS => ?_
  obtain ⟨Ls', e1, e2⟩ := st1_ok hL hk (okS_head hS) (fun _ q => by cases q)
  exact ⟨T, locs, Ls', X, H, hz, hF, by rw [← hl, e2.1, hL.1]; simp [st2, st1_len], e2, okS_tail hS, fun target hr => XS.istore X.here hc.1 rfl (hb hc.2.1 hd) rfl e1 hr⟩
theorem Go.astoreN {k : Fin 4} {x : Nat} (hd : decode bytes pc = .ok (.astore_n k, 1)) (hp : pc + 1 = pc2) (hk : k.val < L.length) (hL2 : st1 L k.val (vR x) = L2) (h : Go l Z D n0 P y bytes maxL ret R pc2 L2 S os sz cu su Q) : Go l Z D n0 P y bytes maxL ret R pc L (vR x :: S) os sz cu su Q := by
  subst hp hL2
  refine Go.step h fun p e s m args below meth c hc T locs X H hz hF Ls hl hL hS => ?_
  obtain ⟨Ls', e1, e2⟩ := st1_ok hL hk (okS_head hS) (fun _ q => by cases q)
  exact ⟨T, locs, Ls', X, H, hz, hF, by rw [← hl, e2.1, hL.1]; simp [st2, st1_len], e2, okS_tail hS, fun target hr => XS.astoreN X.here hc.1 rfl (hb hc.2.1 hd) rfl rfl e1 hr⟩
theorem Go.astore {k : Nat} {x : Nat} (hd : decode bytes pc = .ok (.astore k, 2)) (hp : pc + 2 = pc2) (hk : k < L.length) (hL2 : st1 L k (vR x) = L2) (h : Go l Z D n0 P y bytes maxL ret R pc2 L2 S os sz cu su Q) : Go l Z D n0 P y bytes maxL ret R pc L (vR x :: S) os sz cu su Q := by
  subst hp hL2
  refine Go.step h fun p e s m args below meth c hc T locs X H hz hF Ls hl hL hS => ?_
  obtain ⟨Ls', e1, e2⟩ := st1_ok hL hk (okS_head hS) (fun _ q => by cases q)
  exact ⟨T, locs, Ls', X, H, hz, hF, by rw [← hl, e2.1, hL.1]; simp [st2, st1_len], e2, okS_tail hS, fun target hr => XS.astore X.here hc.1 rfl (hb hc.2.1 hd) rfl rfl e1 hr⟩
theorem Go.lstoreN {k : Fin 4} {x : Int} (hd : decode bytes pc = .ok (.lstore_n k, 1)) (hp : pc + 1 = pc2) (hk : k.val + 1 < L.length) (hL2 : st2 L k.val x = L2) (h : Go l Z D n0 P y bytes maxL ret R pc2 L2 S os sz cu su Q) : Go l Z D n0 P y bytes maxL ret R pc L (vJ x :: S) os sz cu su Q := by
  subst hp hL2
  refine Go.step h fun p e s m args below meth c hc T locs X H hz hF Ls hl hL hS => ?_
  obtain ⟨Ls', e1, e2⟩ := st2_ok hL hk (okS_head hS)
  exact ⟨T, locs, Ls', X, H, hz, hF, by rw [← hl, e2.1, hL.1]; simp [st2, st1_len], e2, okS_tail hS, fun target hr => XT.lstoreN X.here hc.1 rfl (hb hc.2.1 hd) rfl e1 hr⟩
theorem Go.lstore {k : Nat} {x : Int} (hd : decode bytes pc = .ok (.lstore k, 2)) (hp : pc + 2 = pc2) (hk : k + 1 < L.length) (hL2 : st2 L k x = L2) (h : Go l Z D n0 P y bytes maxL ret R pc2 L2 S os sz cu su Q) : Go l Z D n0 P y bytes maxL ret R pc L (vJ x :: S) os sz cu su Q := by
  subst hp hL2
  refine Go.step h fun p e s m args below meth c hc T locs X H hz hF Ls hl hL hS => ?_
  obtain ⟨Ls', e1, e2⟩ := st2_ok hL hk (okS_head hS)
  exact ⟨T, locs, Ls', X, H, hz, hF, by rw [← hl, e2.1, hL.1]; simp [st2, st1_len], e2, okS_tail hS, fun target hr => XT.lstore X.here hc.1 rfl (hb hc.2.1 hd) rfl e1 hr⟩
theorem Go.iconst {i : Int} (hd : decode bytes pc = .ok (.iconst i, 1)) (hp : pc + 1 = pc2) (hi : R32 i) (h : Go l Z D n0 P y bytes maxL ret R pc2 L (vI i :: S) os sz cu su Q) : Go l Z D n0 P y bytes maxL ret R pc L S os sz cu su Q := by
  subst hp
  refine Go.pure h (fun Ls hL hS => okS_cons hi hS) (fun p e s m args below meth c hc T locs X H Ls hl hL hS target hr => ?_)
  exact XS.iconst X.here hc.1 rfl (hb hc.2.1 hd) hr
theorem Go.bipush {i : Int} (hd : decode bytes pc = .ok (.bipush i, 2)) (hp : pc + 2 = pc2) (hi : (Int8.ofInt i).toInt32 = Int32.ofInt i ∧ R32 i) (h : Go l Z D n0 P y bytes maxL ret R pc2 L (vI i :: S) os sz cu su Q) : Go l Z D n0 P y bytes maxL ret R pc L S os sz cu su Q := by
  subst hp
  refine Go.pure h (fun Ls hL hS => okS_cons hi.2 hS) (fun p e s m args below meth c hc T locs X H Ls hl hL hS target hr => ?_)
  exact XS.bipush X.here hc.1 rfl (hb hc.2.1 hd) (by rw [hi.1]; exact hr)
theorem Go.sipush {i : Int} (hd : decode bytes pc = .ok (.sipush i, 3)) (hp : pc + 3 = pc2) (hi : (Int16.ofInt i).toInt32 = Int32.ofInt i ∧ R32 i) (h : Go l Z D n0 P y bytes maxL ret R pc2 L (vI i :: S) os sz cu su Q) : Go l Z D n0 P y bytes maxL ret R pc L S os sz cu su Q := by
  subst hp
  refine Go.pure h (fun Ls hL hS => okS_cons hi.2 hS) (fun p e s m args below meth c hc T locs X H Ls hl hL hS target hr => ?_)
  exact XS.sipush X.here hc.1 rfl (hb hc.2.1 hd) (by rw [hi.1]; exact hr)
theorem Go.lconst {k : Fin 2} {i : Int} (hd : decode bytes pc = .ok (.lconst k, 1)) (hp : pc + 1 = pc2) (hi : Int64.ofNat k.val = Int64.ofInt i ∧ R64 i) (h : Go l Z D n0 P y bytes maxL ret R pc2 L (vJ i :: S) os sz cu su Q) : Go l Z D n0 P y bytes maxL ret R pc L S os sz cu su Q := by
  subst hp
  refine Go.pure h (fun Ls hL hS => okS_cons hi.2 hS) (fun p e s m args below meth c hc T locs X H Ls hl hL hS target hr => ?_)
  exact XT.lconst X.here hc.1 rfl (hb hc.2.1 hd) (by rw [hi.1]; exact hr)
theorem Go.ldc {k : Nat} {w : Int32} {i : Int} (hd : decode bytes pc = .ok (.ldc k, 2)) (hp : pc + 2 = pc2) {own : String} (ho : y.cls = own) (wc : (Cond.constant own k w).before a0 Z = true) (hi : w = Int32.ofInt i ∧ R32 i) (h : Go l Z D n0 P y bytes maxL ret R pc2 L (vI i :: S) os sz cu su Q) : Go l Z D n0 P y bytes maxL ret R pc L S os sz cu su Q := by
  subst hp
  refine Go.pure h (fun Ls hL hS => okS_cons hi.2 hS) (fun p e s m args below meth c hc T locs X H Ls hl hL hS target hr => ?_)
  subst ho
  exact X.ldcI hc.1 hc.2.2.2.2.1 (mv hc.2.2.2.2.2.2.1 wc) rfl (hb hc.2.1 hd) (by rw [hi.1]; exact hr)
theorem Go.ldc2 {k : Nat} {w : Int64} {i : Int} (hd : decode bytes pc = .ok (.ldc2_w k, 3)) (hp : pc + 3 = pc2) {own : String} (ho : y.cls = own) (wc : (Cond.constantLong own k w).before a0 Z = true) (hi : w = Int64.ofInt i ∧ R64 i) (h : Go l Z D n0 P y bytes maxL ret R pc2 L (vJ i :: S) os sz cu su Q) : Go l Z D n0 P y bytes maxL ret R pc L S os sz cu su Q := by
  subst hp
  refine Go.pure h (fun Ls hL hS => okS_cons hi.2 hS) (fun p e s m args below meth c hc T locs X H Ls hl hL hS target hr => ?_)
  subst ho
  exact X.ldc2J hc.1 hc.2.2.2.2.1 (mv hc.2.2.2.2.2.2.1 wc) rfl (hb hc.2.1 hd) (by rw [hi.1]; exact hr)
theorem Go.iadd {x y' : Int} (hd : decode bytes pc = .ok (.iadd, 1)) (hp : pc + 1 = pc2) (h : Go l Z D n0 P y bytes maxL ret R pc2 L (vI (w32 (x + y')) :: S) os sz cu su Q) : Go l Z D n0 P y bytes maxL ret R pc L (vI y' :: vI x :: S) os sz cu su Q := by
  subst hp
  refine Go.pure h (fun Ls hL hS => okS_cons (rw32 _) (okS_tail (okS_tail hS))) (fun p e s m args below meth c hc T locs X H Ls hl hL hS target hr => ?_)
  exact XS.iadd X.here hc.1 rfl (hb hc.2.1 hd) rfl (by rw [add32o]; exact hr)
theorem Go.isub {x y' : Int} (hd : decode bytes pc = .ok (.isub, 1)) (hp : pc + 1 = pc2) (h : Go l Z D n0 P y bytes maxL ret R pc2 L (vI (w32 (x - y')) :: S) os sz cu su Q) : Go l Z D n0 P y bytes maxL ret R pc L (vI y' :: vI x :: S) os sz cu su Q := by
  subst hp
  refine Go.pure h (fun Ls hL hS => okS_cons (rw32 _) (okS_tail (okS_tail hS))) (fun p e s m args below meth c hc T locs X H Ls hl hL hS target hr => ?_)
  exact XS.isub X.here hc.1 rfl (hb hc.2.1 hd) rfl (by rw [sub32o]; exact hr)
theorem Go.imul {x y' : Int} (hd : decode bytes pc = .ok (.imul, 1)) (hp : pc + 1 = pc2) (h : Go l Z D n0 P y bytes maxL ret R pc2 L (vI (w32 (x * y')) :: S) os sz cu su Q) : Go l Z D n0 P y bytes maxL ret R pc L (vI y' :: vI x :: S) os sz cu su Q := by
  subst hp
  refine Go.pure h (fun Ls hL hS => okS_cons (rw32 _) (okS_tail (okS_tail hS))) (fun p e s m args below meth c hc T locs X H Ls hl hL hS target hr => ?_)
  exact XS.imul X.here hc.1 rfl (hb hc.2.1 hd) rfl (by rw [mul32o]; exact hr)
theorem Go.iand {x y' : Int} (hd : decode bytes pc = .ok (.iand, 1)) (hp : pc + 1 = pc2) (h : Go l Z D n0 P y bytes maxL ret R pc2 L (vI (and32 x y') :: S) os sz cu su Q) : Go l Z D n0 P y bytes maxL ret R pc L (vI y' :: vI x :: S) os sz cu su Q := by
  subst hp
  refine Go.pure h (fun Ls hL hS => okS_cons (r32t _) (okS_tail (okS_tail hS))) (fun p e s m args below meth c hc T locs X H Ls hl hL hS target hr => ?_)
  exact XS.iand X.here hc.1 rfl (hb hc.2.1 hd) rfl (by rw [← of32 (Int32.ofInt x &&& Int32.ofInt y')]; exact hr)
theorem Go.ior {x y' : Int} (hd : decode bytes pc = .ok (.ior, 1)) (hp : pc + 1 = pc2) (h : Go l Z D n0 P y bytes maxL ret R pc2 L (vI (or32 x y') :: S) os sz cu su Q) : Go l Z D n0 P y bytes maxL ret R pc L (vI y' :: vI x :: S) os sz cu su Q := by
  subst hp
  refine Go.pure h (fun Ls hL hS => okS_cons (r32t _) (okS_tail (okS_tail hS))) (fun p e s m args below meth c hc T locs X H Ls hl hL hS target hr => ?_)
  exact XT.ior X.here hc.1 rfl (hb hc.2.1 hd) rfl (by rw [← of32 (Int32.ofInt x ||| Int32.ofInt y')]; exact hr)
theorem Go.ixor {x y' : Int} (hd : decode bytes pc = .ok (.ixor, 1)) (hp : pc + 1 = pc2) (h : Go l Z D n0 P y bytes maxL ret R pc2 L (vI (xor32 x y') :: S) os sz cu su Q) : Go l Z D n0 P y bytes maxL ret R pc L (vI y' :: vI x :: S) os sz cu su Q := by
  subst hp
  refine Go.pure h (fun Ls hL hS => okS_cons (r32t _) (okS_tail (okS_tail hS))) (fun p e s m args below meth c hc T locs X H Ls hl hL hS target hr => ?_)
  exact XT.ixor X.here hc.1 rfl (hb hc.2.1 hd) rfl (by rw [← of32 (Int32.ofInt x ^^^ Int32.ofInt y')]; exact hr)
theorem Go.ishl {x y' : Int} (hd : decode bytes pc = .ok (.ishl, 1)) (hp : pc + 1 = pc2) (h : Go l Z D n0 P y bytes maxL ret R pc2 L (vI (shl32 x y') :: S) os sz cu su Q) : Go l Z D n0 P y bytes maxL ret R pc L (vI y' :: vI x :: S) os sz cu su Q := by
  subst hp
  refine Go.pure h (fun Ls hL hS => okS_cons (r32t _) (okS_tail (okS_tail hS))) (fun p e s m args below meth c hc T locs X H Ls hl hL hS target hr => ?_)
  exact XT.ishl X.here hc.1 rfl (hb hc.2.1 hd) rfl (by rw [← of32 (Int32.ofInt x <<< (Int32.ofInt y' &&& 31))]; exact hr)
theorem Go.ishr {x y' : Int} (hd : decode bytes pc = .ok (.ishr, 1)) (hp : pc + 1 = pc2) (h : Go l Z D n0 P y bytes maxL ret R pc2 L (vI (shr32 x y') :: S) os sz cu su Q) : Go l Z D n0 P y bytes maxL ret R pc L (vI y' :: vI x :: S) os sz cu su Q := by
  subst hp
  refine Go.pure h (fun Ls hL hS => okS_cons (r32t _) (okS_tail (okS_tail hS))) (fun p e s m args below meth c hc T locs X H Ls hl hL hS target hr => ?_)
  exact XT.ishr X.here hc.1 rfl (hb hc.2.1 hd) rfl (by rw [← of32 (Int32.ofInt x >>> (Int32.ofInt y' &&& 31))]; exact hr)
theorem Go.iushr {x y' : Int} (hd : decode bytes pc = .ok (.iushr, 1)) (hp : pc + 1 = pc2) (h : Go l Z D n0 P y bytes maxL ret R pc2 L (vI (ushr32 x y') :: S) os sz cu su Q) : Go l Z D n0 P y bytes maxL ret R pc L (vI y' :: vI x :: S) os sz cu su Q := by
  subst hp
  refine Go.pure h (fun Ls hL hS => okS_cons (r32t _) (okS_tail (okS_tail hS))) (fun p e s m args below meth c hc T locs X H Ls hl hL hS target hr => ?_)
  exact XT.iushr X.here hc.1 rfl (hb hc.2.1 hd) rfl (by rw [← of32 (XT.ushr (Int32.ofInt x) (Int32.ofInt y'))]; exact hr)
theorem Go.ladd {x y' : Int} (hd : decode bytes pc = .ok (.ladd, 1)) (hp : pc + 1 = pc2) (h : Go l Z D n0 P y bytes maxL ret R pc2 L (vJ (w64 (x + y')) :: S) os sz cu su Q) : Go l Z D n0 P y bytes maxL ret R pc L (vJ y' :: vJ x :: S) os sz cu su Q := by
  subst hp
  refine Go.pure h (fun Ls hL hS => okS_cons (rw64 _) (okS_tail (okS_tail hS))) (fun p e s m args below meth c hc T locs X H Ls hl hL hS target hr => ?_)
  exact XT.ladd X.here hc.1 rfl (hb hc.2.1 hd) rfl (by rw [add64o]; exact hr)
theorem Go.lsub {x y' : Int} (hd : decode bytes pc = .ok (.lsub, 1)) (hp : pc + 1 = pc2) (h : Go l Z D n0 P y bytes maxL ret R pc2 L (vJ (w64 (x - y')) :: S) os sz cu su Q) : Go l Z D n0 P y bytes maxL ret R pc L (vJ y' :: vJ x :: S) os sz cu su Q := by
  subst hp
  refine Go.pure h (fun Ls hL hS => okS_cons (rw64 _) (okS_tail (okS_tail hS))) (fun p e s m args below meth c hc T locs X H Ls hl hL hS target hr => ?_)
  exact XT.lsub X.here hc.1 rfl (hb hc.2.1 hd) rfl (by rw [sub64o]; exact hr)
theorem Go.lmul {x y' : Int} (hd : decode bytes pc = .ok (.lmul, 1)) (hp : pc + 1 = pc2) (h : Go l Z D n0 P y bytes maxL ret R pc2 L (vJ (w64 (x * y')) :: S) os sz cu su Q) : Go l Z D n0 P y bytes maxL ret R pc L (vJ y' :: vJ x :: S) os sz cu su Q := by
  subst hp
  refine Go.pure h (fun Ls hL hS => okS_cons (rw64 _) (okS_tail (okS_tail hS))) (fun p e s m args below meth c hc T locs X H Ls hl hL hS target hr => ?_)
  exact XT.lmul X.here hc.1 rfl (hb hc.2.1 hd) rfl (by rw [mul64o]; exact hr)
theorem Go.land {x y' : Int} (hd : decode bytes pc = .ok (.land, 1)) (hp : pc + 1 = pc2) (h : Go l Z D n0 P y bytes maxL ret R pc2 L (vJ (and64 x y') :: S) os sz cu su Q) : Go l Z D n0 P y bytes maxL ret R pc L (vJ y' :: vJ x :: S) os sz cu su Q := by
  subst hp
  refine Go.pure h (fun Ls hL hS => okS_cons (r64t _) (okS_tail (okS_tail hS))) (fun p e s m args below meth c hc T locs X H Ls hl hL hS target hr => ?_)
  exact XT.land X.here hc.1 rfl (hb hc.2.1 hd) rfl (by rw [← of64 (Int64.ofInt x &&& Int64.ofInt y')]; exact hr)
theorem Go.lor {x y' : Int} (hd : decode bytes pc = .ok (.lor, 1)) (hp : pc + 1 = pc2) (h : Go l Z D n0 P y bytes maxL ret R pc2 L (vJ (or64 x y') :: S) os sz cu su Q) : Go l Z D n0 P y bytes maxL ret R pc L (vJ y' :: vJ x :: S) os sz cu su Q := by
  subst hp
  refine Go.pure h (fun Ls hL hS => okS_cons (r64t _) (okS_tail (okS_tail hS))) (fun p e s m args below meth c hc T locs X H Ls hl hL hS target hr => ?_)
  exact XT.lor X.here hc.1 rfl (hb hc.2.1 hd) rfl (by rw [← of64 (Int64.ofInt x ||| Int64.ofInt y')]; exact hr)
theorem Go.lxor {x y' : Int} (hd : decode bytes pc = .ok (.lxor, 1)) (hp : pc + 1 = pc2) (h : Go l Z D n0 P y bytes maxL ret R pc2 L (vJ (xor64 x y') :: S) os sz cu su Q) : Go l Z D n0 P y bytes maxL ret R pc L (vJ y' :: vJ x :: S) os sz cu su Q := by
  subst hp
  refine Go.pure h (fun Ls hL hS => okS_cons (r64t _) (okS_tail (okS_tail hS))) (fun p e s m args below meth c hc T locs X H Ls hl hL hS target hr => ?_)
  exact XT.lxor X.here hc.1 rfl (hb hc.2.1 hd) rfl (by rw [← of64 (Int64.ofInt x ^^^ Int64.ofInt y')]; exact hr)
theorem Go.idiv {x y' : Int} (hd : decode bytes pc = .ok (.idiv, 1)) (hp : pc + 1 = pc2) (hy : y' ≠ 0) (h : Go l Z D n0 P y bytes maxL ret R pc2 L (vI (w32 (x.tdiv y')) :: S) os sz cu su Q) : Go l Z D n0 P y bytes maxL ret R pc L (vI y' :: vI x :: S) os sz cu su Q := by
  subst hp
  refine Go.pure h (fun Ls hL hS => okS_cons (rw32 _) (okS_tail (okS_tail hS))) (fun p e s m args below meth c hc T locs X H Ls hl hL hS target hr => ?_)
  exact XS.idiv X.here hc.1 rfl (hb hc.2.1 hd) rfl (fun q => hy ((eq32 (okS_head hS) (by decide)).mp (q.trans rfl))) (by rw [div32o (okS_head (okS_tail hS)) (okS_head hS)]; exact hr)
theorem Go.irem {x y' : Int} (hd : decode bytes pc = .ok (.irem, 1)) (hp : pc + 1 = pc2) (hy : y' ≠ 0) (h : Go l Z D n0 P y bytes maxL ret R pc2 L (vI (w32 (x.tmod y')) :: S) os sz cu su Q) : Go l Z D n0 P y bytes maxL ret R pc L (vI y' :: vI x :: S) os sz cu su Q := by
  subst hp
  refine Go.pure h (fun Ls hL hS => okS_cons (rw32 _) (okS_tail (okS_tail hS))) (fun p e s m args below meth c hc T locs X H Ls hl hL hS target hr => ?_)
  exact XS.irem X.here hc.1 rfl (hb hc.2.1 hd) rfl (fun q => hy ((eq32 (okS_head hS) (by decide)).mp (q.trans rfl))) (by rw [rem32o (okS_head (okS_tail hS)) (okS_head hS)]; exact hr)
theorem Go.ldiv {x y' : Int} (hd : decode bytes pc = .ok (.ldiv, 1)) (hp : pc + 1 = pc2) (hy : y' ≠ 0) (h : Go l Z D n0 P y bytes maxL ret R pc2 L (vJ (w64 (x.tdiv y')) :: S) os sz cu su Q) : Go l Z D n0 P y bytes maxL ret R pc L (vJ y' :: vJ x :: S) os sz cu su Q := by
  subst hp
  refine Go.pure h (fun Ls hL hS => okS_cons (rw64 _) (okS_tail (okS_tail hS))) (fun p e s m args below meth c hc T locs X H Ls hl hL hS target hr => ?_)
  exact XT.ldiv X.here hc.1 rfl (hb hc.2.1 hd) rfl (fun q => hy ((eq64 (okS_head hS) (by decide)).mp (q.trans rfl))) (by rw [div64o (okS_head (okS_tail hS)) (okS_head hS)]; exact hr)
theorem Go.lrem {x y' : Int} (hd : decode bytes pc = .ok (.lrem, 1)) (hp : pc + 1 = pc2) (hy : y' ≠ 0) (h : Go l Z D n0 P y bytes maxL ret R pc2 L (vJ (w64 (x.tmod y')) :: S) os sz cu su Q) : Go l Z D n0 P y bytes maxL ret R pc L (vJ y' :: vJ x :: S) os sz cu su Q := by
  subst hp
  refine Go.pure h (fun Ls hL hS => okS_cons (rw64 _) (okS_tail (okS_tail hS))) (fun p e s m args below meth c hc T locs X H Ls hl hL hS target hr => ?_)
  exact XT.lrem X.here hc.1 rfl (hb hc.2.1 hd) rfl (fun q => hy ((eq64 (okS_head hS) (by decide)).mp (q.trans rfl))) (by rw [rem64o (okS_head (okS_tail hS)) (okS_head hS)]; exact hr)
theorem Go.lshl {x y' : Int} (hd : decode bytes pc = .ok (.lshl, 1)) (hp : pc + 1 = pc2) (h : Go l Z D n0 P y bytes maxL ret R pc2 L (vJ (shl64 x y') :: S) os sz cu su Q) : Go l Z D n0 P y bytes maxL ret R pc L (vI y' :: vJ x :: S) os sz cu su Q := by
  subst hp
  refine Go.pure h (fun Ls hL hS => okS_cons (r64t _) (okS_tail (okS_tail hS))) (fun p e s m args below meth c hc T locs X H Ls hl hL hS target hr => ?_)
  exact XT.lshl X.here hc.1 rfl (hb hc.2.1 hd) rfl (by rw [← of64 (Int64.ofInt x <<< ((Int32.ofInt y').toInt64 &&& 63))]; exact hr)
theorem Go.lshr {x y' : Int} (hd : decode bytes pc = .ok (.lshr, 1)) (hp : pc + 1 = pc2) (h : Go l Z D n0 P y bytes maxL ret R pc2 L (vJ (shr64 x y') :: S) os sz cu su Q) : Go l Z D n0 P y bytes maxL ret R pc L (vI y' :: vJ x :: S) os sz cu su Q := by
  subst hp
  refine Go.pure h (fun Ls hL hS => okS_cons (r64t _) (okS_tail (okS_tail hS))) (fun p e s m args below meth c hc T locs X H Ls hl hL hS target hr => ?_)
  exact XT.lshr X.here hc.1 rfl (hb hc.2.1 hd) rfl (by rw [← of64 (Int64.ofInt x >>> ((Int32.ofInt y').toInt64 &&& 63))]; exact hr)
theorem Go.lushr {x y' : Int} (hd : decode bytes pc = .ok (.lushr, 1)) (hp : pc + 1 = pc2) (h : Go l Z D n0 P y bytes maxL ret R pc2 L (vJ (ushr64 x y') :: S) os sz cu su Q) : Go l Z D n0 P y bytes maxL ret R pc L (vI y' :: vJ x :: S) os sz cu su Q := by
  subst hp
  refine Go.pure h (fun Ls hL hS => okS_cons (r64t _) (okS_tail (okS_tail hS))) (fun p e s m args below meth c hc T locs X H Ls hl hL hS target hr => ?_)
  exact XT.lushr X.here hc.1 rfl (hb hc.2.1 hd) rfl (by rw [← of64 (XT.ushrL (Int64.ofInt x) (Int32.ofInt y'))]; exact hr)
theorem Go.ineg {x : Int} (hd : decode bytes pc = .ok (.ineg, 1)) (hp : pc + 1 = pc2) (h : Go l Z D n0 P y bytes maxL ret R pc2 L (vI (w32 (-x)) :: S) os sz cu su Q) : Go l Z D n0 P y bytes maxL ret R pc L (vI x :: S) os sz cu su Q := by
  subst hp
  refine Go.pure h (fun Ls hL hS => okS_cons (rw32 _) (okS_tail hS)) (fun p e s m args below meth c hc T locs X H Ls hl hL hS target hr => ?_)
  exact XS.ineg X.here hc.1 rfl (hb hc.2.1 hd) rfl (by rw [neg32o]; exact hr)
theorem Go.lneg {x : Int} (hd : decode bytes pc = .ok (.lneg, 1)) (hp : pc + 1 = pc2) (h : Go l Z D n0 P y bytes maxL ret R pc2 L (vJ (w64 (-x)) :: S) os sz cu su Q) : Go l Z D n0 P y bytes maxL ret R pc L (vJ x :: S) os sz cu su Q := by
  subst hp
  refine Go.pure h (fun Ls hL hS => okS_cons (rw64 _) (okS_tail hS)) (fun p e s m args below meth c hc T locs X H Ls hl hL hS target hr => ?_)
  exact XT.lneg X.here hc.1 rfl (hb hc.2.1 hd) rfl (by rw [neg64o]; exact hr)
theorem Go.i2l {x : Int} (hd : decode bytes pc = .ok (.i2l, 1)) (hp : pc + 1 = pc2) (h : Go l Z D n0 P y bytes maxL ret R pc2 L (vJ x :: S) os sz cu su Q) : Go l Z D n0 P y bytes maxL ret R pc L (vI x :: S) os sz cu su Q := by
  subst hp
  refine Go.pure h (fun Ls hL hS => okS_cons (show R64 x from ⟨by have := (okS_head hS).1; omega, by have := (okS_head hS).2; omega⟩) (okS_tail hS)) (fun p e s m args below meth c hc T locs X H Ls hl hL hS target hr => ?_)
  exact XT.i2l X.here hc.1 rfl (hb hc.2.1 hd) rfl (by rw [i2l_o (okS_head hS)]; exact hr)
theorem Go.l2i {x : Int} (hd : decode bytes pc = .ok (.l2i, 1)) (hp : pc + 1 = pc2) (h : Go l Z D n0 P y bytes maxL ret R pc2 L (vI (w32 x) :: S) os sz cu su Q) : Go l Z D n0 P y bytes maxL ret R pc L (vJ x :: S) os sz cu su Q := by
  subst hp
  refine Go.pure h (fun Ls hL hS => okS_cons (rw32 _) (okS_tail hS)) (fun p e s m args below meth c hc T locs X H Ls hl hL hS target hr => ?_)
  exact XT.l2i X.here hc.1 rfl (hb hc.2.1 hd) rfl (by rw [l2i_o]; exact hr)
theorem Go.i2b {x : Int} (hd : decode bytes pc = .ok (.i2b, 1)) (hp : pc + 1 = pc2) (h : Go l Z D n0 P y bytes maxL ret R pc2 L (vI (w8 x) :: S) os sz cu su Q) : Go l Z D n0 P y bytes maxL ret R pc L (vI x :: S) os sz cu su Q := by
  subst hp
  refine Go.pure h (fun Ls hL hS => okS_cons (show R32 (w8 x) from ⟨by have := r8 x; omega, by have := r8 x; omega⟩) (okS_tail hS)) (fun p e s m args below meth c hc T locs X H Ls hl hL hS target hr => ?_)
  exact XT.i2b X.here hc.1 rfl (hb hc.2.1 hd) rfl (by rw [i2b_o]; exact hr)
theorem Go.dup {u : V} (hd : decode bytes pc = .ok (.dup, 1)) (hp : pc + 1 = pc2) (hu : (rv u).category = 1) (h : Go l Z D n0 P y bytes maxL ret R pc2 L (u :: u :: S) os sz cu su Q) : Go l Z D n0 P y bytes maxL ret R pc L (u :: S) os sz cu su Q := by
  subst hp
  refine Go.pure h (fun Ls hL hS => okS_cons (okS_head hS) hS) (fun p e s m args below meth c hc T locs X H Ls hl hL hS target hr => ?_)
  exact XS.dup X.here hc.1 rfl (hb hc.2.1 hd) rfl hu hr
theorem Go.pop {u : V} (hd : decode bytes pc = .ok (.pop, 1)) (hp : pc + 1 = pc2) (hu : (rv u).category = 1) (h : Go l Z D n0 P y bytes maxL ret R pc2 L S os sz cu su Q) : Go l Z D n0 P y bytes maxL ret R pc L (u :: S) os sz cu su Q := by
  subst hp
  refine Go.pure h (fun Ls hL hS => okS_tail hS) (fun p e s m args below meth c hc T locs X H Ls hl hL hS target hr => ?_)
  exact XT.pop X.here hc.1 rfl (hb hc.2.1 hd) rfl hu hr
theorem Go.dup2 {u w : V} (hd : decode bytes pc = .ok (.dup2, 1)) (hp : pc + 1 = pc2) (hu : (rv u).category = 1) (hw : (rv w).category = 1) (h : Go l Z D n0 P y bytes maxL ret R pc2 L (u :: w :: u :: w :: S) os sz cu su Q) : Go l Z D n0 P y bytes maxL ret R pc L (u :: w :: S) os sz cu su Q := by
  subst hp
  refine Go.pure h (fun Ls hL hS => okS_cons (okS_head hS) (okS_cons (okS_head (okS_tail hS)) hS)) (fun p e s m args below meth c hc T locs X H Ls hl hL hS target hr => ?_)
  exact XT.dup2 X.here hc.1 rfl (hb hc.2.1 hd) rfl hu hw hr
theorem Go.iinc {k : Nat} {i x : Int} (hd : decode bytes pc = .ok (.iinc k i, 3)) (hp : pc + 3 = pc2) (hx : L[k]? = some (some (vI x))) (hL2 : st1 L k (vI (w32 (x + i))) = L2) (h : Go l Z D n0 P y bytes maxL ret R pc2 L2 S os sz cu su Q) : Go l Z D n0 P y bytes maxL ret R pc L S os sz cu su Q := by
  subst hp hL2
  refine Go.step h fun p e s m args below meth c hc T locs X H hz hF Ls hl hL hS => ?_
  obtain ⟨Ls', e1, e2⟩ := st1_ok (u := vI (w32 (x + i))) hL (List.getElem?_eq_some_iff.mp hx).1 (rw32 _) (fun _ q => by cases q)
  exact ⟨T, locs, Ls', X, H, hz, hF, by rw [← hl, e2.1, hL.1]; simp [st1_len], e2, hS, fun target hr => XS.iinc X.here hc.1 rfl (hb hc.2.1 hd) (hL.2.2 _ _ hx).1 (by rw [add32o]; exact e1) hr⟩
def cmp : ClassFile.Cond → Int → Int → Prop
  | .eq, x, y => x = y
  | .ne, x, y => ¬ x = y
  | .lt, x, y => x < y
  | .ge, x, y => y ≤ x
  | .gt, x, y => y < x
  | .le, x, y => x ≤ y
theorem cmp_icmp {cd : ClassFile.Cond} {x y : Int} (hx : R32 x) (hy : R32 y) : if_icmp.holds cd (Int32.ofInt x) (Int32.ofInt y) = true ↔ cmp cd x y := by
  cases cd <;> simp [if_icmp.holds, cmp, eq32 hx hy, lt32 hx hy, lt32 hy hx, Int32.le_iff_toInt_le, ti32 hx, ti32 hy]
theorem cmp_if {cd : ClassFile.Cond} {x : Int} (hx : R32 x) : ifCond.holds cd (Int32.ofInt x) = true ↔ cmp cd x 0 := by
  have h0 : R32 0 := by decide
  have e0 : (0 : Int32) = Int32.ofInt 0 := rfl
  have e1 : (Int32.ofInt 0).toInt = 0 := rfl
  cases cd <;> simp only [ifCond.holds, cmp, e0, beq_iff_eq, bne_iff_ne, ne_eq, decide_eq_true_eq, gt_iff_lt, ge_iff_le, eq32 hx h0, lt32 hx h0, lt32 h0 hx, Int32.le_iff_toInt_le, ti32 hx, e1]
theorem cmp_l {cd : ClassFile.Cond} {x y : Int} (hx : R64 x) (hy : R64 y) : ifCond.holds cd (XT.cmpL (Int64.ofInt x) (Int64.ofInt y)) = true ↔ cmp cd x y := by
  have key : XT.cmpL (Int64.ofInt x) (Int64.ofInt y) = if y < x then 1 else if x = y then 0 else -1 := by
    unfold XT.cmpL; simp only [lt64 hy hx, eq64 hx hy]
  rw [key]
  by_cases a : y < x
  · rw [if_pos a]; cases cd <;> simp [ifCond.holds, cmp] <;> omega
  · rw [if_neg a]
    by_cases b : x = y
    · rw [if_pos b]; cases cd <;> simp [ifCond.holds, cmp] <;> omega
    · rw [if_neg b]; cases cd <;> simp [ifCond.holds, cmp] <;> omega
theorem Go.icmpT {cd : ClassFile.Cond} {o x y' : Int} (hd : decode bytes pc = .ok (.if_icmp cd o, 3)) (hc' : cmp cd x y') (ho : 0 ≤ (pc : Int) + o) (hp : ((pc : Int) + o).toNat = pc2) (h : Go l Z D n0 P y bytes maxL ret R pc2 L S os sz cu su Q) : Go l Z D n0 P y bytes maxL ret R pc L (vI y' :: vI x :: S) os sz cu su Q :=
  Go.pure h (fun Ls hL hS => okS_tail (okS_tail hS)) fun p e s m args below meth c hc T locs X H Ls hl hL hS target hr => XS.icmpYes X.here hc.1 rfl rfl (hb hc.2.1 hd) rfl ((cmp_icmp (okS_head (okS_tail hS)) (okS_head hS)).mpr hc') ho hp hr
theorem Go.icmpF {cd : ClassFile.Cond} {o x y' : Int} (hd : decode bytes pc = .ok (.if_icmp cd o, 3)) (hc' : ¬ cmp cd x y') (hp : pc + 3 = pc2) (h : Go l Z D n0 P y bytes maxL ret R pc2 L S os sz cu su Q) : Go l Z D n0 P y bytes maxL ret R pc L (vI y' :: vI x :: S) os sz cu su Q := by
  subst hp
  exact Go.pure h (fun Ls hL hS => okS_tail (okS_tail hS)) fun p e s m args below meth c hc T locs X H Ls hl hL hS target hr => XS.icmpNo X.here hc.1 rfl (hb hc.2.1 hd) rfl (Bool.eq_false_iff.mpr fun q => hc' ((cmp_icmp (okS_head (okS_tail hS)) (okS_head hS)).mp q)) hr
theorem Go.ifT {cd : ClassFile.Cond} {o x : Int} (hd : decode bytes pc = .ok (.ifCond cd o, 3)) (hc' : cmp cd x 0) (ho : 0 ≤ (pc : Int) + o) (hp : ((pc : Int) + o).toNat = pc2) (h : Go l Z D n0 P y bytes maxL ret R pc2 L S os sz cu su Q) : Go l Z D n0 P y bytes maxL ret R pc L (vI x :: S) os sz cu su Q :=
  Go.pure h (fun Ls hL hS => okS_tail hS) fun p e s m args below meth c hc T locs X H Ls hl hL hS target hr => XS.ifYes X.here hc.1 rfl rfl (hb hc.2.1 hd) rfl ((cmp_if (okS_head hS)).mpr hc') ho hp hr
theorem Go.ifF {cd : ClassFile.Cond} {o x : Int} (hd : decode bytes pc = .ok (.ifCond cd o, 3)) (hc' : ¬ cmp cd x 0) (hp : pc + 3 = pc2) (h : Go l Z D n0 P y bytes maxL ret R pc2 L S os sz cu su Q) : Go l Z D n0 P y bytes maxL ret R pc L (vI x :: S) os sz cu su Q := by
  subst hp
  exact Go.pure h (fun Ls hL hS => okS_tail hS) fun p e s m args below meth c hc T locs X H Ls hl hL hS target hr => XS.ifNo X.here hc.1 rfl (hb hc.2.1 hd) rfl (Bool.eq_false_iff.mpr fun q => hc' ((cmp_if (okS_head hS)).mp q)) hr
theorem Go.lcmpT {cd : ClassFile.Cond} {o x y' : Int} (hd : decode bytes pc = .ok (.lcmp, 1)) (hd2 : decode bytes pc3 = .ok (.ifCond cd o, 3)) (hp3 : pc + 1 = pc3) (hc' : cmp cd x y') (ho : 0 ≤ (pc3 : Int) + o) (hp : ((pc3 : Int) + o).toNat = pc2) (h : Go l Z D n0 P y bytes maxL ret R pc2 L S os sz cu su Q) : Go l Z D n0 P y bytes maxL ret R pc L (vJ y' :: vJ x :: S) os sz cu su Q := by
  subst hp3
  exact Go.pure h (fun Ls hL hS => okS_tail (okS_tail hS)) fun p e s m args below meth c hc T locs X H Ls hl hL hS target hr => XT.lcmp X.here hc.1 rfl (hb hc.2.1 hd) rfl (XS.ifYes X.here hc.1 rfl (pc0 := pc + 1) rfl (hb hc.2.1 hd2) rfl ((cmp_l (okS_head (okS_tail hS)) (okS_head hS)).mpr hc') ho hp hr)
theorem Go.lcmpF {cd : ClassFile.Cond} {o x y' : Int} (hd : decode bytes pc = .ok (.lcmp, 1)) (hd2 : decode bytes pc3 = .ok (.ifCond cd o, 3)) (hp3 : pc + 1 = pc3) (hc' : ¬ cmp cd x y') (hp : pc3 + 3 = pc2) (h : Go l Z D n0 P y bytes maxL ret R pc2 L S os sz cu su Q) : Go l Z D n0 P y bytes maxL ret R pc L (vJ y' :: vJ x :: S) os sz cu su Q := by
  subst hp3 hp
  exact Go.pure h (fun Ls hL hS => okS_tail (okS_tail hS)) fun p e s m args below meth c hc T locs X H Ls hl hL hS target hr => XT.lcmp X.here hc.1 rfl (hb hc.2.1 hd) rfl (XS.ifNo X.here hc.1 rfl (hb hc.2.1 hd2) rfl (Bool.eq_false_iff.mpr fun q => hc' ((cmp_l (okS_head (okS_tail hS)) (okS_head hS)).mp q)) hr)
theorem Go.goto {o : Int} (hd : decode bytes pc = .ok (.goto o, 3)) (ho : 0 ≤ (pc : Int) + o) (hp : ((pc : Int) + o).toNat = pc2) (h : Go l Z D n0 P y bytes maxL ret R pc2 L S os sz cu su Q) : Go l Z D n0 P y bytes maxL ret R pc L S os sz cu su Q :=
  Go.pure h (fun Ls hL hS => hS) fun p e s m args below meth c hc T locs X H Ls hl hL hS target hr => XS.goto X.here hc.1 rfl rfl (hb hc.2.1 hd) ho hp hr
theorem Go.getf {k q b kk i : Nat} {O : Mo} {n d : String} {t : FieldType} {x : Int} (hd : decode bytes pc = .ok (.getfield k, 3)) (hp : pc + 3 = pc2) {own C : String} (ho : y.cls = own) (hC : D.C = C) (w : (Cond.fieldLink own k C n d).before a0 Z = true) (hq : os[q]? = some (b, kk, O)) {u : V} (hf : (i, n, d, t) ∈ D.FS) (hx : O 0 i = x) (hu : tv t x = u)
    (h : Go l Z D n0 P y bytes maxL ret R pc2 L (u :: S) os sz cu su Q) : Go l Z D n0 P y bytes maxL ret R pc L (vR b :: S) os sz cu su Q := by
  subst hp hx hu ho hC
  refine Go.step h fun p e s m args below meth c hc T locs X H hz hF Ls hl hL hS => ?_
  obtain ⟨f1, f2⟩ := (H.2.2.1 _ _ _ _ hq).1.2.1 _ _ _ _ hf
  obtain ⟨T', X', eT, st⟩ := getF X hc.1 hc.2.2.2.2.2.2.1 hc.2.2.2.2.1 (host := "") (Or.inl w) Via.refl rfl f1 (g := mkF m pc Ls (rv (vR b) :: S.map rv)) rfl rfl (hb hc.2.1 hd)
  exact ⟨T', locs, Ls, X', by rw [eT]; exact H, hz, hF, hl, hL, okS_cons (okV_tv f2) (okS_tail hS), fun target hr => st _ (by rw [List.map_cons, rv_tv] at hr; exact hr)⟩
theorem Go.geta {k q b kk j len : Nat} {O : Mo} {n d : String} {t : FieldType} {a : Nat} (hd : decode bytes pc = .ok (.getfield k, 3)) (hp : pc + 3 = pc2) {own C : String} (ho : y.cls = own) (hC : D.C = C) (w : (Cond.fieldLink own k C n d).before a0 Z = true) (hq : os[q]? = some (b, kk, O)) (ha : D.AS[j]? = some (n, d, t, len)) (hj : j < kk) (hx : b + j + 1 = a)
    (h : Go l Z D n0 P y bytes maxL ret R pc2 L (vR a :: S) os sz cu su Q) : Go l Z D n0 P y bytes maxL ret R pc L (vR b :: S) os sz cu su Q := by
  subst hp hx ho hC
  refine Go.step h fun p e s m args below meth c hc T locs X H hz hF Ls hl hL hS => ?_
  have f1 := (H.2.2.1 _ _ _ _ hq).1.2.2.1 _ _ _ _ _ ha
  rw [if_pos hj] at f1
  obtain ⟨T', X', eT, st⟩ := getF X hc.1 hc.2.2.2.2.2.2.1 hc.2.2.2.2.1 (host := "") (Or.inl w) Via.refl rfl f1 (g := mkF m pc Ls (rv (vR b) :: S.map rv)) rfl rfl (hb hc.2.1 hd)
  exact ⟨T', locs, Ls, X', by rw [eT]; exact H, hz, hF, hl, hL, okS_cons trivial (okS_tail hS), fun target hr => st _ hr⟩
theorem Go.putf {k q b kk i kx : Nat} {O : Mo} {n d : String} {t : FieldType} {x x' : Int} (cw : CW Z a0 D) (hd : decode bytes pc = .ok (.putfield k, 3)) (hp : pc + 3 = pc2) {own C : String} (ho : y.cls = own) (hC : D.C = C) (w : (Cond.fieldLink own k C n d).before a0 Z = true) (wl : (Cond.lays C C n d).before a0 Z = true ∨ ((Cond.laysFinal C C n d).before a0 Z = true ∧ own = C ∧ y.name = "<init>")) (wi : (Cond.instantiable C kx).before a0 Z = true) (hq : os[q]? = some (b, kk, O)) {u : V} (hf : (i, n, d, t) ∈ D.FS) (hu : tv t x = u) (hx : norm t x = x') (hos : os.set q (b, kk, upd O 0 i x') = os2)
    (h : Go l Z D n0 P y bytes maxL ret R pc2 L S os2 sz cu su Q) : Go l Z D n0 P y bytes maxL ret R pc L (u :: vR b :: S) os sz cu su Q := by
  subst hp hx hos hu ho hC
  refine Go.step h fun p e s m args below meth c hc T locs X H hz hF Ls hl hL hS => ?_
  have HO := (H.2.2.1 _ _ _ _ hq).1
  obtain ⟨f1, f2⟩ := HO.2.1 _ _ _ _ hf
  obtain ⟨-, p1, t1⟩ := cw.1 _ _ _ _ hf
  obtain ⟨m1, m2, m3⟩ := norm_ok t1 (okS_head hS)
  obtain ⟨T', h', X', eT, W, st⟩ := putFN X hc.1 hc.2.2.2.2.2.2.1 hc.2.2.2.2.1 w Via.refl rfl f1 HO.1 (wl.imp id fun q => ⟨q.1, q.2.1, hc.2.2.2.2.2.1.trans q.2.2⟩) wi p1 m1 m2 (g := mkF m pc Ls (fv t x :: rv (vR b) :: S.map rv)) rfl rfl (hb hc.2.1 hd)
  subst eT
  exact ⟨T', _, Ls, X', H.wr hq (Nat.le_refl _) (Nat.le_add_right _ _) W (HO.putf cw hf W m3), hz, Fr.snoc X' hF (H.2.2.1 _ _ _ _ hq).2.1, hl, hL, okS_tail (okS_tail hS), fun target hr => by rw [List.map_cons, rv_tv]; exact st _ hr⟩
theorem Go.mkarr {k q b kk len kx : Nat} {O : Mo} {n d : String} {aty : ArrayType} {x : Int} (cw : CW Z a0 D) (hd : decode bytes pc = .ok (.newarray aty, 2)) (hd2 : decode bytes pc3 = .ok (.putfield k, 3)) (hp3 : pc + 2 = pc3) (hp : pc3 + 3 = pc2) (wa : (Cond.arrayClass (newarray.typeOf aty)).before a0 Z = true) {own C : String} (ho : y.cls = own) (hC : D.C = C) (w : (Cond.fieldLink own k C n d).before a0 Z = true) (wl : (Cond.lays C C n d).before a0 Z = true ∨ ((Cond.laysFinal C C n d).before a0 Z = true ∧ own = C ∧ y.name = "<init>")) (wi : (Cond.instantiable C kx).before a0 Z = true)
    (hq : os[q]? = some (b, kk, O)) (ha : D.AS[kk]? = some (n, d, newarray.typeOf aty, len)) (hx : x = (len : Int)) (hO : ∀ i, O (kk + 1) i = 0) (hsz : sz = b + kk + 1) (hcu : cu + 1 ≤ R.cells) (hsu : su + len ≤ R.slots) (hos : os.set q (b, kk + 1, O) = os2) (hs2 : sz + 1 = sz2) (hcu2 : cu + 1 = cu2) (hsu2 : su + len = su2)
    (h : Go l Z D n0 P y bytes maxL ret R pc2 L S os2 sz2 cu2 su2 Q) : Go l Z D n0 P y bytes maxL ret R pc L (vI x :: vR b :: S) os sz cu su Q := by
  subst hp hp3 hx hos hs2 hcu2 hsu2 hsz ho hC
  refine Go.step h fun p e s m args below meth c hc T locs X H hz hF Ls hl hL hS => ?_
  have HO := (H.2.2.1 _ _ _ _ hq).1
  obtain ⟨-, p1, t1, lb⟩ := cw.2.1 _ _ _ _ _ ha
  have hr32 : R32 (len : Int) := ⟨by omega, by omega⟩
  have en : (Int32.ofInt (len : Int)).toNatClampNeg = len := by unfold Int32.toNatClampNeg; rw [ti32 hr32]; simp
  obtain ⟨T1, h1, cA, X1, e1, E1, A1, st1'⟩ := newP X hc.1 hc.2.2.2.2.2.2.1 wa rfl (g := mkF m pc Ls (rv (vI (len : Int)) :: rv (vR b) :: S.map rv)) rfl (hb hc.2.1 hd) rfl (by rw [show (0 : Int32) = Int32.ofInt 0 from rfl, lt32 hr32 (by decide)]; omega) (cap := len) (Nat.le_of_eq en) lb hcu hsu
  have hsz1 : T.heap.size = b + kk + 1 := H.1
  rw [hsz1] at A1 st1'
  subst e1
  have H1 := H.ext E1
  have f1 := (HO.ext E1).2.2.1 _ _ _ _ _ ha
  have hs1 : T1.heap.size = b + kk + 1 + 1 := by
    have u1 := X1.heapSize
    have u2 : b + kk + 1 < T1.heap.size := A1.lt
    have u3 : T1.heap.size ≤ s.heap.size + (cu + 1) := u1
    have u4 : b + kk + 1 = s.heap.size + cu := hz
    omega
  obtain ⟨T', h', X', eT, W, st⟩ := putFN X1 hc.1 hc.2.2.2.2.2.2.1 hc.2.2.2.2.1 w Via.refl rfl f1 (HO.ext E1).1 (wl.imp id fun q => ⟨q.1, q.2.1, hc.2.2.2.2.2.1.trans q.2.2⟩) wi p1 (v := .ref (b + kk + 1)) (v' := .ref (b + kk + 1)) rfl rfl (g := mkF m (pc + 2) Ls (.ref (b + kk + 1) :: rv (vR b) :: S.map rv)) rfl rfl (hb hc.2.1 hd2)
  subst eT
  have hlt : kk < D.AS.length := (List.getElem?_eq_some_iff.mp ha).1
  rw [hs1] at H1
  exact ⟨T', _, Ls, X', H1.wr hq (Nat.le_refl _) (Nat.le_add_right _ _) W (HO.mkArr cw ha E1 A1 W hO), by omega, Fr.snoc X' hF (H.2.2.1 _ _ _ _ hq).2.1, hl, hL, okS_tail (okS_tail hS), fun target hr => st1' _ (st _ hr)⟩
theorem idx_ok {x : Int} {len : Nat} (hx : R32 x) (h : 0 ≤ x ∧ x < (len : Int)) : ¬ (Int32.ofInt x < 0 ∨ len ≤ (Int32.ofInt x).toNatClampNeg) ∧ (Int32.ofInt x).toNatClampNeg = x.toNat := by
  have e : (Int32.ofInt x).toNatClampNeg = x.toNat := by unfold Int32.toNatClampNeg; rw [ti32 hx]
  refine ⟨?_, e⟩
  rw [e, show (0 : Int32) = Int32.ofInt 0 from rfl, lt32 hx (by decide)]
  omega
theorem Go.iald {q b kk j len a : Nat} {O : Mo} {n d : String} {x z : Int} (hd : decode bytes pc = .ok (.iaload, 1)) (hp : pc + 1 = pc2) (hq : os[q]? = some (b, kk, O)) (ha : D.AS[j]? = some (n, d, .int, len)) (hj : j < kk) (hadr : b + j + 1 = a) (hx : 0 ≤ x ∧ x < (len : Int)) (hz : O (j + 1) x.toNat = z)
    (h : Go l Z D n0 P y bytes maxL ret R pc2 L (vI z :: S) os sz cu su Q) : Go l Z D n0 P y bytes maxL ret R pc L (vI x :: vR a :: S) os sz cu su Q := by
  subst hp hz hadr
  refine Go.step h fun p e s m args below meth c hc T locs X H hz hF Ls hl hL hS => ?_
  obtain ⟨cl, A, hs, g⟩ := (H.2.2.1 _ _ _ _ hq).1.2.2.2 _ _ _ _ _ ha hj
  obtain ⟨i1, i2⟩ := idx_ok (okS_head hS) hx
  obtain ⟨g1, g2⟩ := g x.toNat (by omega)
  exact ⟨T, locs, Ls, X, H, hz, hF, hl, hL, okS_cons (okV_tv (t := .int) g2) (okS_tail (okS_tail hS)), fun target hr => X.iaload hc.1 A.1 (State.isArrayOf_alike hc.2.2.2.2.2.2.1.alike A.2.1) A.2.2 (by rw [hs]; exact i1) (by rw [i2]; exact g1) (g := mkF m pc Ls (rv (vI x) :: rv (vR (b + j + 1)) :: S.map rv)) rfl rfl (hb hc.2.1 hd) _ hr⟩
theorem Go.lald {q b kk j len a : Nat} {O : Mo} {n d : String} {x z : Int} (hd : decode bytes pc = .ok (.laload, 1)) (hp : pc + 1 = pc2) (hq : os[q]? = some (b, kk, O)) (ha : D.AS[j]? = some (n, d, .long, len)) (hj : j < kk) (hadr : b + j + 1 = a) (hx : 0 ≤ x ∧ x < (len : Int)) (hz : O (j + 1) x.toNat = z)
    (h : Go l Z D n0 P y bytes maxL ret R pc2 L (vJ z :: S) os sz cu su Q) : Go l Z D n0 P y bytes maxL ret R pc L (vI x :: vR a :: S) os sz cu su Q := by
  subst hp hz hadr
  refine Go.step h fun p e s m args below meth c hc T locs X H hz hF Ls hl hL hS => ?_
  obtain ⟨cl, A, hs, g⟩ := (H.2.2.1 _ _ _ _ hq).1.2.2.2 _ _ _ _ _ ha hj
  obtain ⟨i1, i2⟩ := idx_ok (okS_head hS) hx
  obtain ⟨g1, g2⟩ := g x.toNat (by omega)
  exact ⟨T, locs, Ls, X, H, hz, hF, hl, hL, okS_cons (okV_tv (t := .long) g2) (okS_tail (okS_tail hS)), fun target hr => X.laload hc.1 A.1 (State.isArrayOf_alike hc.2.2.2.2.2.2.1.alike A.2.1) A.2.2 (by rw [hs]; exact i1) (by rw [i2]; exact g1) (g := mkF m pc Ls (rv (vI x) :: rv (vR (b + j + 1)) :: S.map rv)) rfl rfl (hb hc.2.1 hd) _ hr⟩
theorem Go.bald {q b kk j len a : Nat} {O : Mo} {n d : String} {x z : Int} (hd : decode bytes pc = .ok (.baload, 1)) (hp : pc + 1 = pc2) (hq : os[q]? = some (b, kk, O)) (ha : D.AS[j]? = some (n, d, .byte, len)) (hj : j < kk) (hadr : b + j + 1 = a) (hx : 0 ≤ x ∧ x < (len : Int)) (hz : O (j + 1) x.toNat = z)
    (h : Go l Z D n0 P y bytes maxL ret R pc2 L (vI z :: S) os sz cu su Q) : Go l Z D n0 P y bytes maxL ret R pc L (vI x :: vR a :: S) os sz cu su Q := by
  subst hp hz hadr
  refine Go.step h fun p e s m args below meth c hc T locs X H hz hF Ls hl hL hS => ?_
  obtain ⟨cl, A, hs, g⟩ := (H.2.2.1 _ _ _ _ hq).1.2.2.2 _ _ _ _ _ ha hj
  obtain ⟨i1, i2⟩ := idx_ok (okS_head hS) hx
  obtain ⟨g1, g2⟩ := g x.toNat (by omega)
  exact ⟨T, locs, Ls, X, H, hz, hF, hl, hL, okS_cons (okV_tv (t := .byte) g2) (okS_tail (okS_tail hS)), fun target hr => X.baloadBytes hc.1 A.1 (State.isArrayOf_alike hc.2.2.2.2.2.2.1.alike A.2.1) A.2.2 (by rw [hs]; exact i1) (by rw [i2]; exact g1) (g := mkF m pc Ls (rv (vI x) :: rv (vR (b + j + 1)) :: S.map rv)) rfl rfl (hb hc.2.1 hd) _ hr⟩
theorem Go.zald {q b kk j len a : Nat} {O : Mo} {n d : String} {x z : Int} (hd : decode bytes pc = .ok (.baload, 1)) (hp : pc + 1 = pc2) (hq : os[q]? = some (b, kk, O)) (ha : D.AS[j]? = some (n, d, .boolean, len)) (hj : j < kk) (hadr : b + j + 1 = a) (hx : 0 ≤ x ∧ x < (len : Int)) (hz : O (j + 1) x.toNat = z)
    (h : Go l Z D n0 P y bytes maxL ret R pc2 L (vI z :: S) os sz cu su Q) : Go l Z D n0 P y bytes maxL ret R pc L (vI x :: vR a :: S) os sz cu su Q := by
  subst hp hz hadr
  refine Go.step h fun p e s m args below meth c hc T locs X H hz hF Ls hl hL hS => ?_
  obtain ⟨cl, A, hs, g⟩ := (H.2.2.1 _ _ _ _ hq).1.2.2.2 _ _ _ _ _ ha hj
  obtain ⟨i1, i2⟩ := idx_ok (okS_head hS) hx
  obtain ⟨g1, g2⟩ := g x.toNat (by omega)
  exact ⟨T, locs, Ls, X, H, hz, hF, hl, hL, okS_cons (okV_tv (t := .boolean) g2) (okS_tail (okS_tail hS)), fun target hr => X.baloadBooleans hc.1 A.1 (State.isArrayOf_alike hc.2.2.2.2.2.2.1.alike A.2.1) A.2.2 (by rw [hs]; exact i1) (by rw [i2]; exact g1) (g := mkF m pc Ls (rv (vI x) :: rv (vR (b + j + 1)) :: S.map rv)) rfl rfl (hb hc.2.1 hd) _ hr⟩
theorem Go.iast {q b kk j len a : Nat} {O : Mo} {n d : String} {x z z' : Int} (hd : decode bytes pc = .ok (.iastore, 1)) (hp : pc + 1 = pc2) (hq : os[q]? = some (b, kk, O)) (ha : D.AS[j]? = some (n, d, .int, len)) (hj : j < kk) (hadr : b + j + 1 = a) (hx : 0 ≤ x ∧ x < (len : Int)) (hz : norm .int z = z') (hos : os.set q (b, kk, upd O (j + 1) x.toNat z') = os2)
    (h : Go l Z D n0 P y bytes maxL ret R pc2 L S os2 sz cu su Q) : Go l Z D n0 P y bytes maxL ret R pc L (vI z :: vI x :: vR a :: S) os sz cu su Q := by
  subst hp hz hadr hos
  refine Go.step h fun p e s m args below meth c hc T locs X H hz hF Ls hl hL hS => ?_
  have HO := (H.2.2.1 _ _ _ _ hq).1
  obtain ⟨cl, A, hs, g⟩ := HO.2.2.2 _ _ _ _ _ ha hj
  obtain ⟨i1, i2⟩ := idx_ok (okS_head (okS_tail hS)) hx
  have m3 := (norm_ok (t := .int) (x := z) (by simp [pt]) (okS_head hS)).2.2
  obtain ⟨T', h', X', eT, W, st⟩ := stI X hc.1 hc.2.2.2.2.2.2.1 rfl A (by rw [hs]; exact i1) (g := mkF m pc Ls (rv (vI z) :: rv (vI x) :: rv (vR (b + j + 1)) :: S.map rv)) rfl rfl (hb hc.2.1 hd)
  subst eT
  have hlt : j < D.AS.length := (List.getElem?_eq_some_iff.mp ha).1
  have W2 := W
  rw [i2] at W2
  exact ⟨T', _, Ls, X', H.wr hq (by omega) (by omega) W2 (HO.puta ha hj (by omega) W2 m3), hz, Fr.snoc X' hF (by have := (H.2.2.1 _ _ _ _ hq).2.1; omega), hl, hL, okS_tail (okS_tail (okS_tail hS)), fun target hr => st _ hr⟩
theorem Go.last {q b kk j len a : Nat} {O : Mo} {n d : String} {x z z' : Int} (hd : decode bytes pc = .ok (.lastore, 1)) (hp : pc + 1 = pc2) (hq : os[q]? = some (b, kk, O)) (ha : D.AS[j]? = some (n, d, .long, len)) (hj : j < kk) (hadr : b + j + 1 = a) (hx : 0 ≤ x ∧ x < (len : Int)) (hz : norm .long z = z') (hos : os.set q (b, kk, upd O (j + 1) x.toNat z') = os2)
    (h : Go l Z D n0 P y bytes maxL ret R pc2 L S os2 sz cu su Q) : Go l Z D n0 P y bytes maxL ret R pc L (vJ z :: vI x :: vR a :: S) os sz cu su Q := by
  subst hp hz hadr hos
  refine Go.step h fun p e s m args below meth c hc T locs X H hz hF Ls hl hL hS => ?_
  have HO := (H.2.2.1 _ _ _ _ hq).1
  obtain ⟨cl, A, hs, g⟩ := HO.2.2.2 _ _ _ _ _ ha hj
  obtain ⟨i1, i2⟩ := idx_ok (okS_head (okS_tail hS)) hx
  have m3 := (norm_ok (t := .long) (x := z) (by simp [pt]) (okS_head hS)).2.2
  obtain ⟨T', h', X', eT, W, st⟩ := stJ X hc.1 hc.2.2.2.2.2.2.1 rfl A (by rw [hs]; exact i1) (g := mkF m pc Ls (rv (vJ z) :: rv (vI x) :: rv (vR (b + j + 1)) :: S.map rv)) rfl rfl (hb hc.2.1 hd)
  subst eT
  have hlt : j < D.AS.length := (List.getElem?_eq_some_iff.mp ha).1
  have W2 := W
  rw [i2] at W2
  exact ⟨T', _, Ls, X', H.wr hq (by omega) (by omega) W2 (HO.puta ha hj (by omega) W2 m3), hz, Fr.snoc X' hF (by have := (H.2.2.1 _ _ _ _ hq).2.1; omega), hl, hL, okS_tail (okS_tail (okS_tail hS)), fun target hr => st _ hr⟩
theorem Go.bast {q b kk j len a : Nat} {O : Mo} {n d : String} {x z z' : Int} (hd : decode bytes pc = .ok (.bastore, 1)) (hp : pc + 1 = pc2) (hq : os[q]? = some (b, kk, O)) (ha : D.AS[j]? = some (n, d, .byte, len)) (hj : j < kk) (hadr : b + j + 1 = a) (hx : 0 ≤ x ∧ x < (len : Int)) (hz : norm .byte z = z') (hos : os.set q (b, kk, upd O (j + 1) x.toNat z') = os2)
    (h : Go l Z D n0 P y bytes maxL ret R pc2 L S os2 sz cu su Q) : Go l Z D n0 P y bytes maxL ret R pc L (vI z :: vI x :: vR a :: S) os sz cu su Q := by
  subst hp hz hadr hos
  refine Go.step h fun p e s m args below meth c hc T locs X H hz hF Ls hl hL hS => ?_
  have HO := (H.2.2.1 _ _ _ _ hq).1
  obtain ⟨cl, A, hs, g⟩ := HO.2.2.2 _ _ _ _ _ ha hj
  obtain ⟨i1, i2⟩ := idx_ok (okS_head (okS_tail hS)) hx
  have m3 := (norm_ok (t := .byte) (x := z) (by simp [pt]) (okS_head hS)).2.2
  obtain ⟨T', h', X', eT, W, st⟩ := stB X hc.1 hc.2.2.2.2.2.2.1 rfl A (by rw [hs]; exact i1) (g := mkF m pc Ls (rv (vI z) :: rv (vI x) :: rv (vR (b + j + 1)) :: S.map rv)) rfl rfl (hb hc.2.1 hd)
  rw [show nar .byte (Int32.ofInt z) = (Int32.ofInt z).toInt8.toInt32 from rfl, i2b_o] at W
  subst eT
  have hlt : j < D.AS.length := (List.getElem?_eq_some_iff.mp ha).1
  have W2 := W
  rw [i2] at W2
  exact ⟨T', _, Ls, X', H.wr hq (by omega) (by omega) W2 (HO.puta ha hj (by omega) W2 m3), hz, Fr.snoc X' hF (by have := (H.2.2.1 _ _ _ _ hq).2.1; omega), hl, hL, okS_tail (okS_tail (okS_tail hS)), fun target hr => st _ hr⟩
theorem Go.zast {q b kk j len a : Nat} {O : Mo} {n d : String} {x z z' : Int} (hd : decode bytes pc = .ok (.bastore, 1)) (hp : pc + 1 = pc2) (hq : os[q]? = some (b, kk, O)) (ha : D.AS[j]? = some (n, d, .boolean, len)) (hj : j < kk) (hadr : b + j + 1 = a) (hx : 0 ≤ x ∧ x < (len : Int)) (hz : norm .boolean z = z') (hos : os.set q (b, kk, upd O (j + 1) x.toNat z') = os2)
    (h : Go l Z D n0 P y bytes maxL ret R pc2 L S os2 sz cu su Q) : Go l Z D n0 P y bytes maxL ret R pc L (vI z :: vI x :: vR a :: S) os sz cu su Q := by
  subst hp hz hadr hos
  refine Go.step h fun p e s m args below meth c hc T locs X H hz hF Ls hl hL hS => ?_
  have HO := (H.2.2.1 _ _ _ _ hq).1
  obtain ⟨cl, A, hs, g⟩ := HO.2.2.2 _ _ _ _ _ ha hj
  obtain ⟨i1, i2⟩ := idx_ok (okS_head (okS_tail hS)) hx
  have m3 := (norm_ok (t := .boolean) (x := z) (by simp [pt]) (okS_head hS)).2.2
  obtain ⟨T', h', X', eT, W, st⟩ := stZ X hc.1 hc.2.2.2.2.2.2.1 rfl A (by rw [hs]; exact i1) (g := mkF m pc Ls (rv (vI z) :: rv (vI x) :: rv (vR (b + j + 1)) :: S.map rv)) rfl rfl (hb hc.2.1 hd)
  rw [show nar .boolean (Int32.ofInt z) = Int32.ofInt z &&& 1 from rfl, and1_o] at W
  subst eT
  have hlt : j < D.AS.length := (List.getElem?_eq_some_iff.mp ha).1
  have W2 := W
  rw [i2] at W2
  exact ⟨T', _, Ls, X', H.wr hq (by omega) (by omega) W2 (HO.puta ha hj (by omega) W2 m3), hz, Fr.snoc X' hF (by have := (H.2.2.1 _ _ _ _ hq).2.1; omega), hl, hL, okS_tail (okS_tail (okS_tail hS)), fun target hr => st _ hr⟩
/-- an int array that was there at the start: read only -/
def Scr (Z : State) (a : Nat) (xs : List Int) (h : Heap) : Prop := ∃ c : Cell, Arr Z h a c .int ∧ c.slots.size = xs.length ∧ ∀ (i : Nat) (x : Int), xs[i]? = some x → c.slots[i]? = some (.int (Int32.ofInt x)) ∧ R32 x
theorem Go.sald {a : Nat} {xs : List Int} {x z : Int} (hd : decode bytes pc = .ok (.iaload, 1)) (hp : pc + 1 = pc2) (hP : ∀ h, P h → Scr Z a xs h) (hx : 0 ≤ x ∧ x < (xs.length : Int)) (hz : xs.getD x.toNat 0 = z)
    (h : Go l Z D n0 P y bytes maxL ret R pc2 L (vI z :: S) os sz cu su Q) : Go l Z D n0 P y bytes maxL ret R pc L (vI x :: vR a :: S) os sz cu su Q := by
  subst hp hz
  refine Go.step h fun p e s m args below meth c hc T locs X H hz hF Ls hl hL hS => ?_
  obtain ⟨cl, A, hs, g⟩ := hP _ H.2.2.2.2.2
  obtain ⟨i1, i2⟩ := idx_ok (okS_head hS) hx
  have hlt : x.toNat < xs.length := by omega
  have e : xs[x.toNat]? = some (xs.getD x.toNat 0) := by simp [List.getD, hlt]
  obtain ⟨g1, g2⟩ := g _ _ e
  exact ⟨T, locs, Ls, X, H, hz, hF, hl, hL, okS_cons g2 (okS_tail (okS_tail hS)), fun target hr => X.iaload hc.1 A.1 (State.isArrayOf_alike hc.2.2.2.2.2.2.1.alike A.2.1) A.2.2 (by rw [hs]; exact i1) (by rw [i2]; exact g1) (g := mkF m pc Ls (rv (vI x) :: rv (vR a) :: S.map rv)) rfl rfl (hb hc.2.1 hd) _ hr⟩
theorem Go.alen {a : Nat} {xs : List Int} (hd : decode bytes pc = .ok (.arraylength, 1)) (hp : pc + 1 = pc2) (hP : ∀ h, P h → Scr Z a xs h) (hb32 : xs.length < 2147483648)
    (h : Go l Z D n0 P y bytes maxL ret R pc2 L (vI (xs.length : Int) :: S) os sz cu su Q) : Go l Z D n0 P y bytes maxL ret R pc L (vR a :: S) os sz cu su Q := by
  subst hp
  refine Go.step h fun p e s m args below meth c hc T locs X H hz hF Ls hl hL hS => ?_
  obtain ⟨cl, A, hs, g⟩ := hP _ H.2.2.2.2.2
  exact ⟨T, locs, Ls, X, H, hz, hF, hl, hL, okS_cons (show R32 (xs.length : Int) from ⟨by omega, by omega⟩) (okS_tail hS), fun target hr => X.arraylength hc.1 A.1 (State.isArrayOf_alike hc.2.2.2.2.2.2.1.alike A.2.1) (g := mkF m pc Ls (rv (vR a) :: S.map rv)) rfl rfl (hb hc.2.1 hd) _ (by rw [hs, show xs.length.toInt32 = Int32.ofInt (xs.length : Int) from rfl]; exact hr)⟩
theorem Go.newo {k kx : Nat} (cw : CW Z a0 D) (hd : decode bytes pc = .ok (.new k, 3)) (hp : pc + 3 = pc2) {own C : String} (ho : y.cls = own) (hC : D.C = C) (w : (Cond.classLink own k C).before a0 Z = true) (wi : (Cond.instantiable C kx).before a0 Z = true) (wz : (Cond.initialized C).before a0 Z = true) (hk : ∀ o ∈ os, o.2.1 = D.AS.length) (hP : ∀ b, n0 ≤ b → StB D b P) (hcu : cu + 1 ≤ R.cells) (hsu : su + kx ≤ R.slots) (hos : os ++ [(sz, 0, zM)] = os2) (hs2 : sz + 1 = sz2) (hcu2 : cu + 1 = cu2) (hsu2 : su + kx = su2)
    (h : Go l Z D n0 P y bytes maxL ret R pc2 L (vR sz :: S) os2 sz2 cu2 su2 Q) : Go l Z D n0 P y bytes maxL ret R pc L S os sz cu su Q := by
  subst hp hos hs2 hcu2 hsu2 ho hC
  refine Go.step h fun p e s m args below meth c hc T locs X H hz hF Ls hl hL hS => ?_
  obtain ⟨T', h', X', eT, E, A, F, -, st⟩ := newO X hc.1 hc.2.2.2.2.2.2.1 hc.2.2.2.2.1 w wi wz rfl (g := mkF m pc Ls (S.map rv)) rfl (hb hc.2.1 hd) hcu hsu
  subst eT
  have hs : T'.heap.size = sz + 1 := by
    have u1 : T'.heap.size ≤ s.heap.size + (cu + 1) := X'.heapSize
    have u2 : T.heap.size < T'.heap.size := A.lt
    have u3 : T.heap.size = sz := H.1
    omega
  refine ⟨T', locs, Ls, X', H.new cw hk hP E hs A F, by omega, hF, hl, hL, okS_cons trivial hS, fun target hr => st _ ?_⟩
  rw [H.1]; exact hr
theorem Go.inito {k b : Nat} (hd : decode bytes pc = .ok (.invokespecial k, 3)) (hp : pc + 3 = pc2) {own : String} (ho : y.cls = own) (w1 : (Cond.methodLink own k Lib.objectInit).before a0 Z = true) (w2 : (Cond.instanceMethod Lib.objectInit).before a0 Z = true) (w3 : (Cond.code Lib.objectInit ⟨#[0xb1]⟩ 1 none).before a0 Z = true) (hf : 1 ≤ R.frames) (hlo : (S.map fun u => (rv u).category).sum + 12 ≤ R.locals)
    (h : Go l Z D n0 P y bytes maxL ret R pc2 L S os sz cu su Q) : Go l Z D n0 P y bytes maxL ret R pc L (vR b :: S) os sz cu su Q := by
  subst hp ho
  refine Go.step h fun p e s m args below meth c hc T locs X H hz hF Ls hl hL hS => ?_
  obtain ⟨T', X', eT, st⟩ := initO X hc.1 hc.2.2.2.2.2.2.1 hc.2.2.2.2.1 w1 w2 w3 rfl (g := mkF m pc Ls (rv (vR b) :: S.map rv)) rfl (hl.trans hc.2.2.1.symm) rfl (hb hc.2.1 hd) hf (W := (S.map fun u => (rv u).category).sum) (by rw [List.map_map]; show 2 * 0 + _ ≤ _; exact Nat.le_of_eq (Nat.zero_add _)) hlo
  exact ⟨T', locs, Ls, X', by rw [eT]; exact H, hz, hF, hl, hL, okS_tail hS, st⟩
theorem Go.reti {x : Int} (hd : decode bytes pc = .ok (.ireturn, 1)) (hret : ret = some .int) (hcu : cu ≤ R.cells) (hsu : su ≤ R.slots) (hq : ∀ h, HS Z D n0 P os sz h → Q (some (vI x)) h) : Go l Z D n0 P y bytes maxL ret R pc L (vI x :: S) os sz cu su Q := by
  intro p e s m args below meth c hc T locs X H hz hF Ls hl hL hS
  have hlk : meth.locks = false := hc.2.2.2.2.2.2.2
  have hr0 : meth.sig.returnType = some .int := hc.2.2.2.1.trans hret
  obtain ⟨fs, hr, hrun, hended, hW, hsame⟩ := X.leave (v := some (rv (vI x))) (fun h => by rw [hr0] at h; cases h) hlk
  exact ⟨_, locs, cu, su, some (vI x), retI X hc.1 hr0 (hb hc.2.1 hd) hr, hrun, hended, hW, hsame, hcu, hsu, hq _ H, hF, fun w hw => by cases hw; exact okS_head hS⟩
theorem Go.retz {x : Int} {x' : Int} (hd : decode bytes pc = .ok (.ireturn, 1)) (hret : ret = some .boolean) (hx : x % 2 = x') (hcu : cu ≤ R.cells) (hsu : su ≤ R.slots) (hq : ∀ h, HS Z D n0 P os sz h → Q (some (vI x')) h) : Go l Z D n0 P y bytes maxL ret R pc L (vI x :: S) os sz cu su Q := by
  intro p e s m args below meth c hc T locs X H hz hF Ls hl hL hS
  have hlk : meth.locks = false := hc.2.2.2.2.2.2.2
  have hr0 : meth.sig.returnType = some .boolean := hc.2.2.2.1.trans hret
  obtain ⟨fs, hr, hrun, hended, hW, hsame⟩ := X.leave (v := some (rv (vI x'))) (fun h => by rw [hr0] at h; cases h) hlk
  subst hx
  exact ⟨_, locs, cu, su, some (vI (x % 2)), retN X hc.1 (t := .boolean) hr0 (by simp) (hb hc.2.1 hd) (by rw [show nar .boolean (Int32.ofInt x) = Int32.ofInt x &&& 1 from rfl, and1_o]; exact hr), hrun, hended, hW, hsame, hcu, hsu, hq _ H, hF, fun w hw => by cases hw; exact ⟨by omega, by omega⟩⟩
theorem Go.retj {x : Int} (hd : decode bytes pc = .ok (.lreturn, 1)) (hret : ret = some .long) (hcu : cu ≤ R.cells) (hsu : su ≤ R.slots) (hq : ∀ h, HS Z D n0 P os sz h → Q (some (vJ x)) h) : Go l Z D n0 P y bytes maxL ret R pc L (vJ x :: S) os sz cu su Q := by
  intro p e s m args below meth c hc T locs X H hz hF Ls hl hL hS
  have hlk : meth.locks = false := hc.2.2.2.2.2.2.2
  have hr0 : meth.sig.returnType = some .long := hc.2.2.2.1.trans hret
  obtain ⟨fs, hr, hrun, hended, hW, hsame⟩ := X.leave (v := some (rv (vJ x))) (fun h => by rw [hr0] at h; cases h) hlk
  exact ⟨_, locs, cu, su, some (vJ x), retOut X hc.1 hr0 rfl (Or.inr (Or.inl ⟨rfl, rfl, _, rfl⟩)) (hb hc.2.1 hd) hr, hrun, hended, hW, hsame, hcu, hsu, hq _ H, hF, fun w hw => by cases hw; exact okS_head hS⟩
theorem Go.retv (hd : decode bytes pc = .ok (.return_, 1)) (hret : ret = none) (hcu : cu ≤ R.cells) (hsu : su ≤ R.slots) (hq : ∀ h, HS Z D n0 P os sz h → Q none h) : Go l Z D n0 P y bytes maxL ret R pc L [] os sz cu su Q := by
  intro p e s m args below meth c hc T locs X H hz hF Ls hl hL hS
  have hlk : meth.locks = false := hc.2.2.2.2.2.2.2
  have hr0 : meth.sig.returnType = none := hc.2.2.2.1.trans hret
  obtain ⟨fs, hr, hrun, hended, hW, hsame⟩ := X.leave (v := none) (fun _ => rfl) hlk
  exact ⟨_, locs, cu, su, none, X.returnOut hc.1 hr0 (hb hc.2.1 hd) hr, hrun, hended, hW, hsame, hcu, hsu, hq _ H, hF, fun w hw => by cases hw⟩
/-- a method's contract -/
def Meth (l : Launch) (Z : State) (D : Cls) (n0 : Nat) (P : Heap → Prop) (y : MethodName) (bytes : ByteArray) (maxL : Nat) (ret : Option FieldType) (R : Room) (as : List V) (os : List OB) (sz : Nat) (Q : Option V → Heap → Prop) : Prop :=
  okS as → ∀ h0, HS Z D n0 P os sz h0 → ∀ ws : List Jvm.Cond, MetFree l y (head1 (Jvm.Cond.code y bytes maxL ret :: ws) R) (fun a U => a = (as.map rv).toArray ∧ Z.Warmed39 U.vm ∧ U.heap = h0) (fun _ _ _ _ _ => True)
    (fun _ U o U' => ∃ v' L, o = .returned v' ∧ (∃ v, v' = Option.map rv v ∧ Q v U'.heap ∧ Fr n0 L ∧ (∀ w, v = some w → okV w)) ∧ FrameEnd U o U' L R.cells R.slots)
theorem Meth.of (hy : plainFor y = true) {as : List V} (hlen : (laid as).length ≤ maxL) (h : Go l Z D n0 P y bytes maxL ret R 0 (ent as maxL) [] os sz 0 0 Q) : Meth l Z D n0 P y bytes maxL ret R as os sz Q := by
  intro hok h0 H ws
  refine MetFree.of_bodySF hy hisR ?_
  intro p e s m args below meth c s₁ Bd hml0 hP hK
  obtain ⟨rfl, hZ, hh⟩ := hP
  have X0 : Stand p l e R s m (as.map rv).toArray below meth c s₁ [] 0 0 := Stand.of_body Bd
  have e0 : s₁.heap = h0 := by rw [← hh, Bd.state]; rfl
  have hE := ent_ok (maxL := maxL) hok hlen
  obtain ⟨s2, locs', cu', su', v, g1, g2, g3, g4, g5, g6, g7, g8, g9, g10⟩ := h p e s m _ below meth c ⟨Bd.exec, Bd.bytes, hml0, Bd.returns, findClass_of_methodNamed Bd.named, (name_of_methodNamed Bd.named Bd.method).1, hZ, Bd.notSynchronized⟩ s₁ [] X0 (by rw [e0]; exact H) (by rw [← H.1, ← hh]; simp) (Fr.nil n0) (argsToLocals (as.map rv).toArray maxL) (by rw [hE.1]; simp [ent]; omega) hE (fun u hu => nomatch hu)
  exact ⟨s2, _, g1, g2, g3, _, locs', rfl, ⟨v, rfl, g8, g9, g10⟩, ⟨_, rfl⟩, g4, g5.mono g6 g7⟩
def QM (Z : State) (D : Cls) (n0 : Nat) (P : Heap → Prop) (v : Option V) (os' : List OB) (sz' : Nat) (w : Option V) (h : Heap) : Prop := w = v ∧ HS Z D n0 P os' sz' h
/-- the caller's side of a call: what the callee's contract must give -/
def Pays (l : Launch) (Z : State) (D : Cls) (n0 : Nat) (P : Heap → Prop) (z : MethodName) (zb : ByteArray) (zl : Nat) (zr : Option FieldType) (rm : Room) (as : List V) (os : List OB) (sz : Nat) (v : Option V) (os' : List OB) (sz' : Nat) : Prop :=
  ∃ P' os1 os1', (∀ h, HS Z D n0 P os sz h → HS Z D n0 P' os1 sz h) ∧ (∀ h h', HS Z D n0 P os sz h → HS Z D n0 P' os1' sz' h' → HS Z D n0 P os' sz' h') ∧ Meth l Z D n0 P' z zb zl zr rm as os1 sz (QM Z D n0 P' v os1' sz')
theorem Pays.one {z : MethodName} {zb : ByteArray} {zl : Nat} {zr : Option FieldType} {rm : Room} {as : List V} {w : Option V} {q b k k' : Nat} {O O' : Mo} (hq : os[q]? = some (b, k, O)) (hos : os.set q (b, k', O') = os2) (hm : ∀ P' : Heap → Prop, (∀ h, P' h → P h) → Meth l Z D n0 P' z zb zl zr rm as [(b, k, O)] sz (QM Z D n0 P' w [(b, k', O')] sz2)) : Pays l Z D n0 P z zb zl zr rm as os sz w os2 sz2 := by
  subst hos
  exact ⟨Rest Z D P os q, _, _, fun h H => H.split hq, fun h h' H M => H.merge hq M, hm _ fun h q => q.1⟩
theorem Pays.zero {z : MethodName} {zb : ByteArray} {zl : Nat} {zr : Option FieldType} {rm : Room} {as : List V} {w : Option V} (hm : ∀ P' : Heap → Prop, (∀ h, P' h → P h) → Meth l Z D n0 P' z zb zl zr rm as [] sz (QM Z D n0 P' w [] sz2)) : Pays l Z D n0 P z zb zl zr rm as os sz w os sz2 :=
  ⟨RestA Z D P os, _, _, fun h H => H.split0, fun h h' H M => H.merge0 M, hm _ fun h q => q.1⟩
theorem Pays.all {z : MethodName} {zb : ByteArray} {zl : Nat} {zr : Option FieldType} {rm : Room} {as : List V} {w : Option V} (hm : ∀ P' : Heap → Prop, (∀ h, P' h → P h) → Meth l Z D n0 P' z zb zl zr rm as os sz (QM Z D n0 P' w os2 sz2)) : Pays l Z D n0 P z zb zl zr rm as os sz w os2 sz2 :=
  ⟨P, _, _, fun h H => H, fun h h' H M => M, hm _ fun h q => q⟩
theorem Go.callv {k : Nat} {z : MethodName} {zb : ByteArray} {zl : Nat} {zr : Option FieldType} {rm : Room} {as : List V} {w : Option V} {ps : List FieldType} {rt : Option FieldType} (hd : decode bytes pc = .ok (.invokevirtual k, 3)) (hp : pc + 3 = pc2) {own : String} (ho : y.cls = own) (w1 : (Cond.methodLink own k z).before a0 Z = true) (w2 : (Cond.declares z).before a0 Z = true) {C : String} (hC : D.C = C) (w3 : (Cond.selects C z z).before a0 Z = true) (w4 : (Cond.instanceMethod z).before a0 Z = true) (w5 : (Cond.code z zb zl zr).before a0 Z = true) {zc : String} (hzc : z.cls = zc) (w6 : (Cond.initialized zc).before a0 Z = true) {b q kq : Nat} {O : Mo} (hq : os[q]? = some (b, kq, O)) (hy : z.cls ≠ "java/lang/invoke/MethodHandle" ∧ z.cls ≠ "java/lang/invoke/VarHandle") (hpd : parseMethodDescriptor z.desc = some ⟨ps, rt⟩) (hf : rm.frames + 1 ≤ R.frames) (hlo : (S.map fun u => (rv u).category).sum + (zl + 11) + rm.locals ≤ R.locals) (hcu : cu + rm.cells ≤ R.cells) (hsu : su + rm.slots ≤ R.slots) {nc ns : Nat} (hnc : rm.cells = nc) (hns : rm.slots = ns) (hsz : sz + nc = sz2) (hcu2 : cu + nc = cu2) (hsu2 : su + ns = su2) (hlen : as.length = ps.length) (hpay : Pays l Z D n0 P z zb zl zr rm (vR b :: as) os sz w os2 sz2) (hS2 : w.toList ++ S = S2)
    (h : Go l Z D n0 P y bytes maxL ret R pc2 L S2 os2 sz2 cu2 su2 Q) : Go l Z D n0 P y bytes maxL ret R pc L (as.reverse ++ vR b :: S) os sz cu su Q := by
  subst hp hS2 ho hzc hnc hns hcu2 hsu2 hC
  refine Go.step h fun p e s m args below meth c hc T locs X H hz hF Ls hl hL hS => ?_
  obtain ⟨P', os1, os1', hsp, hmg, hm⟩ := hpay
  have okA : okS (vR b :: as) := fun u hu => hS u (by simp only [List.mem_append, List.mem_reverse, List.mem_cons] at hu ⊢; rcases hu with hu | hu <;> simp [hu])
  have okR : okS S := fun u hu => hS u (by simp [hu])
  have M := hm okA T.heap (hsp _ H) []
  have E := (H.2.2.1 _ _ _ _ hq).1.1
  obtain ⟨cq, kq', qa, qb, qc⟩ := isOf hc.2.2.2.2.2.2.1 rfl E
  obtain ⟨_, _, ⟨T2, L2, k2, n2⟩, -, X2, ⟨Lc, hQ, l2, y2, z2⟩, st⟩ := X.virtualBack hc.1 (y := z) (z := z) hc.2.2.2.2.1 (mvT hc.2.2.2.2.2.2.1 w1) (mvT hc.2.2.2.2.2.2.1 w2) (notFace_of_selects (args := #[]) (mvT hc.2.2.2.2.2.2.1 w3)) (mvT hc.2.2.2.2.2.2.1 w3) (mvT hc.2.2.2.2.2.2.1 w4) hy (backOf (W := (S.map fun u => (rv u).category).sum) (Q := fun v' h L => ∃ v, v' = Option.map rv v ∧ QM Z D n0 P' w os1' sz2 v h ∧ Fr n0 L ∧ ∀ w, v = some w → okV w) M hc.2.2.2.2.2.2.1 w5 w6 hf hlo) qa qc (g := mkF m pc Ls ((as.reverse ++ vR b :: S).map rv)) rfl (hl.trans hc.2.2.1.symm) (Steps.refl _) (argsL := as.map rv) (rest := S.map rv) (lenOf hpd (by rw [List.length_map]; exact hlen)) (by simp [rv]) (by rw [List.map_map]; show 2 * 0 + _ ≤ _; exact Nat.le_of_eq (Nat.zero_add _)) (hb hc.2.1 hd) (fun _ _ => ⟨by simp [rv], rfl, hcu, hsu⟩)
  dsimp only [Pt.U, Pt.locs, Pt.cells, Pt.slots] at X2 l2 y2 z2 st hQ
  subst l2 y2 z2
  obtain ⟨w9, rfl, ⟨e9, H2⟩, F2, ok2⟩ := hQ
  subst e9
  refine ⟨T2, _, Ls, X2, hmg _ _ H H2, by omega, Fr.app hF F2, hl, hL, fun u hu => ?_, fun target hr => ?_⟩
  · rcases List.mem_append.mp hu with hu | hu
    · exact ok2 u (Option.mem_toList.mp hu)
    · exact okR u hu
  · rw [List.map_append] at hr
    refine st.trans ?_
    cases w9 <;> exact hr
theorem Go.callp {k : Nat} {z : MethodName} {zb : ByteArray} {zl : Nat} {zr : Option FieldType} {rm : Room} {as : List V} {w : Option V} {ps : List FieldType} {rt : Option FieldType} (hd : decode bytes pc = .ok (.invokevirtual k, 3)) (hp : pc + 3 = pc2) {own : String} (ho : y.cls = own) (w1 : (Cond.methodLink own k z).before a0 Z = true) (w3 : (Cond.privateMethod z).before a0 Z = true) (w4 : (Cond.instanceMethod z).before a0 Z = true) (w5 : (Cond.code z zb zl zr).before a0 Z = true) {zc : String} (hzc : z.cls = zc) (w6 : (Cond.initialized zc).before a0 Z = true) {kx : Nat} (wi : (Cond.instantiable zc kx).before a0 Z = true) {b q kq : Nat} {O : Mo} (hq : os[q]? = some (b, kq, O)) (hy : z.cls ≠ "java/lang/invoke/MethodHandle" ∧ z.cls ≠ "java/lang/invoke/VarHandle") (hpd : parseMethodDescriptor z.desc = some ⟨ps, rt⟩) (hf : rm.frames + 1 ≤ R.frames) (hlo : (S.map fun u => (rv u).category).sum + (zl + 11) + rm.locals ≤ R.locals) (hcu : cu + rm.cells ≤ R.cells) (hsu : su + rm.slots ≤ R.slots) {nc ns : Nat} (hnc : rm.cells = nc) (hns : rm.slots = ns) (hsz : sz + nc = sz2) (hcu2 : cu + nc = cu2) (hsu2 : su + ns = su2) (hlen : as.length = ps.length) (hpay : Pays l Z D n0 P z zb zl zr rm (vR b :: as) os sz w os2 sz2) (hS2 : w.toList ++ S = S2)
    (h : Go l Z D n0 P y bytes maxL ret R pc2 L S2 os2 sz2 cu2 su2 Q) : Go l Z D n0 P y bytes maxL ret R pc L (as.reverse ++ vR b :: S) os sz cu su Q := by
  subst hp hS2 ho hzc hnc hns hcu2 hsu2
  refine Go.step h fun p e s m args below meth c hc T locs X H hz hF Ls hl hL hS => ?_
  obtain ⟨P', os1, os1', hsp, hmg, hm⟩ := hpay
  have okA : okS (vR b :: as) := fun u hu => hS u (by simp only [List.mem_append, List.mem_reverse, List.mem_cons] at hu ⊢; rcases hu with hu | hu <;> simp [hu])
  have okR : okS S := fun u hu => hS u (by simp [hu])
  have M := hm okA T.heap (hsp _ H) []
  have E := (H.2.2.1 _ _ _ _ hq).1.1
  obtain ⟨cq, q4, q4'⟩ := E.cell
  have wi' : (Cond.instantiable z.cls kx).before args s = true := mv hc.2.2.2.2.2.2.1 wi
  obtain ⟨c9, k9, i1, i2, i3, i4, -⟩ := Cond.instantiable_spec wi'
  have hpr : s.PrivateAt z := Cond.privateMethod_at (mvP hc.2.2.2.2.2.2.1 w3 (args := #[]))
  have hin : (Cond.instanceMethod z).before args s = true := mvT hc.2.2.2.2.2.2.1 w4
  have hsel := selects_self_of_private i1 i2 (by simp at i4; exact i4.1) hpr hin hy
  obtain ⟨_, _, ⟨T2, L2, k2, n2⟩, -, X2, ⟨Lc, hQ, l2, y2, z2⟩, st⟩ := X.privateBack hc.1 (y := z) hc.2.2.2.2.1 (mvT hc.2.2.2.2.2.2.1 w1) hin hsel hpr (mvT hc.2.2.2.2.2.2.1 w5) hy (backOf (W := (S.map fun u => (rv u).category).sum) (Q := fun v' h L => ∃ v, v' = Option.map rv v ∧ QM Z D n0 P' w os1' sz2 v h ∧ Fr n0 L ∧ ∀ w, v = some w → okV w) M hc.2.2.2.2.2.2.1 w5 w6 hf hlo) (g := mkF m pc Ls ((as.reverse ++ vR b :: S).map rv)) rfl (hl.trans hc.2.2.1.symm) (Steps.refl _) (a := b) q4 q4' (argsL := as.map rv) (rest := S.map rv) (lenOf hpd (by rw [List.length_map]; exact hlen)) (by simp [rv]) (by rw [List.map_map]; show 2 * 0 + _ ≤ _; exact Nat.le_of_eq (Nat.zero_add _)) (hb hc.2.1 hd) (fun _ _ => ⟨by simp [rv], rfl, hcu, hsu⟩)
  dsimp only [Pt.U, Pt.locs, Pt.cells, Pt.slots] at X2 l2 y2 z2 st hQ
  subst l2 y2 z2
  obtain ⟨w9, rfl, ⟨e9, H2⟩, F2, ok2⟩ := hQ
  subst e9
  refine ⟨T2, _, Ls, X2, hmg _ _ H H2, by omega, Fr.app hF F2, hl, hL, fun u hu => ?_, fun target hr => ?_⟩
  · rcases List.mem_append.mp hu with hu | hu
    · exact ok2 u (Option.mem_toList.mp hu)
    · exact okR u hu
  · rw [List.map_append] at hr
    refine st.trans ?_
    cases w9 <;> exact hr
theorem Go.callc {k : Nat} {z : MethodName} {zb : ByteArray} {zl : Nat} {zr : Option FieldType} {rm : Room} {as : List V} {w : Option V} {ps : List FieldType} {rt : Option FieldType} (hd : decode bytes pc = .ok (.invokespecial k, 3)) (hp : pc + 3 = pc2) (hn : z.name = "<init>") (hzr : zr = none) {own : String} (ho : y.cls = own) (w1 : (Cond.methodLink own k z).before a0 Z = true) (w4 : (Cond.instanceMethod z).before a0 Z = true) (w5 : (Cond.code z zb zl zr).before a0 Z = true) {zc : String} (hzc : z.cls = zc) (w6 : (Cond.initialized zc).before a0 Z = true) {b : Nat} (hy : z.cls ≠ "java/lang/invoke/MethodHandle" ∧ z.cls ≠ "java/lang/invoke/VarHandle") (hpd : parseMethodDescriptor z.desc = some ⟨ps, rt⟩) (hf : rm.frames + 1 ≤ R.frames) (hlo : (S.map fun u => (rv u).category).sum + (zl + 11) + rm.locals ≤ R.locals) (hcu : cu + rm.cells ≤ R.cells) (hsu : su + rm.slots ≤ R.slots) {nc ns : Nat} (hnc : rm.cells = nc) (hns : rm.slots = ns) (hsz : sz + nc = sz2) (hcu2 : cu + nc = cu2) (hsu2 : su + ns = su2) (hlen : as.length = ps.length) (hpay : Pays l Z D n0 P z zb zl zr rm (vR b :: as) os sz w os2 sz2) (hS2 : w.toList ++ S = S2)
    (h : Go l Z D n0 P y bytes maxL ret R pc2 L S2 os2 sz2 cu2 su2 Q) : Go l Z D n0 P y bytes maxL ret R pc L (as.reverse ++ vR b :: S) os sz cu su Q := by
  subst hp hS2 ho hzc hnc hns hcu2 hsu2
  refine Go.step h fun p e s m args below meth c hc T locs X H hz hF Ls hl hL hS => ?_
  obtain ⟨P', os1, os1', hsp, hmg, hm⟩ := hpay
  have okA : okS (vR b :: as) := fun u hu => hS u (by simp only [List.mem_append, List.mem_reverse, List.mem_cons] at hu ⊢; rcases hu with hu | hu <;> simp [hu])
  have okR : okS S := fun u hu => hS u (by simp [hu])
  have M := hm okA T.heap (hsp _ H) []
  subst hzr
  obtain ⟨_, _, ⟨T2, L2, k2, n2⟩, -, X2, ⟨Lc, hQ, l2, y2, z2⟩, st⟩ := X.specialBack hc.1 (y := z) hn hc.2.2.2.2.1 (mvT hc.2.2.2.2.2.2.1 w1) (mvT hc.2.2.2.2.2.2.1 w4) (mvT hc.2.2.2.2.2.2.1 w5) hy (backOf (W := (S.map fun u => (rv u).category).sum) (Q := fun v' h L => ∃ v, v' = Option.map rv v ∧ QM Z D n0 P' w os1' sz2 v h ∧ Fr n0 L ∧ ∀ w, v = some w → okV w) M hc.2.2.2.2.2.2.1 w5 w6 hf hlo) (g := mkF m pc Ls ((as.reverse ++ vR b :: S).map rv)) rfl (hl.trans hc.2.2.1.symm) (Steps.refl _) (a := b) (argsL := as.map rv) (rest := S.map rv) (lenOf hpd (by rw [List.length_map]; exact hlen)) (by simp [rv]) (by rw [List.map_map]; show 2 * 0 + _ ≤ _; exact Nat.le_of_eq (Nat.zero_add _)) (hb hc.2.1 hd) (fun _ _ => ⟨by simp [rv], rfl, hcu, hsu⟩)
  dsimp only [Pt.U, Pt.locs, Pt.cells, Pt.slots] at X2 l2 y2 z2 st hQ
  subst l2 y2 z2
  obtain ⟨w9, rfl, ⟨e9, H2⟩, F2, ok2⟩ := hQ
  subst e9
  refine ⟨T2, _, Ls, X2, hmg _ _ H H2, by omega, Fr.app hF F2, hl, hL, fun u hu => ?_, fun target hr => ?_⟩
  · rcases List.mem_append.mp hu with hu | hu
    · exact ok2 u (Option.mem_toList.mp hu)
    · exact okR u hu
  · rw [List.map_append] at hr
    refine st.trans ?_
    cases w9 <;> exact hr
theorem Go.calls {k : Nat} {z : MethodName} {zb : ByteArray} {zl : Nat} {zr : Option FieldType} {rm : Room} {as : List V} {w : Option V} {ps : List FieldType} {rt : Option FieldType} (hd : decode bytes pc = .ok (.invokestatic k, 3)) (hp : pc + 3 = pc2) {own : String} (ho : y.cls = own) (w1 : (Cond.methodLink own k z).before a0 Z = true) (w2 : (Cond.static z).before a0 Z = true) (w5 : (Cond.code z zb zl zr).before a0 Z = true) {zc : String} (hzc : z.cls = zc) (w6 : (Cond.initialized zc).before a0 Z = true) (hy : z.cls ≠ "java/lang/invoke/MethodHandle" ∧ z.cls ≠ "java/lang/invoke/VarHandle") (hpd : parseMethodDescriptor z.desc = some ⟨ps, rt⟩) (hf : rm.frames + 1 ≤ R.frames) (hlo : (S.map fun u => (rv u).category).sum + (zl + 11) + rm.locals ≤ R.locals) (hcu : cu + rm.cells ≤ R.cells) (hsu : su + rm.slots ≤ R.slots) {nc ns : Nat} (hnc : rm.cells = nc) (hns : rm.slots = ns) (hsz : sz + nc = sz2) (hcu2 : cu + nc = cu2) (hsu2 : su + ns = su2) (hlen : as.length = ps.length) (hpay : Pays l Z D n0 P z zb zl zr rm as os sz w os2 sz2) (hS2 : w.toList ++ S = S2)
    (h : Go l Z D n0 P y bytes maxL ret R pc2 L S2 os2 sz2 cu2 su2 Q) : Go l Z D n0 P y bytes maxL ret R pc L (as.reverse ++ S) os sz cu su Q := by
  subst hp hS2 ho hzc hnc hns hcu2 hsu2
  refine Go.step h fun p e s m args below meth c hc T locs X H hz hF Ls hl hL hS => ?_
  obtain ⟨P', os1, os1', hsp, hmg, hm⟩ := hpay
  have okA : okS as := fun u hu => hS u (by simp only [List.mem_append, List.mem_reverse, List.mem_cons] at hu ⊢; exact Or.inl hu)
  have okR : okS S := fun u hu => hS u (by simp [hu])
  have M := hm okA T.heap (hsp _ H) []
  obtain ⟨_, _, ⟨T2, L2, k2, n2⟩, -, X2, ⟨Lc, hQ, l2, y2, z2⟩, st⟩ := Jvm.LawKit.callS X hc.1 (y := z) hc.2.2.2.2.1 (mvT hc.2.2.2.2.2.2.1 w1) (mvT hc.2.2.2.2.2.2.1 w2) (mvT hc.2.2.2.2.2.2.1 w6) (mvT hc.2.2.2.2.2.2.1 w5) hy (backOf (W := (S.map fun u => (rv u).category).sum) (Q := fun v' h L => ∃ v, v' = Option.map rv v ∧ QM Z D n0 P' w os1' sz2 v h ∧ Fr n0 L ∧ ∀ w, v = some w → okV w) M hc.2.2.2.2.2.2.1 w5 w6 hf hlo) (g := mkF m pc Ls ((as.reverse ++ S).map rv)) rfl (hl.trans hc.2.2.1.symm) (argsL := as.map rv) (rest := S.map rv) (lenOf hpd (by rw [List.length_map]; exact hlen)) (by simp) (by rw [List.map_map]; show 2 * 0 + _ ≤ _; exact Nat.le_of_eq (Nat.zero_add _)) (hb hc.2.1 hd) (fun _ _ => ⟨rfl, rfl, hcu, hsu⟩)
  dsimp only [Pt.U, Pt.locs, Pt.cells, Pt.slots] at X2 l2 y2 z2 st hQ
  subst l2 y2 z2
  obtain ⟨w9, rfl, ⟨e9, H2⟩, F2, ok2⟩ := hQ
  subst e9
  refine ⟨T2, _, Ls, X2, hmg _ _ H H2, by omega, Fr.app hF F2, hl, hL, fun u hu => ?_, fun target hr => ?_⟩
  · rcases List.mem_append.mp hu with hu | hu
    · exact ok2 u (Option.mem_toList.mp hu)
    · exact okR u hu
  · rw [List.map_append] at hr
    refine st _ ?_
    cases w9 <;> exact hr
theorem Scr.wr {a : Nat} {xs : List Int} {h h' : Heap} {b sl : Nat} {w : Value} (q : Scr Z a xs h) (W : Wr h h' b sl w) (ne : a ≠ b) : Scr Z a xs h' := by
  obtain ⟨c, A, r⟩ := q; exact ⟨c, A.other W ne, r⟩
theorem Scr.ext {a : Nat} {xs : List Int} {h h' : Heap} (q : Scr Z a xs h) (E : Ext h h') : Scr Z a xs h' := by
  obtain ⟨c, A, r⟩ := q; exact ⟨c, A.ext E, r⟩
theorem fnil {α : Type} {p : α → Prop} : ∀ x ∈ ([] : List α), p x := fun _ h => nomatch h
theorem fcons {α : Type} {p : α → Prop} {a : α} {l : List α} (h : p a) (hl : ∀ x ∈ l, p x) : ∀ x ∈ a :: l, p x := fun x hx => (List.mem_cons.mp hx).elim (fun e => e ▸ h) (hl x)
theorem CW.of (h1 : ∀ f ∈ D.FS, Laid Z a0 D.C D.C f.2.1 f.2.2.1 ∧ parseFieldDescriptor f.2.2.1 = some f.2.2.2 ∧ pt f.2.2.2) (h2 : ∀ f ∈ D.AS, Laid Z a0 D.C D.C f.1 f.2.1 ∧ parseFieldDescriptor f.2.1 = some (.array f.2.2.1) ∧ pt f.2.2.1 ∧ f.2.2.2 * 8 ≤ 536870912)
    (h3 : ∀ f ∈ D.FS, ∀ g ∈ D.FS, f = g ∨ (f.1 ≠ g.1 ∧ f.2.1 ≠ g.2.1)) (h4 : ∀ f ∈ D.FS, ∀ g ∈ D.AS, f.2.1 ≠ g.1) (h5 : ∀ j ∈ List.range D.AS.length, ∀ j' ∈ List.range D.AS.length, j ≠ j' → (D.AS[j]?.map (·.1)) ≠ (D.AS[j']?.map (·.1))) : CW Z a0 D := by
  refine ⟨fun i n d t h => h1 (i, n, d, t) h, fun j n d t len h => h2 (n, d, t, len) (List.mem_of_getElem? h), fun i n d t i' n' d' t' h h' => ?_, fun i n d t j n' d' t' len h h' => h4 (i, n, d, t) h (n', d', t', len) (List.mem_of_getElem? h'), fun j n d t len j' n' d' t' len' h h' ne e => ?_⟩
  · rcases h3 (i, n, d, t) h (i', n', d', t') h' with q | q
    · cases q; exact Or.inl ⟨rfl, rfl, rfl, rfl⟩
    · exact Or.inr q
  · refine h5 j (List.mem_range.mpr (List.getElem?_eq_some_iff.mp h).1) j' (List.mem_range.mpr (List.getElem?_eq_some_iff.mp h').1) ne ?_
    rw [h, h']; exact congrArg some e
theorem scr_start {s : State} {w0 : Value} (hfit : Fit s) (n1 : (Cond.arrayOf (Term.arg 0) .int).value #[w0] s none s [] = some true) (n2 : (Cond.le (Term.length (Term.arg 0)) (Term.int 260)).value #[w0] s none s [] = some true) :
    ∃ aa xs, w0 = .ref aa ∧ aa < s.heap.size ∧ Scr s aa xs s.heap ∧ xs.length ≤ 260 ∧ (∀ x ∈ xs, R32 x) := by
  obtain ⟨aa, ea⟩ := arr_v n1
  obtain rfl : w0 = .ref aa := Option.some.inj ea
  obtain ⟨cl, A⟩ := Arr.start ea n1
  have hl : cl.slots.size ≤ 260 := by
    by_cases h : cl.slots.size < 2 ^ 31
    · have e := len_f (t := Term.arg 0) (idx := []) ea (A.fin (Vm.Alike.refl _)) h
      have e2 : (Term.int 260).eval #[.ref aa] s none [] s = some (.int 260) := rfl
      have n3 := n2
      simp only [Cond.value, e, e2, Option.some.injEq, decide_eq_true_eq] at n3
      rw [Int32.le_iff_toInt_le, show cl.slots.size.toInt32 = Int32.ofInt (cl.slots.size : Int) from rfl, ti32 ⟨by omega, by omega⟩] at n3
      have : (260 : Int32).toInt = 260 := rfl
      omega
    · exfalso
      obtain ⟨x, y, e1, -⟩ := cmp_v (Or.inr (Or.inr n2))
      have q : (Term.length (Term.arg 0)).eval #[.ref aa] s none [] s = none := by
        have := A.fin (Vm.Alike.refl _)
        simp [Term.eval, this, h]
      rw [q] at e1; cases e1
  have key : ∀ i (hi : i < cl.slots.size), ∃ x : Int32, cl.slots[i] = .int x := fun i hi => by
    have q := hfit A.1 hi
    obtain ⟨hs, k, hk, comp, hkind⟩ := A.2.1
    have e : s.slotType? cl.cls cl.vm i = some .int := by
      cases hq : cl.vm <;> first | exact absurd hq (hs _) | simp [State.slotType?, hk, hkind]
    exact fit_I (by simpa [State.fitsSlot, e] using q) (Or.inl rfl)
  refine ⟨aa, cl.slots.toList.map (fun v => match v with | .int x => x.toInt | _ => 0), rfl, A.lt, ⟨cl, A, by simp, fun i x hx => ?_⟩, by simpa using hl, fun x hx => ?_⟩
  · rw [List.getElem?_map, Array.getElem?_toList] at hx
    cases hc : cl.slots[i]? with
    | none => rw [hc] at hx; cases hx
    | some u =>
      obtain ⟨hi, hu⟩ := Array.getElem?_eq_some_iff.mp hc
      obtain ⟨z, hz⟩ := key i hi
      rw [hz] at hu
      subst hu
      rw [hc] at hx
      simp at hx
      subst hx
      exact ⟨by rw [of32], r32t z⟩
  · obtain ⟨u, hu, rfl⟩ := List.mem_map.mp hx
    cases u with
    | int z => exact r32t z
    | _ => exact (show R32 0 by decide)
end Runs

end Jvm.Own

namespace Jvm.Own
-- functions of g-0164x4-1; fields: 0:cap, 1:words, 2:nodeCount, 3:pendLen, 4:queryLen, 5:candCount, 6:searchK, 7:resCount, 8:node, 9:lim, 10:n, 11:m, 12:s, 13:id, 14:next, 15:letter, 16:top, 17:low, 18:c, 19:prev, 20:cur, 21:first, 22:cost, 23:sub, 24:del, 25:ins, 26:v, 27:dist, 28:pos, 29:la, 30:lb, 31:ca, 32:cb, 33:p, 34:len, 35:d; arrays: 1:childSlot[6656] int, 2:nodeFreq[256] int, 3:nodeParent[256] int, 4:nodeLetter[256] int, 5:nodeDepth[256] int, 6:pend[12] int, 7:query[12] int, 8:rows[169] int, 9:stackNode[13] int, 10:stackNext[13] int, 11:candNode[20] int, 12:candDist[20] int, 13:candFreq[20] int, 14:resWord[240] int, 15:resLen[20] int, 16:resDist[20] int, 17:resFreq[20] int
def k_clamp (v1 v2 v3 : Int) : Int :=
  if v1 < v2 then
    v2
  else
    if v1 ≤ v3 then
      v1
    else
      v3
def k_ctor (F : Nat) (v1 : Int) : Option Mo :=
  some ((upd (upd (upd (upd (upd (upd (upd (upd (upd (upd (upd zM 0 0 (k_clamp v1 1 20)) 0 1 0) 0 2 1) 3 0 0) 5 0 0) 2 0 0) 0 3 0) 0 4 0) 0 7 0) 0 5 0) 0 6 0))
def k_isLetter (v1 : Int) : Int :=
  if v1 < 97 then
    0
  else
    if 122 < v1 then
      0
    else
      1
def k_pendChar (F : Nat) (O0 : Mo) (v1 : Int) : Option (Int × Mo) :=
  if k_isLetter v1 = 0 then
    some ((0, O0))
  else
    if O0 0 3 < 12 then
      if 0 ≤ (O0 0 3) ∧ (O0 0 3) < 12 then
        some ((1, (upd (upd O0 6 ((O0 0 3).toNat) (w32 (v1 - 97))) 0 3 (w32 ((O0 0 3) + 1)))))
      else none
    else
      some ((0, O0))
def k_childAt (F : Nat) (O0 : Mo) (v1 v2 : Int) : Option Int :=
  if v1 < 0 then
    some 0
  else
    if v1 < 256 then
      if v2 < 0 then
        some 0
      else
        if v2 < 26 then
          if 0 ≤ (w32 ((w32 (v1 * 26)) + v2)) ∧ (w32 ((w32 (v1 * 26)) + v2)) < 6656 then
            some (O0 1 (w32 ((w32 (v1 * 26)) + v2)).toNat)
          else none
        else
          some 0
    else
      some 0
def b_k_findPending_4 (F : Nat) (O0 : Mo) (v1 v2 : Int) : Option ((Int × Int) ⊕ (Unit ⊕ Int)) :=
  if v2 < O0 0 3 then
    if v2 < 12 then
      if 0 ≤ v2 ∧ v2 < 12 then
        (k_childAt F O0 v1 (O0 6 v2.toNat)).bind fun r_1 =>
        if 0 < r_1 then
          some (Sum.inl ((r_1, w32 (v2 + 1))))
        else
          some (Sum.inr (Sum.inl (())))
      else none
    else
      some (Sum.inr (Sum.inr v1))
  else
    some (Sum.inr (Sum.inr v1))
def k_findPending (F : Nat) (O0 : Mo) : Option Int :=
  (loop (fun s => b_k_findPending_4 F O0 s.1 s.2) F ((0, 0))).bind fun r =>
  Sum.elim (fun r_1 =>
    some ((-1)))
    (fun r_2 =>
    some r_2) r
def j_k_addFreq_14 : Int :=
  1000000
def k_addFreq (v1 v2 : Int) : Int :=
  if 1000000 < w32 (v1 + v2) then
    j_k_addFreq_14
  else
    if w32 (v1 + v2) < 0 then
      j_k_addFreq_14
    else
      w32 (v1 + v2)
def k_hasRoom (O0 : Mo) (v1 : Int) : Int :=
  if v1 < 0 then
    0
  else
    if 256 < w32 ((O0 0 2) + v1) then
      0
    else
      1
def k_newNode (F : Nat) (O0 : Mo) (v1 v2 v3 : Int) : Option (Int × Mo) :=
  if O0 0 2 < 256 then
    if 0 ≤ (O0 0 2) ∧ (O0 0 2) < 256 then
      if 0 ≤ (O0 0 2) ∧ (O0 0 2) < 256 then
        if 0 ≤ (O0 0 2) ∧ (O0 0 2) < 256 then
          if 0 ≤ (O0 0 2) ∧ (O0 0 2) < 256 then
            some ((O0 0 2, (upd (upd (upd (upd (upd O0 0 2 (w32 ((O0 0 2) + 1))) 3 ((O0 0 2).toNat) v1) 4 ((O0 0 2).toNat) v2) 5 ((O0 0 2).toNat) v3) 2 ((O0 0 2).toNat) 0)))
          else none
        else none
      else none
    else none
  else
    some (((-1), O0))
def k_setChild (F : Nat) (O0 : Mo) (v1 v2 v3 : Int) : Option Mo :=
  if v1 < 0 then
    some O0
  else
    if v1 < 256 then
      if v2 < 0 then
        some O0
      else
        if v2 < 26 then
          if 0 ≤ (w32 ((w32 (v1 * 26)) + v2)) ∧ (w32 ((w32 (v1 * 26)) + v2)) < 6656 then
            some ((upd O0 1 ((w32 ((w32 (v1 * 26)) + v2)).toNat) v3))
          else none
        else
          some O0
    else
      some O0
def i_k_insertPending_64 (F : Nat) (O0 : Mo) (v2 v4 : Int) : Option ((Int × Int × Mo) ⊕ (Mo ⊕ ((Int × Mo)))) :=
  some (Sum.inl ((v4, w32 (v2 + 1), O0)))
def b_k_insertPending_4 (F : Nat) (v1 v2 : Int) (O0 : Mo) : Option ((Int × Int × Mo) ⊕ (Mo ⊕ ((Int × Mo)))) :=
  if v2 < O0 0 3 then
    if v2 < 12 then
      if 0 ≤ v2 ∧ v2 < 12 then
        (k_childAt F O0 v1 (O0 6 v2.toNat)).bind fun r_1 =>
        if r_1 = 0 then
          (k_newNode F O0 v1 (O0 6 v2.toNat) (w32 (v2 + 1))).bind fun r_2 =>
          if r_2.1 < 0 then
            some (Sum.inr (Sum.inl r_2.2))
          else
            (k_setChild F r_2.2 v1 (O0 6 v2.toNat) r_2.1).bind fun r_3 =>
            i_k_insertPending_64 F r_3 v2 r_2.1
        else
          i_k_insertPending_64 F O0 v2 r_1
      else none
    else
      some (Sum.inr (Sum.inr ((v1, O0))))
  else
    some (Sum.inr (Sum.inr ((v1, O0))))
def k_insertPending (F : Nat) (O0 : Mo) : Option (Int × Mo) :=
  (loop (fun s => b_k_insertPending_4 F s.1 s.2.1 s.2.2) F ((0, 0, O0))).bind fun r =>
  Sum.elim (fun r_1 =>
    some (((-1), r_1)))
    (fun r_2 =>
    some r_2) r
def j_k_commit_65 (F : Nat) (O0 : Mo) (v1 : Int) : Option (Int × Mo) :=
  if O0 0 1 < O0 0 0 then
    if k_hasRoom O0 (O0 0 3) = 0 then
      some (((-3), O0))
    else
      (k_insertPending F O0).bind fun r =>
      if 0 < r.1 then
        if 0 ≤ r.1 ∧ r.1 < 256 then
          some ((1, (upd (upd (upd r.2 2 (r.1.toNat) v1) 0 1 (w32 ((r.2 0 1) + 1))) 0 3 0)))
        else none
      else
        some (((-3), r.2))
  else
    some (((-3), O0))
def k_commit (F : Nat) (O0 : Mo) (v1 : Int) : Option (Int × Mo) :=
  if O0 0 3 = 0 then
    some (((-1), O0))
  else
    if v1 < 1 then
      some (((-2), O0))
    else
      if v1 ≤ 1000000 then
        (k_findPending F O0).bind fun r =>
        if r ≤ 0 then
          j_k_commit_65 F O0 v1
        else
          if 0 ≤ r ∧ r < 256 then
            if O0 2 r.toNat ≤ 0 then
              j_k_commit_65 F O0 v1
            else
              if 0 ≤ r ∧ r < 256 then
                if 0 ≤ r ∧ r < 256 then
                  some ((2, (upd (upd O0 2 (r.toNat) (k_addFreq (O0 2 r.toNat) v1)) 0 3 0)))
                else none
              else none
          else none
      else
        some (((-2), O0))
def k_pendClear (F : Nat) (O0 : Mo) : Option Mo :=
  some ((upd O0 0 3 0))
def k_wordCount (O0 : Mo) : Int :=
  O0 0 1
def k_pendingLength (O0 : Mo) : Int :=
  O0 0 3
def k_pendFreq (F : Nat) (O0 : Mo) : Option Int :=
  if O0 0 3 = 0 then
    some 0
  else
    (k_findPending F O0).bind fun r =>
    if 0 < r then
      if 0 ≤ r ∧ r < 256 then
        some (O0 2 r.toNat)
      else none
    else
      some 0
def j_u_law_307 (F : Nat) (O0 : Mo) (s0 s1 : Int) : Option Int :=
  if s1 = s0 then
    some 1
  else
    some 0
def j_u_law_273 (F : Nat) (O0 : Mo) (v1 v5 v10 v13 s0 s1 : Int) : Option Int :=
  if s1 = s0 then
    (k_pendChar F O0 v1).bind fun r =>
    if r.1 = v5 then
      (k_pendFreq F r.2).bind fun r_1 =>
      if v13 = 0 then
        j_u_law_307 F r.2 v10 r_1
      else
        j_u_law_307 F r.2 0 r_1
    else
      some 0
  else
    some 0
def j_u_law_256 (F : Nat) (O0 : Mo) (v1 v5 v10 s0 : Int) : Option Int :=
  if s0 = 0 then
    j_u_law_273 F O0 v1 v5 v10 s0 0 (k_pendingLength O0)
  else
    j_u_law_273 F O0 v1 v5 v10 s0 1 (k_pendingLength O0)
def j_u_law_236 (F : Nat) (O0 : Mo) (v1 v5 v10 v12 s0 s1 : Int) : Option Int :=
  if s1 = s0 then
    if v5 = 0 then
      j_u_law_256 F O0 v1 v5 v10 0
    else
      if v12 < 0 then
        j_u_law_256 F O0 v1 v5 v10 1
      else
        j_u_law_256 F O0 v1 v5 v10 0
  else
    some 0
def j_u_law_221 (F : Nat) (O0 : Mo) (v1 v5 v10 v12 : Int) : Option Int :=
  if v10 ≤ 0 then
    j_u_law_236 F O0 v1 v5 v10 v12 0 (k_wordCount O0)
  else
    j_u_law_236 F O0 v1 v5 v10 v12 1 (k_wordCount O0)
def j_u_law_219 (F : Nat) (O0 : Mo) (v1 v5 v12 s0 : Int) : Option Int :=
  j_u_law_221 F O0 v1 v5 s0 v12
def j_u_law_185 (F : Nat) (O0 : Mo) (v1 v3 v5 v10 v11 s0 : Int) : Option Int :=
  if v11 = s0 then
    if s0 ≤ 0 then
      j_u_law_221 F O0 v1 v5 v10 s0
    else
      if w32 (v10 + v3) ≤ 1000000 then
        j_u_law_219 F O0 v1 v5 s0 (w32 (v10 + v3))
      else
        j_u_law_219 F O0 v1 v5 s0 1000000
  else
    some 0
def j_u_law_128 (F : Nat) (O0 : Mo) (v1 v3 v5 v7 s0 : Int) : Option Int :=
  (k_pendClear F O0).bind fun r =>
  (k_pendChar F r v1).bind fun r_1 =>
  if r_1.1 = v5 then
    (k_commit F r_1.2 v3).bind fun r_2 =>
    if v5 = 0 then
      j_u_law_185 F r_2.2 v1 v3 v5 s0 r_2.1 ((-1))
    else
      if v7 = 0 then
        j_u_law_185 F r_2.2 v1 v3 v5 s0 r_2.1 ((-2))
      else
        if s0 ≤ 0 then
          j_u_law_185 F r_2.2 v1 v3 v5 s0 r_2.1 1
        else
          j_u_law_185 F r_2.2 v1 v3 v5 s0 r_2.1 2
  else
    some 0
def j_u_law_106 (F : Nat) (O0 : Mo) (v1 v2 v3 v5 v7 v8 s0 : Int) : Option Int :=
  if v8 = s0 then
    if s0 = 1 then
      j_u_law_128 F O0 v1 v3 v5 v7 v2
    else
      j_u_law_128 F O0 v1 v3 v5 v7 0
  else
    some 0
def j_u_law_63 (F : Nat) (O0 : Mo) (v1 v2 v3 v5 v6 s0 : Int) : Option Int :=
  (k_pendChar F O0 v1).bind fun r =>
  if r.1 = v5 then
    (k_commit F r.2 v2).bind fun r_1 =>
    if v5 = 0 then
      j_u_law_106 F r_1.2 v1 v2 v3 v5 s0 r_1.1 ((-1))
    else
      if v6 = 0 then
        j_u_law_106 F r_1.2 v1 v2 v3 v5 s0 r_1.1 ((-2))
      else
        j_u_law_106 F r_1.2 v1 v2 v3 v5 s0 r_1.1 1
  else
    some 0
def j_u_law_45 (F : Nat) (O0 : Mo) (v1 v2 v3 v5 s0 : Int) : Option Int :=
  if v3 < 1 then
    j_u_law_63 F O0 v1 v2 v3 v5 s0 0
  else
    if 1000000 < v3 then
      j_u_law_63 F O0 v1 v2 v3 v5 s0 0
    else
      j_u_law_63 F O0 v1 v2 v3 v5 s0 1
def j_u_law_27 (F : Nat) (O0 : Mo) (v1 v2 v3 s0 : Int) : Option Int :=
  if v2 < 1 then
    j_u_law_45 F O0 v1 v2 v3 s0 0
  else
    if 1000000 < v2 then
      j_u_law_45 F O0 v1 v2 v3 s0 0
    else
      j_u_law_45 F O0 v1 v2 v3 s0 1
def u_law (F : Nat) (v0 v1 v2 v3 : Int) : Option Int :=
  (k_ctor F v0).bind fun r =>
  if v1 < 97 then
    j_u_law_27 F r v1 v2 v3 0
  else
    if 122 < v1 then
      j_u_law_27 F r v1 v2 v3 0
    else
      j_u_law_27 F r v1 v2 v3 1
end Jvm.Own

namespace Jvm.Own
theorem t32 {x : Int} (h1 : -2147483648 ≤ x) (h2 : x < 2147483648) : w32 x = x := Int.bmod_eq_of_le (by omega) (by omega)
theorem t64 {x : Int} (h1 : -9223372036854775808 ≤ x) (h2 : x < 9223372036854775808) : w64 x = x := Int.bmod_eq_of_le (by omega) (by omega)
theorem t8 {x : Int} (h1 : -128 ≤ x) (h2 : x < 128) : w8 x = x := Int.bmod_eq_of_le (by omega) (by omega)
theorem w32_ge (x : Int) : -2147483648 ≤ w32 x := by have := Int.le_bmod (x := x) (m := 4294967296) (by decide); simpa [w32] using this
theorem w32_lt (x : Int) : w32 x < 2147483648 := by have := Int.bmod_lt (x := x) (m := 4294967296) (by decide); simpa [w32] using this
theorem loop_inl {σ ρ : Type} {body : σ → Option (σ ⊕ ρ)} {n : Nat} {s s' : σ} (h : body s = some (Sum.inl s')) : loop body (n + 1) s = loop body n s' := by simp [loop, h]
theorem loop_inr {σ ρ : Type} {body : σ → Option (σ ⊕ ρ)} {n : Nat} {s : σ} {r : ρ} (h : body s = some (Sum.inr r)) : loop body (n + 1) s = some r := by simp [loop, h]
theorem lp_spec {σ ρ : Type} {body : σ → Option (σ ⊕ ρ)} (Inv : σ → Prop) (μ : σ → Nat) (Post : ρ → Prop)
    (h : ∀ s, Inv s → ∃ x, body s = some x ∧ Sum.elim (fun s' => Inv s' ∧ μ s' < μ s) Post x) : ∀ n s, Inv s → μ s < n → ∃ r, loop body n s = some r ∧ Post r
  | 0, s, _, hn => absurd hn (Nat.not_lt_zero _)
  | n + 1, s, hi, hn => by
    obtain ⟨x, hx, hr⟩ := h s hi
    cases x with
    | inl s' =>
      have hr' : Inv s' ∧ μ s' < μ s := hr
      obtain ⟨r, e, p⟩ := lp_spec Inv μ Post h n s' hr'.1 (by have := hr'.2; omega)
      exact ⟨r, by simp [loop, hx, e], p⟩
    | inr r => exact ⟨r, by simp [loop, hx], hr⟩
theorem lp_one {σ ρ : Type} {body : σ → Option (σ ⊕ ρ)} {F : Nat} {s : σ} {r : ρ} (hF : 0 < F) (h : body s = some (Sum.inr r)) : loop body F s = some r := by
  cases F with
  | zero => omega
  | succ n => exact loop_inr h
theorem lp_iter_from {σ ρ : Type} {body : σ → Option (σ ⊕ ρ)} (g : Nat → σ) (N : Nat) (r : ρ) (hs : ∀ k, k < N → body (g k) = some (Sum.inl (g (k + 1)))) (he : body (g N) = some (Sum.inr r)) :
    ∀ F k, k ≤ N → N - k < F → loop body F (g k) = some r
  | 0, k, _, h => by omega
  | F + 1, k, hk, h => by
    by_cases e : k = N
    · subst e; exact loop_inr he
    · rw [loop_inl (hs k (by omega))]
      exact lp_iter_from g N r hs he F (k + 1) (by omega) (by omega)
theorem lp_iter {σ ρ : Type} {body : σ → Option (σ ⊕ ρ)} (g : Nat → σ) (N : Nat) (r : ρ) (hs : ∀ k, k < N → body (g k) = some (Sum.inl (g (k + 1)))) (he : body (g N) = some (Sum.inr r)) {F : Nat} (hF : N < F) :
    loop body F (g 0) = some r := lp_iter_from g N r hs he F 0 (by omega) (by omega)
theorem lp_fill {body : Int × Mo → Option ((Int × Mo) ⊕ Mo)} (N : Nat) (Q : Nat → Mo → Prop)
    (hs : ∀ (k : Nat) (O : Mo), k < N → Q k O → ∃ O', body ((k : Int), O) = some (Sum.inl (((k + 1 : Nat) : Int), O')) ∧ Q (k + 1) O') (he : ∀ O, Q N O → body ((N : Int), O) = some (Sum.inr O))
    {F : Nat} (hF : N < F) {O : Mo} (h0 : Q 0 O) : ∃ R, loop body F ((0 : Int), O) = some R ∧ Q N R :=
  lp_spec (body := body) (fun s => ∃ k : Nat, k ≤ N ∧ s.1 = (k : Int) ∧ Q k s.2) (fun s => N - s.1.toNat) (Q N)
    (by
      rintro ⟨i, R⟩ ⟨k, hk, h1, h2⟩
      dsimp only at h1 h2
      subst h1
      by_cases h : k < N
      · obtain ⟨O', e, q⟩ := hs k R h h2
        refine ⟨_, e, ⟨k + 1, by omega, rfl, q⟩, ?_⟩
        dsimp only; omega
      · have : k = N := by omega
        subst this
        exact ⟨_, he R h2, h2⟩) F (0, O) ⟨0, by omega, rfl, h0⟩ (by dsimp only; omega)
theorem t32s {k : Nat} (h : k < 2147483647) : w32 ((k : Int) + 1) = ((k + 1 : Nat) : Int) := by rw [t32 (by omega) (by omega)]; omega
end Jvm.Own

--USES Tools.lean
namespace Jvm.Own
theorem isL (c : Int) : k_isLetter c = if 97 ≤ c ∧ c ≤ 122 then 1 else 0 := by
  simp only [k_isLetter]; repeat' split
  all_goals first | (exfalso; omega) | rfl
theorem pendC (O : Mo) (c p : Int) (hc : 97 ≤ c ∧ c ≤ 122) (hp : O 0 3 = p) (p0 : 0 ≤ p) (p1 : p < 12) : k_pendChar 1000 O c = some (1, upd (upd O 6 p.toNat (c - 97)) 0 3 (p + 1)) := by
  simp only [k_pendChar, isL, if_pos hc, hp]
  rw [if_neg (by omega), if_pos (by omega), if_pos (by omega), t32 (by omega) (by omega), t32 (by omega) (by omega)]
theorem childAt_eq (O : Mo) (a b : Int) (ha : 0 ≤ a ∧ a < 256) (hb : 0 ≤ b ∧ b < 26) : k_childAt 1000 O a b = some (O 1 (a * 26 + b).toNat) := by
  simp only [k_childAt]
  rw [if_neg (by omega), if_pos (by omega), if_neg (by omega), if_pos (by omega), t32 (x := a * 26) (by omega) (by omega), t32 (by omega) (by omega), if_pos (by omega)]
theorem find0 (O : Mo) (b : Int) (hb : 0 ≤ b ∧ b < 26) (h : 0 < O 0 3) (h6 : O 6 0 = b) (h1 : O 1 b.toNat = 0) : k_findPending 1000 O = some (-1) := by
  have l : loop (fun s => b_k_findPending_4 1000 O s.1 s.2) 1000 ((0, 0)) = some (Sum.inl ()) := lp_one (by omega) (by
    have := childAt_eq O 0 b (by omega) hb
    have e : (0 * 26 + b).toNat = b.toNat := by omega
    have e0 : (0 : Int).toNat = 0 := rfl
    rw [e, h1] at this
    simp only [b_k_findPending_4, e0, h6, this, Option.bind_some]
    rw [if_pos h, if_pos (by omega), if_pos (by omega), if_neg (by omega)])
  simp only [k_findPending, l, Option.bind_some]; rfl
theorem find1 (O : Mo) (b : Int) (hb : 0 ≤ b ∧ b < 26) (h : O 0 3 = 1) (h6 : O 6 0 = b) (h1 : O 1 b.toNat = 1) : k_findPending 1000 O = some 1 := by
  have l : loop (fun s => b_k_findPending_4 1000 O s.1 s.2) 1000 ((0, 0)) = some (Sum.inr 1) := by
    refine lp_iter (body := fun s : Int × Int => b_k_findPending_4 1000 O s.1 s.2) (fun k => if k = 0 then (0, 0) else (1, 1)) 1 _ ?_ ?_ (by omega)
    · intro k hk
      have : k = 0 := by omega
      subst this
      have := childAt_eq O 0 b (by omega) hb
      have e : (0 * 26 + b).toNat = b.toNat := by omega
      have e0 : (0 : Int).toNat = 0 := rfl
      rw [e, h1] at this
      simp only [↓reduceIte, b_k_findPending_4, e0, h6, this, Option.bind_some, h]
      rw [if_pos (by omega), if_pos (by omega), if_pos (by omega), if_pos (by omega)]; rfl
    · show b_k_findPending_4 1000 O 1 1 = _
      simp only [b_k_findPending_4, h]; rw [if_neg (by omega)]
  simp only [k_findPending, l, Option.bind_some]; rfl
theorem find2 (O : Mo) (b : Int) (hb : 0 ≤ b ∧ b < 26) (h : O 0 3 = 2) (h6 : O 6 0 = b) (h6' : O 6 1 = b) (h1 : O 1 b.toNat = 1) (h2 : O 1 (26 + b).toNat = 0) : k_findPending 1000 O = some (-1) := by
  have l : loop (fun s => b_k_findPending_4 1000 O s.1 s.2) 1000 ((0, 0)) = some (Sum.inl ()) := by
    refine lp_iter (body := fun s : Int × Int => b_k_findPending_4 1000 O s.1 s.2) (fun k => if k = 0 then (0, 0) else (1, 1)) 1 _ ?_ ?_ (by omega)
    · intro k hk
      have : k = 0 := by omega
      subst this
      have := childAt_eq O 0 b (by omega) hb
      have e : (0 * 26 + b).toNat = b.toNat := by omega
      have e0 : (0 : Int).toNat = 0 := rfl
      rw [e, h1] at this
      simp only [↓reduceIte, b_k_findPending_4, e0, h6, this, Option.bind_some, h]
      rw [if_pos (by omega), if_pos (by omega), if_pos (by omega), if_pos (by omega)]; rfl
    · show b_k_findPending_4 1000 O 1 1 = _
      have := childAt_eq O 1 b (by omega) hb
      have e : (1 * 26 + b).toNat = (26 + b).toNat := by omega
      have e1 : (1 : Int).toNat = 1 := rfl
      rw [e, h2] at this
      simp only [b_k_findPending_4, h, e1, h6', this, Option.bind_some]
      rw [if_pos (by omega), if_pos (by omega), if_pos (by omega), if_neg (by omega)]
  simp only [k_findPending, l, Option.bind_some]; rfl
def P0 (O : Mo) : Prop := 1 ≤ O 0 0 ∧ O 0 1 = 0 ∧ O 0 2 = 1 ∧ ∀ i, O 1 i = 0
def P1 (O : Mo) (b f : Int) : Prop := O 0 1 = 1 ∧ O 1 b.toNat = 1 ∧ O 1 (26 + b).toNat = 0 ∧ O 2 1 = f
theorem insertP (O : Mo) (b : Int) (hb : 0 ≤ b ∧ b < 26) (hP : P0 O) (h : O 0 3 = 1) (h6 : O 6 0 = b) :
   ∃ R, k_insertPending 1000 O = some (1, R) ∧ R 0 1 = 0 ∧ R 1 b.toNat = 1 ∧ R 1 (26 + b).toNat = 0 := by
  obtain ⟨h00, h01, h02, hz⟩ := hP
  let R : Mo := upd (upd (upd (upd (upd (upd O 0 2 2) 3 1 0) 4 1 b) 5 1 1) 2 1 0) 1 b.toNat 1
  have l : loop (fun s => b_k_insertPending_4 1000 s.1 s.2.1 s.2.2) 1000 ((0, 0, O)) = some (Sum.inr (1, R)) := by
    refine lp_iter (body := fun s : Int × Int × Mo => b_k_insertPending_4 1000 s.1 s.2.1 s.2.2) (fun k => if k = 0 then (0, 0, O) else (1, 1, R)) 1 _ ?_ ?_ (by omega)
    · intro k hk
      have : k = 0 := by omega
      subst this
      have := childAt_eq O 0 b (by omega) hb
      have e0 : (0 : Int).toNat = 0 := rfl
      rw [hz] at this
      have nn : k_newNode 1000 O 0 b (w32 (0 + 1)) = some (1, upd (upd (upd (upd (upd O 0 2 2) 3 1 0) 4 1 b) 5 1 1) 2 1 0) := by
        simp only [k_newNode, h02]; rw [if_pos (by omega), if_pos (by omega), if_pos (by omega), if_pos (by omega)]; rfl
      have sc : ∀ Q, k_setChild 1000 Q 0 b 1 = some (upd Q 1 b.toNat 1) := by
        intro Q
        simp only [k_setChild]
        rw [if_neg (by omega), if_pos (by omega), if_neg (by omega), if_pos (by omega), t32 (x := 0 * 26) (by omega) (by omega), t32 (by omega) (by omega), if_pos (by omega)]
        have e : (0 * 26 + b).toNat = b.toNat := by omega
        rw [e]
      simp only [↓reduceIte, b_k_insertPending_4, e0, h6, this, Option.bind_some, h, nn, sc, i_k_insertPending_64]
      rw [if_pos (by omega), if_pos (by omega), if_pos (by omega), if_neg (by omega)]; rfl
    · show b_k_insertPending_4 1000 1 1 R = _
      have : R 0 3 = 1 := h
      simp only [b_k_insertPending_4, this]; rw [if_neg (by omega)]
  refine ⟨R, ?_, h01, ?_, ?_⟩
  · simp only [k_insertPending, l, Option.bind_some]; rfl
  · simp [R, upd]
  · have : (26 + b).toNat ≠ b.toNat := by omega
    simp [R, upd, this, hz]
theorem commit_new (O : Mo) (b f : Int) (hb : 0 ≤ b ∧ b < 26) (hP : P0 O) (h : O 0 3 = 1) (h6 : O 6 0 = b) (hf : 1 ≤ f ∧ f ≤ 1000000) :
   ∃ R, k_commit 1000 O f = some (1, R) ∧ P1 R b f ∧ R 0 3 = 0 := by
  have f0 := find0 O b hb (by omega) h6 (hP.2.2.2 _)
  obtain ⟨R, i1, i2, i3, i4⟩ := insertP O b hb hP h h6
  have hr : k_hasRoom O 1 = 1 := by simp [k_hasRoom, hP.2.2.1, w32, Int.bmod]
  refine ⟨upd (upd (upd R 2 1 f) 0 1 1) 0 3 0, ?_, ⟨rfl, i3, i4, rfl⟩, rfl⟩
  have q1 := hP.1
  have q2 := hP.2.1
  simp only [k_commit, f0, Option.bind_some, j_k_commit_65, h, hr, i1, i2, q2]
  rw [if_neg (by omega), if_neg (by omega), if_pos (by omega), if_pos (by omega), if_pos (by omega), if_neg (by omega)]
  rfl
theorem addFreq_eq (a b : Int) (ha : 0 ≤ a ∧ a ≤ 1000000) (hb : 0 ≤ b ∧ b ≤ 1000000) : k_addFreq a b = if a + b ≤ 1000000 then a + b else 1000000 := by
  simp only [k_addFreq, j_k_addFreq_14]; rw [t32 (by omega) (by omega)]
  repeat' split
  all_goals omega
theorem commit_more (O : Mo) (b f g : Int) (hb : 0 ≤ b ∧ b < 26) (hP : P1 O b f) (h : O 0 3 = 1) (h6 : O 6 0 = b) (hf : 1 ≤ f ∧ f ≤ 1000000) (hg : 1 ≤ g ∧ g ≤ 1000000) :
   ∃ R, k_commit 1000 O g = some (2, R) ∧ P1 R b (if f + g ≤ 1000000 then f + g else 1000000) ∧ R 0 3 = 0 := by
  obtain ⟨q1, q2, q3, q4⟩ := hP
  have f1 := find1 O b hb h h6 q2
  refine ⟨upd (upd O 2 1 (k_addFreq f g)) 0 3 0, ?_, ⟨q1, q2, q3, ?_⟩, rfl⟩
  · have e1 : (1 : Int).toNat = 1 := rfl
    simp only [k_commit, f1, Option.bind_some, h, e1, q4]
    rw [if_neg (by omega), if_neg (by omega), if_pos (by omega), if_neg (by omega), if_pos (by omega), if_neg (by omega), if_pos (by omega)]
    rfl
  · show k_addFreq f g = _
    rw [addFreq_eq f g (by omega) (by omega)]
theorem commit_bad (O : Mo) (f : Int) (h : O 0 3 = 1) (hf : f < 1 ∨ 1000000 < f) : k_commit 1000 O f = some (-2, O) := by
  simp only [k_commit, h]; rw [if_neg (by omega)]
  rcases hf with hf | hf
  · rw [if_pos hf]
  · rw [if_neg (by omega), if_neg (by omega)]
theorem P0_pend {O : Mo} (hP : P0 O) (x y : Int) (n : Nat) : P0 (upd (upd O 6 n x) 0 3 y) := hP
theorem P1_pend {O : Mo} {b f : Int} (hP : P1 O b f) (x y : Int) (n : Nat) : P1 (upd (upd O 6 n x) 0 3 y) b f := hP
theorem P0_clear {O : Mo} (hP : P0 O) : P0 (upd O 0 3 0) := hP
theorem P1_clear {O : Mo} {b f : Int} (hP : P1 O b f) : P1 (upd O 0 3 0) b f := hP
/-- the end: a word stands with frequence f, the pending word is empty -/
theorem end1 (O : Mo) (v1 f z : Int) (hc : 97 ≤ v1 ∧ v1 ≤ 122) (hP : P1 O (v1 - 97) f) (h : O 0 3 = 0) (hf : 1 ≤ f) (hz : 0 ≤ z) : j_u_law_221 1000 O v1 1 f z = some 1 := by
  have p := pendC O v1 0 hc h (by omega) (by omega)
  have e0 : (0 : Int).toNat = 0 := rfl
  have e1 : (1 : Int).toNat = 1 := rfl
  obtain ⟨q1, q2, q3, q4⟩ := P1_pend hP (v1 - 97) (0 + 1) 0
  have fr := find1 (upd (upd O 6 0 (v1 - 97)) 0 3 (0 + 1)) (v1 - 97) (by omega) rfl rfl q2
  rw [e0] at p
  have pf : k_pendFreq 1000 (upd (upd O 6 0 (v1 - 97)) 0 3 (0 + 1)) = some f := by
    simp only [k_pendFreq, fr, Option.bind_some, e1, q4]
    rw [if_neg (by simp [upd]), if_pos (by omega), if_pos (by omega)]
  have w : k_wordCount O = 1 := hP.1
  have pl : k_pendingLength O = 0 := h
  simp only [j_u_law_221, w]
  rw [if_neg (by omega)]
  simp only [j_u_law_236, ↓reduceIte]
  rw [if_neg (by omega), if_neg (by omega)]
  simp only [j_u_law_256, j_u_law_273, pl, p, Option.bind_some, pf, j_u_law_307, ↓reduceIte]
/-- the end: no word, the pending word keeps one letter -/
theorem end2 (O : Mo) (v1 z : Int) (hc : 97 ≤ v1 ∧ v1 ≤ 122) (hP : P0 O) (h : O 0 3 = 1) (h6 : O 6 0 = v1 - 97) (hz : z < 0) : j_u_law_221 1000 O v1 1 0 z = some 1 := by
  have p := pendC O v1 1 hc h (by omega) (by omega)
  have e1 : (1 : Int).toNat = 1 := rfl
  rw [e1] at p
  have fr := find0 (upd (upd O 6 1 (v1 - 97)) 0 3 (1 + 1)) (v1 - 97) (by omega) (by simp [upd]) (by simp [upd, h6]) (hP.2.2.2 _)
  have pf : k_pendFreq 1000 (upd (upd O 6 1 (v1 - 97)) 0 3 (1 + 1)) = some 0 := by
    simp only [k_pendFreq, fr, Option.bind_some]
    rw [if_neg (by simp [upd]), if_neg (by omega)]
  have w : k_wordCount O = 0 := hP.2.1
  have pl : k_pendingLength O = 1 := h
  simp only [j_u_law_221, w]
  rw [if_pos (by omega)]
  simp only [j_u_law_236, ↓reduceIte]
  rw [if_neg (by omega), if_pos (by omega)]
  simp only [j_u_law_256, j_u_law_273, pl, p, Option.bind_some, pf, j_u_law_307, ↓reduceIte]
  rfl
/-- the end: a word, the pending word keeps one letter -/
theorem end3 (O : Mo) (v1 f z : Int) (hc : 97 ≤ v1 ∧ v1 ≤ 122) (hP : P1 O (v1 - 97) f) (h : O 0 3 = 1) (h6 : O 6 0 = v1 - 97) (hf : 1 ≤ f) (hz : z < 0) : j_u_law_221 1000 O v1 1 f z = some 1 := by
  have p := pendC O v1 1 hc h (by omega) (by omega)
  have e1 : (1 : Int).toNat = 1 := rfl
  rw [e1] at p
  obtain ⟨q1, q2, q3, q4⟩ := P1_pend hP (v1 - 97) (1 + 1) 1
  have fr := find2 (upd (upd O 6 1 (v1 - 97)) 0 3 (1 + 1)) (v1 - 97) (by omega) (by simp [upd]) (by simp [upd, h6]) (by simp [upd]) q2 q3
  have pf : k_pendFreq 1000 (upd (upd O 6 1 (v1 - 97)) 0 3 (1 + 1)) = some 0 := by
    simp only [k_pendFreq, fr, Option.bind_some]
    rw [if_neg (by simp [upd]), if_neg (by omega)]
  have w : k_wordCount O = 1 := hP.1
  have pl : k_pendingLength O = 1 := h
  simp only [j_u_law_221, w]
  rw [if_neg (by omega)]
  simp only [j_u_law_236, ↓reduceIte]
  rw [if_neg (by omega), if_pos (by omega)]
  simp only [j_u_law_256, j_u_law_273, pl, p, Option.bind_some, pf, j_u_law_307, ↓reduceIte]
  rfl
theorem second (O : Mo) (v1 v3 z : Int) (hc : 97 ≤ v1 ∧ v1 ≤ 122) (hs : (z = 0 ∧ P0 O) ∨ (1 ≤ z ∧ z ≤ 1000000 ∧ P1 O (v1 - 97) z)) :
    j_u_law_128 1000 O v1 v3 1 (if v3 < 1 ∨ 1000000 < v3 then 0 else 1) z = some 1 := by
  have p := pendC (upd O 0 3 0) v1 0 hc rfl (by omega) (by omega)
  have e0 : (0 : Int).toNat = 0 := rfl
  rw [e0] at p
  simp only [j_u_law_128, k_pendClear, Option.bind_some, p, ↓reduceIte]
  by_cases hb : v3 < 1 ∨ 1000000 < v3
  · have cb := commit_bad (upd (upd (upd O 0 3 0) 6 0 (v1 - 97)) 0 3 (0 + 1)) v3 rfl hb
    simp only [cb, Option.bind_some, if_pos hb]
    rw [if_neg (by omega), if_pos trivial]
    simp only [j_u_law_185, ↓reduceIte]
    rw [if_pos (by omega)]
    rcases hs with ⟨rfl, hP⟩ | ⟨h1, h2, hP⟩
    · exact end2 _ v1 _ hc (P0_pend (P0_clear hP) _ _ _) rfl rfl (by omega)
    · exact end3 _ v1 z _ hc (P1_pend (P1_clear hP) _ _ _) rfl rfl h1 (by omega)
  · rcases hs with ⟨rfl, hP⟩ | ⟨h1, h2, hP⟩
    · obtain ⟨R, c1, c2, c3⟩ := commit_new (upd (upd (upd O 0 3 0) 6 0 (v1 - 97)) 0 3 (0 + 1)) (v1 - 97) v3 (by omega) (P0_pend (P0_clear hP) _ _ _) rfl rfl (by omega)
      simp only [c1, Option.bind_some, if_neg hb]
      rw [if_neg (by omega), if_neg (by omega), if_pos (by omega)]
      simp only [j_u_law_185, ↓reduceIte]
      rw [if_neg (by omega), t32 (by omega) (by omega), if_pos (by omega)]
      simp only [j_u_law_219, Int.zero_add]
      exact end1 R v1 v3 _ hc c2 c3 (by omega) (by omega)
    · obtain ⟨R, c1, c2, c3⟩ := commit_more (upd (upd (upd O 0 3 0) 6 0 (v1 - 97)) 0 3 (0 + 1)) (v1 - 97) z v3 (by omega) (P1_pend (P1_clear hP) _ _ _) rfl rfl (by omega) (by omega)
      simp only [c1, Option.bind_some, if_neg hb]
      rw [if_neg (by omega), if_neg (by omega), if_neg (by omega)]
      simp only [j_u_law_185, ↓reduceIte]
      rw [if_neg (by omega), t32 (by omega) (by omega)]
      simp only [j_u_law_219]
      by_cases hh : z + v3 ≤ 1000000
      · rw [if_pos hh] at c2 ⊢
        exact end1 R v1 _ _ hc c2 c3 (by omega) (by omega)
      · rw [if_neg hh] at c2 ⊢
        exact end1 R v1 _ _ hc c2 c3 (by omega) (by omega)
theorem first_ (O : Mo) (v1 v2 v3 : Int) (hc : 97 ≤ v1 ∧ v1 ≤ 122) (hP : P0 O) (h : O 0 3 = 0) :
    j_u_law_63 1000 O v1 v2 v3 1 (if v2 < 1 ∨ 1000000 < v2 then 0 else 1) (if v3 < 1 ∨ 1000000 < v3 then 0 else 1) = some 1 := by
  have p := pendC O v1 0 hc h (by omega) (by omega)
  have e0 : (0 : Int).toNat = 0 := rfl
  rw [e0] at p
  simp only [j_u_law_63, Option.bind_some, p, ↓reduceIte]
  by_cases hb : v2 < 1 ∨ 1000000 < v2
  · have cb := commit_bad (upd (upd O 6 0 (v1 - 97)) 0 3 (0 + 1)) v2 rfl hb
    simp only [cb, Option.bind_some, if_pos hb]
    rw [if_neg (by omega), if_pos trivial]
    simp only [j_u_law_106, ↓reduceIte]
    rw [if_neg (by omega)]
    exact second _ v1 v3 0 hc (Or.inl ⟨rfl, P0_pend hP _ _ _⟩)
  · obtain ⟨R, c1, c2, c3⟩ := commit_new (upd (upd O 6 0 (v1 - 97)) 0 3 (0 + 1)) (v1 - 97) v2 (by omega) (P0_pend hP _ _ _) rfl rfl (by omega)
    simp only [c1, Option.bind_some, if_neg hb]
    rw [if_neg (by omega), if_neg (by omega)]
    simp only [j_u_law_106, ↓reduceIte]
    exact second R v1 v3 v2 hc (Or.inr ⟨by omega, by omega, c2⟩)
theorem none_ (O : Mo) (v1 v2 v3 a b : Int) (hc : ¬ (97 ≤ v1 ∧ v1 ≤ 122)) (h : O 0 3 = 0) (h1 : O 0 1 = 0) : j_u_law_63 1000 O v1 v2 v3 0 a b = some 1 := by
  have p : k_pendChar 1000 O v1 = some (0, O) := by simp [k_pendChar, isL, hc]
  have p' : k_pendChar 1000 (upd O 0 3 0) v1 = some (0, upd O 0 3 0) := by simp [k_pendChar, isL, hc]
  have c : ∀ x, k_commit 1000 O x = some (-1, O) := by intro x; simp [k_commit, h]
  have c' : ∀ x, k_commit 1000 (upd O 0 3 0) x = some (-1, upd O 0 3 0) := by intro x; simp [k_commit, upd]
  have w : k_wordCount (upd O 0 3 0) = 0 := h1
  have pl : k_pendingLength (upd O 0 3 0) = 0 := rfl
  have pf : k_pendFreq 1000 (upd O 0 3 0) = some 0 := by simp [k_pendFreq, upd]
  simp only [j_u_law_63, p, c, Option.bind_some, ↓reduceIte, j_u_law_106, j_u_law_128, k_pendClear, p', c', j_u_law_185]
  rw [if_neg (by omega), if_pos (by omega)]
  simp only [j_u_law_221, w, j_u_law_236, j_u_law_256, pl, j_u_law_273, p', Option.bind_some, pf, j_u_law_307, ↓reduceIte]
  rfl
theorem u_law_ok {v0 v1 v2 v3 : Int} (_ : R32 v0) (_ : R32 v1) (_ : R32 v2) (_ : R32 v3) : u_law 1000 v0 v1 v2 v3 = some 1 := by
  obtain ⟨r, h1, h2, h3⟩ : ∃ r, k_ctor 1000 v0 = some r ∧ P0 r ∧ r 0 3 = 0 := by
    refine ⟨_, rfl, ⟨?_, rfl, rfl, fun _ => rfl⟩, rfl⟩
    show 1 ≤ k_clamp v0 1 20
    simp only [k_clamp]; (repeat' split) <;> omega
  simp only [u_law, h1, Option.bind_some]
  by_cases hc : 97 ≤ v1 ∧ v1 ≤ 122
  · rw [if_neg (by omega), if_neg (by omega)]
    have k := first_ r v1 v2 v3 hc h2 h3
    simp only [j_u_law_27, j_u_law_45]
    by_cases a1 : v2 < 1 <;> by_cases a2 : 1000000 < v2 <;> by_cases a3 : v3 < 1 <;> by_cases a4 : 1000000 < v3 <;> simp only [a1, a2, a3, a4, or_true, true_or, or_self, or_false, ↓reduceIte] at k ⊢ <;> exact k
  · have k := fun a b => none_ r v1 v2 v3 a b hc h3 h2.2.1
    have k27 : j_u_law_27 1000 r v1 v2 v3 0 = some 1 := by
      simp only [j_u_law_27, j_u_law_45]
      repeat' split
      all_goals exact k _ _
    repeat' split
    all_goals first | (exfalso; omega) | exact k27
end Jvm.Own

namespace Jvm.Pilot.@@N@@
open Jvm Jvm.ClassFile Sem Op Lib Jvm.Free Jvm.Stand Jvm.LawKit Jvm.RoadKit Bundle Jvm.Pilot.@@N@@.Jvm.D
open Jvm.Own
def D : Cls := ("FuzzyLexicon", [(0, "cap", "I", .int), (1, "words", "I", .int), (2, "nodeCount", "I", .int), (3, "pendLen", "I", .int), (4, "queryLen", "I", .int), (5, "candCount", "I", .int), (6, "searchK", "I", .int), (7, "resCount", "I", .int)], [("childSlot", "[I", .int, 6656), ("nodeFreq", "[I", .int, 256), ("nodeParent", "[I", .int, 256), ("nodeLetter", "[I", .int, 256), ("nodeDepth", "[I", .int, 256), ("pend", "[I", .int, 12), ("query", "[I", .int, 12), ("rows", "[I", .int, 169), ("stackNode", "[I", .int, 13), ("stackNext", "[I", .int, 13), ("candNode", "[I", .int, 20), ("candDist", "[I", .int, 20), ("candFreq", "[I", .int, 20), ("resWord", "[I", .int, 240), ("resLen", "[I", .int, 20), ("resDist", "[I", .int, 20), ("resFreq", "[I", .int, 20)])
theorem D_C : D.C = "FuzzyLexicon" := rfl
theorem xc : x.cls = "FuzzyLexiconL2" := rfl
theorem fs_cap : (0, "cap", "I", (.int : FieldType)) ∈ D.FS := List.mem_of_getElem? (i := 0) rfl
theorem fs_words : (1, "words", "I", (.int : FieldType)) ∈ D.FS := List.mem_of_getElem? (i := 1) rfl
theorem fs_nodeCount : (2, "nodeCount", "I", (.int : FieldType)) ∈ D.FS := List.mem_of_getElem? (i := 2) rfl
theorem fs_pendLen : (3, "pendLen", "I", (.int : FieldType)) ∈ D.FS := List.mem_of_getElem? (i := 3) rfl
theorem fs_queryLen : (4, "queryLen", "I", (.int : FieldType)) ∈ D.FS := List.mem_of_getElem? (i := 4) rfl
theorem fs_candCount : (5, "candCount", "I", (.int : FieldType)) ∈ D.FS := List.mem_of_getElem? (i := 5) rfl
theorem fs_searchK : (6, "searchK", "I", (.int : FieldType)) ∈ D.FS := List.mem_of_getElem? (i := 6) rfl
theorem fs_resCount : (7, "resCount", "I", (.int : FieldType)) ∈ D.FS := List.mem_of_getElem? (i := 7) rfl
theorem w_0 {Z : State} {a0 : Array Value} (hw : ∀ d ∈ tables_1, d.before a0 Z = true) : (Jvm.Cond.classLink "FuzzyLexiconL2" 7 "FuzzyLexicon").before a0 Z = true := hw _ (List.mem_of_getElem? (i := 0) rfl)
theorem w_1 {Z : State} {a0 : Array Value} (hw : ∀ d ∈ tables_1, d.before a0 Z = true) : (Jvm.Cond.instantiable "FuzzyLexicon" 25).before a0 Z = true := hw _ (List.mem_of_getElem? (i := 1) rfl)
theorem w_2 {Z : State} {a0 : Array Value} (hw : ∀ d ∈ tables_1, d.before a0 Z = true) : (Jvm.Cond.initialized "FuzzyLexicon").before a0 Z = true := hw _ (List.mem_of_getElem? (i := 2) rfl)
theorem w_3 {Z : State} {a0 : Array Value} (hw : ∀ d ∈ tables_1, d.before a0 Z = true) : (Jvm.Cond.methodLink "FuzzyLexiconL2" 9 ({ cls := "FuzzyLexicon", name := "<init>", desc := "(I)V" } : Jvm.MethodName)).before a0 Z = true := hw _ (List.mem_of_getElem? (i := 3) rfl)
theorem w_4 {Z : State} {a0 : Array Value} (hw : ∀ d ∈ tables_1, d.before a0 Z = true) : (Jvm.Cond.instanceMethod ({ cls := "FuzzyLexicon", name := "<init>", desc := "(I)V" } : Jvm.MethodName)).before a0 Z = true := hw _ (List.mem_of_getElem? (i := 4) rfl)
theorem w_5 {Z : State} {a0 : Array Value} (hw : ∀ d ∈ tables_1, d.before a0 Z = true) : (Jvm.Cond.code ({ cls := "FuzzyLexicon", name := "<init>", desc := "(I)V" } : Jvm.MethodName) prog_1_method_1_code 2 (Option.none : Option Jvm.ClassFile.FieldType)).before a0 Z = true := hw _ (List.mem_of_getElem? (i := 5) rfl)
theorem w_6 {Z : State} {a0 : Array Value} (hw : ∀ d ∈ tables_1, d.before a0 Z = true) : (Jvm.Cond.methodLink "FuzzyLexicon" 1 ({ cls := "java/lang/Object", name := "<init>", desc := "()V" } : Jvm.MethodName)).before a0 Z = true := hw _ (List.mem_of_getElem? (i := 6) rfl)
theorem w_7 {Z : State} {a0 : Array Value} (hw : ∀ d ∈ tables_1, d.before a0 Z = true) : (Jvm.Cond.instanceMethod ({ cls := "java/lang/Object", name := "<init>", desc := "()V" } : Jvm.MethodName)).before a0 Z = true := hw _ (List.mem_of_getElem? (i := 7) rfl)
theorem w_8 {Z : State} {a0 : Array Value} (hw : ∀ d ∈ tables_1, d.before a0 Z = true) : (Jvm.Cond.code ({ cls := "java/lang/Object", name := "<init>", desc := "()V" } : Jvm.MethodName) object_method_1_code 1 (Option.none : Option Jvm.ClassFile.FieldType)).before a0 Z = true := hw _ (List.mem_of_getElem? (i := 8) rfl)
theorem w_9 {Z : State} {a0 : Array Value} (hw : ∀ d ∈ tables_1, d.before a0 Z = true) : (Jvm.Cond.arrayClass Jvm.ClassFile.FieldType.int).before a0 Z = true := hw _ (List.mem_of_getElem? (i := 9) rfl)
theorem w_10 {Z : State} {a0 : Array Value} (hw : ∀ d ∈ tables_1, d.before a0 Z = true) : (Jvm.Cond.fieldLink "FuzzyLexicon" 7 "FuzzyLexicon" "childSlot" "[I").before a0 Z = true := hw _ (List.mem_of_getElem? (i := 10) rfl)
theorem w_11 {Z : State} {a0 : Array Value} (hw : ∀ d ∈ tables_1, d.before a0 Z = true) : (Jvm.Cond.laysFinal "FuzzyLexicon" "FuzzyLexicon" "childSlot" "[I").before a0 Z = true := hw _ (List.mem_of_getElem? (i := 11) rfl)
theorem w_12 {Z : State} {a0 : Array Value} (hw : ∀ d ∈ tables_1, d.before a0 Z = true) : (Jvm.Cond.fieldLink "FuzzyLexicon" 13 "FuzzyLexicon" "nodeFreq" "[I").before a0 Z = true := hw _ (List.mem_of_getElem? (i := 12) rfl)
theorem w_13 {Z : State} {a0 : Array Value} (hw : ∀ d ∈ tables_1, d.before a0 Z = true) : (Jvm.Cond.laysFinal "FuzzyLexicon" "FuzzyLexicon" "nodeFreq" "[I").before a0 Z = true := hw _ (List.mem_of_getElem? (i := 13) rfl)
theorem w_14 {Z : State} {a0 : Array Value} (hw : ∀ d ∈ tables_1, d.before a0 Z = true) : (Jvm.Cond.fieldLink "FuzzyLexicon" 16 "FuzzyLexicon" "nodeParent" "[I").before a0 Z = true := hw _ (List.mem_of_getElem? (i := 14) rfl)
theorem w_15 {Z : State} {a0 : Array Value} (hw : ∀ d ∈ tables_1, d.before a0 Z = true) : (Jvm.Cond.laysFinal "FuzzyLexicon" "FuzzyLexicon" "nodeParent" "[I").before a0 Z = true := hw _ (List.mem_of_getElem? (i := 15) rfl)
theorem w_16 {Z : State} {a0 : Array Value} (hw : ∀ d ∈ tables_1, d.before a0 Z = true) : (Jvm.Cond.fieldLink "FuzzyLexicon" 19 "FuzzyLexicon" "nodeLetter" "[I").before a0 Z = true := hw _ (List.mem_of_getElem? (i := 16) rfl)
theorem w_17 {Z : State} {a0 : Array Value} (hw : ∀ d ∈ tables_1, d.before a0 Z = true) : (Jvm.Cond.laysFinal "FuzzyLexicon" "FuzzyLexicon" "nodeLetter" "[I").before a0 Z = true := hw _ (List.mem_of_getElem? (i := 17) rfl)
theorem w_18 {Z : State} {a0 : Array Value} (hw : ∀ d ∈ tables_1, d.before a0 Z = true) : (Jvm.Cond.fieldLink "FuzzyLexicon" 22 "FuzzyLexicon" "nodeDepth" "[I").before a0 Z = true := hw _ (List.mem_of_getElem? (i := 18) rfl)
theorem w_19 {Z : State} {a0 : Array Value} (hw : ∀ d ∈ tables_1, d.before a0 Z = true) : (Jvm.Cond.laysFinal "FuzzyLexicon" "FuzzyLexicon" "nodeDepth" "[I").before a0 Z = true := hw _ (List.mem_of_getElem? (i := 19) rfl)
theorem w_20 {Z : State} {a0 : Array Value} (hw : ∀ d ∈ tables_1, d.before a0 Z = true) : (Jvm.Cond.fieldLink "FuzzyLexicon" 25 "FuzzyLexicon" "pend" "[I").before a0 Z = true := hw _ (List.mem_of_getElem? (i := 20) rfl)
theorem w_21 {Z : State} {a0 : Array Value} (hw : ∀ d ∈ tables_1, d.before a0 Z = true) : (Jvm.Cond.laysFinal "FuzzyLexicon" "FuzzyLexicon" "pend" "[I").before a0 Z = true := hw _ (List.mem_of_getElem? (i := 21) rfl)
theorem w_22 {Z : State} {a0 : Array Value} (hw : ∀ d ∈ tables_1, d.before a0 Z = true) : (Jvm.Cond.fieldLink "FuzzyLexicon" 28 "FuzzyLexicon" "query" "[I").before a0 Z = true := hw _ (List.mem_of_getElem? (i := 22) rfl)
theorem w_23 {Z : State} {a0 : Array Value} (hw : ∀ d ∈ tables_1, d.before a0 Z = true) : (Jvm.Cond.laysFinal "FuzzyLexicon" "FuzzyLexicon" "query" "[I").before a0 Z = true := hw _ (List.mem_of_getElem? (i := 23) rfl)
theorem w_24 {Z : State} {a0 : Array Value} (hw : ∀ d ∈ tables_1, d.before a0 Z = true) : (Jvm.Cond.fieldLink "FuzzyLexicon" 31 "FuzzyLexicon" "rows" "[I").before a0 Z = true := hw _ (List.mem_of_getElem? (i := 24) rfl)
theorem w_25 {Z : State} {a0 : Array Value} (hw : ∀ d ∈ tables_1, d.before a0 Z = true) : (Jvm.Cond.laysFinal "FuzzyLexicon" "FuzzyLexicon" "rows" "[I").before a0 Z = true := hw _ (List.mem_of_getElem? (i := 25) rfl)
theorem w_26 {Z : State} {a0 : Array Value} (hw : ∀ d ∈ tables_1, d.before a0 Z = true) : (Jvm.Cond.fieldLink "FuzzyLexicon" 34 "FuzzyLexicon" "stackNode" "[I").before a0 Z = true := hw _ (List.mem_of_getElem? (i := 26) rfl)
theorem w_27 {Z : State} {a0 : Array Value} (hw : ∀ d ∈ tables_1, d.before a0 Z = true) : (Jvm.Cond.laysFinal "FuzzyLexicon" "FuzzyLexicon" "stackNode" "[I").before a0 Z = true := hw _ (List.mem_of_getElem? (i := 27) rfl)
theorem w_28 {Z : State} {a0 : Array Value} (hw : ∀ d ∈ tables_1, d.before a0 Z = true) : (Jvm.Cond.fieldLink "FuzzyLexicon" 37 "FuzzyLexicon" "stackNext" "[I").before a0 Z = true := hw _ (List.mem_of_getElem? (i := 28) rfl)
theorem w_29 {Z : State} {a0 : Array Value} (hw : ∀ d ∈ tables_1, d.before a0 Z = true) : (Jvm.Cond.laysFinal "FuzzyLexicon" "FuzzyLexicon" "stackNext" "[I").before a0 Z = true := hw _ (List.mem_of_getElem? (i := 29) rfl)
theorem w_30 {Z : State} {a0 : Array Value} (hw : ∀ d ∈ tables_1, d.before a0 Z = true) : (Jvm.Cond.fieldLink "FuzzyLexicon" 40 "FuzzyLexicon" "candNode" "[I").before a0 Z = true := hw _ (List.mem_of_getElem? (i := 30) rfl)
theorem w_31 {Z : State} {a0 : Array Value} (hw : ∀ d ∈ tables_1, d.before a0 Z = true) : (Jvm.Cond.laysFinal "FuzzyLexicon" "FuzzyLexicon" "candNode" "[I").before a0 Z = true := hw _ (List.mem_of_getElem? (i := 31) rfl)
theorem w_32 {Z : State} {a0 : Array Value} (hw : ∀ d ∈ tables_1, d.before a0 Z = true) : (Jvm.Cond.fieldLink "FuzzyLexicon" 43 "FuzzyLexicon" "candDist" "[I").before a0 Z = true := hw _ (List.mem_of_getElem? (i := 32) rfl)
theorem w_33 {Z : State} {a0 : Array Value} (hw : ∀ d ∈ tables_1, d.before a0 Z = true) : (Jvm.Cond.laysFinal "FuzzyLexicon" "FuzzyLexicon" "candDist" "[I").before a0 Z = true := hw _ (List.mem_of_getElem? (i := 33) rfl)
theorem w_34 {Z : State} {a0 : Array Value} (hw : ∀ d ∈ tables_1, d.before a0 Z = true) : (Jvm.Cond.fieldLink "FuzzyLexicon" 46 "FuzzyLexicon" "candFreq" "[I").before a0 Z = true := hw _ (List.mem_of_getElem? (i := 34) rfl)
theorem w_35 {Z : State} {a0 : Array Value} (hw : ∀ d ∈ tables_1, d.before a0 Z = true) : (Jvm.Cond.laysFinal "FuzzyLexicon" "FuzzyLexicon" "candFreq" "[I").before a0 Z = true := hw _ (List.mem_of_getElem? (i := 35) rfl)
theorem w_36 {Z : State} {a0 : Array Value} (hw : ∀ d ∈ tables_1, d.before a0 Z = true) : (Jvm.Cond.fieldLink "FuzzyLexicon" 49 "FuzzyLexicon" "resWord" "[I").before a0 Z = true := hw _ (List.mem_of_getElem? (i := 36) rfl)
theorem w_37 {Z : State} {a0 : Array Value} (hw : ∀ d ∈ tables_1, d.before a0 Z = true) : (Jvm.Cond.laysFinal "FuzzyLexicon" "FuzzyLexicon" "resWord" "[I").before a0 Z = true := hw _ (List.mem_of_getElem? (i := 37) rfl)
theorem w_38 {Z : State} {a0 : Array Value} (hw : ∀ d ∈ tables_1, d.before a0 Z = true) : (Jvm.Cond.fieldLink "FuzzyLexicon" 52 "FuzzyLexicon" "resLen" "[I").before a0 Z = true := hw _ (List.mem_of_getElem? (i := 38) rfl)
theorem w_39 {Z : State} {a0 : Array Value} (hw : ∀ d ∈ tables_1, d.before a0 Z = true) : (Jvm.Cond.laysFinal "FuzzyLexicon" "FuzzyLexicon" "resLen" "[I").before a0 Z = true := hw _ (List.mem_of_getElem? (i := 39) rfl)
theorem w_40 {Z : State} {a0 : Array Value} (hw : ∀ d ∈ tables_1, d.before a0 Z = true) : (Jvm.Cond.fieldLink "FuzzyLexicon" 55 "FuzzyLexicon" "resDist" "[I").before a0 Z = true := hw _ (List.mem_of_getElem? (i := 40) rfl)
theorem w_41 {Z : State} {a0 : Array Value} (hw : ∀ d ∈ tables_1, d.before a0 Z = true) : (Jvm.Cond.laysFinal "FuzzyLexicon" "FuzzyLexicon" "resDist" "[I").before a0 Z = true := hw _ (List.mem_of_getElem? (i := 41) rfl)
theorem w_42 {Z : State} {a0 : Array Value} (hw : ∀ d ∈ tables_1, d.before a0 Z = true) : (Jvm.Cond.fieldLink "FuzzyLexicon" 58 "FuzzyLexicon" "resFreq" "[I").before a0 Z = true := hw _ (List.mem_of_getElem? (i := 42) rfl)
theorem w_43 {Z : State} {a0 : Array Value} (hw : ∀ d ∈ tables_1, d.before a0 Z = true) : (Jvm.Cond.laysFinal "FuzzyLexicon" "FuzzyLexicon" "resFreq" "[I").before a0 Z = true := hw _ (List.mem_of_getElem? (i := 43) rfl)
theorem w_44 {Z : State} {a0 : Array Value} (hw : ∀ d ∈ tables_1, d.before a0 Z = true) : (Jvm.Cond.methodLink "FuzzyLexicon" 61 ({ cls := "FuzzyLexicon", name := "clamp", desc := "(III)I" } : Jvm.MethodName)).before a0 Z = true := hw _ (List.mem_of_getElem? (i := 44) rfl)
theorem w_45 {Z : State} {a0 : Array Value} (hw : ∀ d ∈ tables_1, d.before a0 Z = true) : (Jvm.Cond.instanceMethod ({ cls := "FuzzyLexicon", name := "clamp", desc := "(III)I" } : Jvm.MethodName)).before a0 Z = true := hw _ (List.mem_of_getElem? (i := 45) rfl)
theorem w_46 {Z : State} {a0 : Array Value} (hw : ∀ d ∈ tables_1, d.before a0 Z = true) : (Jvm.Cond.privateMethod ({ cls := "FuzzyLexicon", name := "clamp", desc := "(III)I" } : Jvm.MethodName)).before a0 Z = true := hw _ (List.mem_of_getElem? (i := 46) rfl)
theorem w_47 {Z : State} {a0 : Array Value} (hw : ∀ d ∈ tables_1, d.before a0 Z = true) : (Jvm.Cond.code ({ cls := "FuzzyLexicon", name := "clamp", desc := "(III)I" } : Jvm.MethodName) prog_1_method_19_code 4 (Option.some Jvm.ClassFile.FieldType.int)).before a0 Z = true := hw _ (List.mem_of_getElem? (i := 47) rfl)
theorem w_48 {Z : State} {a0 : Array Value} (hw : ∀ d ∈ tables_1, d.before a0 Z = true) : (Jvm.Cond.fieldLink "FuzzyLexicon" 65 "FuzzyLexicon" "cap" "I").before a0 Z = true := hw _ (List.mem_of_getElem? (i := 48) rfl)
theorem w_49 {Z : State} {a0 : Array Value} (hw : ∀ d ∈ tables_1, d.before a0 Z = true) : (Jvm.Cond.lays "FuzzyLexicon" "FuzzyLexicon" "cap" "I").before a0 Z = true := hw _ (List.mem_of_getElem? (i := 49) rfl)
theorem w_50 {Z : State} {a0 : Array Value} (hw : ∀ d ∈ tables_1, d.before a0 Z = true) : (Jvm.Cond.fieldLink "FuzzyLexicon" 69 "FuzzyLexicon" "words" "I").before a0 Z = true := hw _ (List.mem_of_getElem? (i := 50) rfl)
theorem w_51 {Z : State} {a0 : Array Value} (hw : ∀ d ∈ tables_1, d.before a0 Z = true) : (Jvm.Cond.lays "FuzzyLexicon" "FuzzyLexicon" "words" "I").before a0 Z = true := hw _ (List.mem_of_getElem? (i := 51) rfl)
theorem w_52 {Z : State} {a0 : Array Value} (hw : ∀ d ∈ tables_1, d.before a0 Z = true) : (Jvm.Cond.fieldLink "FuzzyLexicon" 72 "FuzzyLexicon" "nodeCount" "I").before a0 Z = true := hw _ (List.mem_of_getElem? (i := 52) rfl)
theorem w_53 {Z : State} {a0 : Array Value} (hw : ∀ d ∈ tables_1, d.before a0 Z = true) : (Jvm.Cond.lays "FuzzyLexicon" "FuzzyLexicon" "nodeCount" "I").before a0 Z = true := hw _ (List.mem_of_getElem? (i := 53) rfl)
theorem w_54 {Z : State} {a0 : Array Value} (hw : ∀ d ∈ tables_1, d.before a0 Z = true) : (Jvm.Cond.fieldLink "FuzzyLexicon" 75 "FuzzyLexicon" "pendLen" "I").before a0 Z = true := hw _ (List.mem_of_getElem? (i := 54) rfl)
theorem w_55 {Z : State} {a0 : Array Value} (hw : ∀ d ∈ tables_1, d.before a0 Z = true) : (Jvm.Cond.lays "FuzzyLexicon" "FuzzyLexicon" "pendLen" "I").before a0 Z = true := hw _ (List.mem_of_getElem? (i := 55) rfl)
theorem w_56 {Z : State} {a0 : Array Value} (hw : ∀ d ∈ tables_1, d.before a0 Z = true) : (Jvm.Cond.fieldLink "FuzzyLexicon" 78 "FuzzyLexicon" "queryLen" "I").before a0 Z = true := hw _ (List.mem_of_getElem? (i := 56) rfl)
theorem w_57 {Z : State} {a0 : Array Value} (hw : ∀ d ∈ tables_1, d.before a0 Z = true) : (Jvm.Cond.lays "FuzzyLexicon" "FuzzyLexicon" "queryLen" "I").before a0 Z = true := hw _ (List.mem_of_getElem? (i := 57) rfl)
theorem w_58 {Z : State} {a0 : Array Value} (hw : ∀ d ∈ tables_1, d.before a0 Z = true) : (Jvm.Cond.fieldLink "FuzzyLexicon" 81 "FuzzyLexicon" "resCount" "I").before a0 Z = true := hw _ (List.mem_of_getElem? (i := 58) rfl)
theorem w_59 {Z : State} {a0 : Array Value} (hw : ∀ d ∈ tables_1, d.before a0 Z = true) : (Jvm.Cond.lays "FuzzyLexicon" "FuzzyLexicon" "resCount" "I").before a0 Z = true := hw _ (List.mem_of_getElem? (i := 59) rfl)
theorem w_60 {Z : State} {a0 : Array Value} (hw : ∀ d ∈ tables_1, d.before a0 Z = true) : (Jvm.Cond.fieldLink "FuzzyLexicon" 84 "FuzzyLexicon" "candCount" "I").before a0 Z = true := hw _ (List.mem_of_getElem? (i := 60) rfl)
theorem w_61 {Z : State} {a0 : Array Value} (hw : ∀ d ∈ tables_1, d.before a0 Z = true) : (Jvm.Cond.lays "FuzzyLexicon" "FuzzyLexicon" "candCount" "I").before a0 Z = true := hw _ (List.mem_of_getElem? (i := 61) rfl)
theorem w_62 {Z : State} {a0 : Array Value} (hw : ∀ d ∈ tables_1, d.before a0 Z = true) : (Jvm.Cond.fieldLink "FuzzyLexicon" 87 "FuzzyLexicon" "searchK" "I").before a0 Z = true := hw _ (List.mem_of_getElem? (i := 62) rfl)
theorem w_63 {Z : State} {a0 : Array Value} (hw : ∀ d ∈ tables_1, d.before a0 Z = true) : (Jvm.Cond.lays "FuzzyLexicon" "FuzzyLexicon" "searchK" "I").before a0 Z = true := hw _ (List.mem_of_getElem? (i := 63) rfl)
theorem w_64 {Z : State} {a0 : Array Value} (hw : ∀ d ∈ tables_1, d.before a0 Z = true) : (Jvm.Cond.constant "FuzzyLexiconL2" 12 1000000).before a0 Z = true := hw _ (List.mem_of_getElem? (i := 64) rfl)
theorem w_65 {Z : State} {a0 : Array Value} (hw : ∀ d ∈ tables_1, d.before a0 Z = true) : (Jvm.Cond.methodLink "FuzzyLexiconL2" 13 ({ cls := "FuzzyLexicon", name := "pendChar", desc := "(I)Z" } : Jvm.MethodName)).before a0 Z = true := hw _ (List.mem_of_getElem? (i := 65) rfl)
theorem w_66 {Z : State} {a0 : Array Value} (hw : ∀ d ∈ tables_1, d.before a0 Z = true) : (Jvm.Cond.declares ({ cls := "FuzzyLexicon", name := "pendChar", desc := "(I)Z" } : Jvm.MethodName)).before a0 Z = true := hw _ (List.mem_of_getElem? (i := 66) rfl)
theorem w_67 {Z : State} {a0 : Array Value} (hw : ∀ d ∈ tables_1, d.before a0 Z = true) : (Jvm.Cond.instanceMethod ({ cls := "FuzzyLexicon", name := "pendChar", desc := "(I)Z" } : Jvm.MethodName)).before a0 Z = true := hw _ (List.mem_of_getElem? (i := 67) rfl)
theorem w_68 {Z : State} {a0 : Array Value} (hw : ∀ d ∈ tables_1, d.before a0 Z = true) : (Jvm.Cond.selects "FuzzyLexicon" ({ cls := "FuzzyLexicon", name := "pendChar", desc := "(I)Z" } : Jvm.MethodName) ({ cls := "FuzzyLexicon", name := "pendChar", desc := "(I)Z" } : Jvm.MethodName)).before a0 Z = true := hw _ (List.mem_of_getElem? (i := 68) rfl)
theorem w_69 {Z : State} {a0 : Array Value} (hw : ∀ d ∈ tables_1, d.before a0 Z = true) : (Jvm.Cond.code ({ cls := "FuzzyLexicon", name := "pendChar", desc := "(I)Z" } : Jvm.MethodName) prog_1_method_3_code 2 (Option.some Jvm.ClassFile.FieldType.boolean)).before a0 Z = true := hw _ (List.mem_of_getElem? (i := 69) rfl)
theorem w_70 {Z : State} {a0 : Array Value} (hw : ∀ d ∈ tables_1, d.before a0 Z = true) : (Jvm.Cond.methodLink "FuzzyLexicon" 90 ({ cls := "FuzzyLexicon", name := "isLetter", desc := "(I)Z" } : Jvm.MethodName)).before a0 Z = true := hw _ (List.mem_of_getElem? (i := 70) rfl)
theorem w_71 {Z : State} {a0 : Array Value} (hw : ∀ d ∈ tables_1, d.before a0 Z = true) : (Jvm.Cond.instanceMethod ({ cls := "FuzzyLexicon", name := "isLetter", desc := "(I)Z" } : Jvm.MethodName)).before a0 Z = true := hw _ (List.mem_of_getElem? (i := 71) rfl)
theorem w_72 {Z : State} {a0 : Array Value} (hw : ∀ d ∈ tables_1, d.before a0 Z = true) : (Jvm.Cond.privateMethod ({ cls := "FuzzyLexicon", name := "isLetter", desc := "(I)Z" } : Jvm.MethodName)).before a0 Z = true := hw _ (List.mem_of_getElem? (i := 72) rfl)
theorem w_73 {Z : State} {a0 : Array Value} (hw : ∀ d ∈ tables_1, d.before a0 Z = true) : (Jvm.Cond.code ({ cls := "FuzzyLexicon", name := "isLetter", desc := "(I)Z" } : Jvm.MethodName) prog_1_method_18_code 2 (Option.some Jvm.ClassFile.FieldType.boolean)).before a0 Z = true := hw _ (List.mem_of_getElem? (i := 73) rfl)
theorem w_74 {Z : State} {a0 : Array Value} (hw : ∀ d ∈ tables_1, d.before a0 Z = true) : (Jvm.Cond.methodLink "FuzzyLexiconL2" 17 ({ cls := "FuzzyLexicon", name := "commit", desc := "(I)I" } : Jvm.MethodName)).before a0 Z = true := hw _ (List.mem_of_getElem? (i := 74) rfl)
theorem w_75 {Z : State} {a0 : Array Value} (hw : ∀ d ∈ tables_1, d.before a0 Z = true) : (Jvm.Cond.declares ({ cls := "FuzzyLexicon", name := "commit", desc := "(I)I" } : Jvm.MethodName)).before a0 Z = true := hw _ (List.mem_of_getElem? (i := 75) rfl)
theorem w_76 {Z : State} {a0 : Array Value} (hw : ∀ d ∈ tables_1, d.before a0 Z = true) : (Jvm.Cond.instanceMethod ({ cls := "FuzzyLexicon", name := "commit", desc := "(I)I" } : Jvm.MethodName)).before a0 Z = true := hw _ (List.mem_of_getElem? (i := 76) rfl)
theorem w_77 {Z : State} {a0 : Array Value} (hw : ∀ d ∈ tables_1, d.before a0 Z = true) : (Jvm.Cond.selects "FuzzyLexicon" ({ cls := "FuzzyLexicon", name := "commit", desc := "(I)I" } : Jvm.MethodName) ({ cls := "FuzzyLexicon", name := "commit", desc := "(I)I" } : Jvm.MethodName)).before a0 Z = true := hw _ (List.mem_of_getElem? (i := 77) rfl)
theorem w_78 {Z : State} {a0 : Array Value} (hw : ∀ d ∈ tables_1, d.before a0 Z = true) : (Jvm.Cond.code ({ cls := "FuzzyLexicon", name := "commit", desc := "(I)I" } : Jvm.MethodName) prog_1_method_6_code 3 (Option.some Jvm.ClassFile.FieldType.int)).before a0 Z = true := hw _ (List.mem_of_getElem? (i := 78) rfl)
theorem w_79 {Z : State} {a0 : Array Value} (hw : ∀ d ∈ tables_1, d.before a0 Z = true) : (Jvm.Cond.methodLink "FuzzyLexiconL2" 21 ({ cls := "FuzzyLexicon", name := "pendClear", desc := "()V" } : Jvm.MethodName)).before a0 Z = true := hw _ (List.mem_of_getElem? (i := 79) rfl)
theorem w_80 {Z : State} {a0 : Array Value} (hw : ∀ d ∈ tables_1, d.before a0 Z = true) : (Jvm.Cond.declares ({ cls := "FuzzyLexicon", name := "pendClear", desc := "()V" } : Jvm.MethodName)).before a0 Z = true := hw _ (List.mem_of_getElem? (i := 80) rfl)
theorem w_81 {Z : State} {a0 : Array Value} (hw : ∀ d ∈ tables_1, d.before a0 Z = true) : (Jvm.Cond.instanceMethod ({ cls := "FuzzyLexicon", name := "pendClear", desc := "()V" } : Jvm.MethodName)).before a0 Z = true := hw _ (List.mem_of_getElem? (i := 81) rfl)
theorem w_82 {Z : State} {a0 : Array Value} (hw : ∀ d ∈ tables_1, d.before a0 Z = true) : (Jvm.Cond.selects "FuzzyLexicon" ({ cls := "FuzzyLexicon", name := "pendClear", desc := "()V" } : Jvm.MethodName) ({ cls := "FuzzyLexicon", name := "pendClear", desc := "()V" } : Jvm.MethodName)).before a0 Z = true := hw _ (List.mem_of_getElem? (i := 82) rfl)
theorem w_83 {Z : State} {a0 : Array Value} (hw : ∀ d ∈ tables_1, d.before a0 Z = true) : (Jvm.Cond.code ({ cls := "FuzzyLexicon", name := "pendClear", desc := "()V" } : Jvm.MethodName) prog_1_method_4_code 1 (Option.none : Option Jvm.ClassFile.FieldType)).before a0 Z = true := hw _ (List.mem_of_getElem? (i := 83) rfl)
theorem w_84 {Z : State} {a0 : Array Value} (hw : ∀ d ∈ tables_1, d.before a0 Z = true) : (Jvm.Cond.methodLink "FuzzyLexiconL2" 24 ({ cls := "FuzzyLexicon", name := "wordCount", desc := "()I" } : Jvm.MethodName)).before a0 Z = true := hw _ (List.mem_of_getElem? (i := 84) rfl)
theorem w_85 {Z : State} {a0 : Array Value} (hw : ∀ d ∈ tables_1, d.before a0 Z = true) : (Jvm.Cond.declares ({ cls := "FuzzyLexicon", name := "wordCount", desc := "()I" } : Jvm.MethodName)).before a0 Z = true := hw _ (List.mem_of_getElem? (i := 85) rfl)
theorem w_86 {Z : State} {a0 : Array Value} (hw : ∀ d ∈ tables_1, d.before a0 Z = true) : (Jvm.Cond.instanceMethod ({ cls := "FuzzyLexicon", name := "wordCount", desc := "()I" } : Jvm.MethodName)).before a0 Z = true := hw _ (List.mem_of_getElem? (i := 86) rfl)
theorem w_87 {Z : State} {a0 : Array Value} (hw : ∀ d ∈ tables_1, d.before a0 Z = true) : (Jvm.Cond.selects "FuzzyLexicon" ({ cls := "FuzzyLexicon", name := "wordCount", desc := "()I" } : Jvm.MethodName) ({ cls := "FuzzyLexicon", name := "wordCount", desc := "()I" } : Jvm.MethodName)).before a0 Z = true := hw _ (List.mem_of_getElem? (i := 87) rfl)
theorem w_88 {Z : State} {a0 : Array Value} (hw : ∀ d ∈ tables_1, d.before a0 Z = true) : (Jvm.Cond.code ({ cls := "FuzzyLexicon", name := "wordCount", desc := "()I" } : Jvm.MethodName) prog_1_method_8_code 1 (Option.some Jvm.ClassFile.FieldType.int)).before a0 Z = true := hw _ (List.mem_of_getElem? (i := 88) rfl)
theorem w_89 {Z : State} {a0 : Array Value} (hw : ∀ d ∈ tables_1, d.before a0 Z = true) : (Jvm.Cond.methodLink "FuzzyLexiconL2" 28 ({ cls := "FuzzyLexicon", name := "pendingLength", desc := "()I" } : Jvm.MethodName)).before a0 Z = true := hw _ (List.mem_of_getElem? (i := 89) rfl)
theorem w_90 {Z : State} {a0 : Array Value} (hw : ∀ d ∈ tables_1, d.before a0 Z = true) : (Jvm.Cond.declares ({ cls := "FuzzyLexicon", name := "pendingLength", desc := "()I" } : Jvm.MethodName)).before a0 Z = true := hw _ (List.mem_of_getElem? (i := 90) rfl)
theorem w_91 {Z : State} {a0 : Array Value} (hw : ∀ d ∈ tables_1, d.before a0 Z = true) : (Jvm.Cond.instanceMethod ({ cls := "FuzzyLexicon", name := "pendingLength", desc := "()I" } : Jvm.MethodName)).before a0 Z = true := hw _ (List.mem_of_getElem? (i := 91) rfl)
theorem w_92 {Z : State} {a0 : Array Value} (hw : ∀ d ∈ tables_1, d.before a0 Z = true) : (Jvm.Cond.selects "FuzzyLexicon" ({ cls := "FuzzyLexicon", name := "pendingLength", desc := "()I" } : Jvm.MethodName) ({ cls := "FuzzyLexicon", name := "pendingLength", desc := "()I" } : Jvm.MethodName)).before a0 Z = true := hw _ (List.mem_of_getElem? (i := 92) rfl)
theorem w_93 {Z : State} {a0 : Array Value} (hw : ∀ d ∈ tables_1, d.before a0 Z = true) : (Jvm.Cond.code ({ cls := "FuzzyLexicon", name := "pendingLength", desc := "()I" } : Jvm.MethodName) prog_1_method_5_code 1 (Option.some Jvm.ClassFile.FieldType.int)).before a0 Z = true := hw _ (List.mem_of_getElem? (i := 93) rfl)
theorem w_94 {Z : State} {a0 : Array Value} (hw : ∀ d ∈ tables_1, d.before a0 Z = true) : (Jvm.Cond.methodLink "FuzzyLexiconL2" 31 ({ cls := "FuzzyLexicon", name := "pendFreq", desc := "()I" } : Jvm.MethodName)).before a0 Z = true := hw _ (List.mem_of_getElem? (i := 94) rfl)
theorem w_95 {Z : State} {a0 : Array Value} (hw : ∀ d ∈ tables_1, d.before a0 Z = true) : (Jvm.Cond.declares ({ cls := "FuzzyLexicon", name := "pendFreq", desc := "()I" } : Jvm.MethodName)).before a0 Z = true := hw _ (List.mem_of_getElem? (i := 95) rfl)
theorem w_96 {Z : State} {a0 : Array Value} (hw : ∀ d ∈ tables_1, d.before a0 Z = true) : (Jvm.Cond.instanceMethod ({ cls := "FuzzyLexicon", name := "pendFreq", desc := "()I" } : Jvm.MethodName)).before a0 Z = true := hw _ (List.mem_of_getElem? (i := 96) rfl)
theorem w_97 {Z : State} {a0 : Array Value} (hw : ∀ d ∈ tables_1, d.before a0 Z = true) : (Jvm.Cond.selects "FuzzyLexicon" ({ cls := "FuzzyLexicon", name := "pendFreq", desc := "()I" } : Jvm.MethodName) ({ cls := "FuzzyLexicon", name := "pendFreq", desc := "()I" } : Jvm.MethodName)).before a0 Z = true := hw _ (List.mem_of_getElem? (i := 97) rfl)
theorem w_98 {Z : State} {a0 : Array Value} (hw : ∀ d ∈ tables_1, d.before a0 Z = true) : (Jvm.Cond.code ({ cls := "FuzzyLexicon", name := "pendFreq", desc := "()I" } : Jvm.MethodName) prog_1_method_7_code 2 (Option.some Jvm.ClassFile.FieldType.int)).before a0 Z = true := hw _ (List.mem_of_getElem? (i := 98) rfl)
theorem w_99 {Z : State} {a0 : Array Value} (hw : ∀ d ∈ tables_1, d.before a0 Z = true) : (Jvm.Cond.constant "FuzzyLexicon" 94 1000000).before a0 Z = true := hw _ (List.mem_of_getElem? (i := 99) rfl)
theorem w_100 {Z : State} {a0 : Array Value} (hw : ∀ d ∈ tables_1, d.before a0 Z = true) : (Jvm.Cond.methodLink "FuzzyLexicon" 95 ({ cls := "FuzzyLexicon", name := "findPending", desc := "()I" } : Jvm.MethodName)).before a0 Z = true := hw _ (List.mem_of_getElem? (i := 100) rfl)
theorem w_101 {Z : State} {a0 : Array Value} (hw : ∀ d ∈ tables_1, d.before a0 Z = true) : (Jvm.Cond.instanceMethod ({ cls := "FuzzyLexicon", name := "findPending", desc := "()I" } : Jvm.MethodName)).before a0 Z = true := hw _ (List.mem_of_getElem? (i := 101) rfl)
theorem w_102 {Z : State} {a0 : Array Value} (hw : ∀ d ∈ tables_1, d.before a0 Z = true) : (Jvm.Cond.privateMethod ({ cls := "FuzzyLexicon", name := "findPending", desc := "()I" } : Jvm.MethodName)).before a0 Z = true := hw _ (List.mem_of_getElem? (i := 102) rfl)
theorem w_103 {Z : State} {a0 : Array Value} (hw : ∀ d ∈ tables_1, d.before a0 Z = true) : (Jvm.Cond.code ({ cls := "FuzzyLexicon", name := "findPending", desc := "()I" } : Jvm.MethodName) prog_1_method_27_code 4 (Option.some Jvm.ClassFile.FieldType.int)).before a0 Z = true := hw _ (List.mem_of_getElem? (i := 103) rfl)
theorem w_104 {Z : State} {a0 : Array Value} (hw : ∀ d ∈ tables_1, d.before a0 Z = true) : (Jvm.Cond.methodLink "FuzzyLexicon" 119 ({ cls := "FuzzyLexicon", name := "childAt", desc := "(II)I" } : Jvm.MethodName)).before a0 Z = true := hw _ (List.mem_of_getElem? (i := 104) rfl)
theorem w_105 {Z : State} {a0 : Array Value} (hw : ∀ d ∈ tables_1, d.before a0 Z = true) : (Jvm.Cond.instanceMethod ({ cls := "FuzzyLexicon", name := "childAt", desc := "(II)I" } : Jvm.MethodName)).before a0 Z = true := hw _ (List.mem_of_getElem? (i := 105) rfl)
theorem w_106 {Z : State} {a0 : Array Value} (hw : ∀ d ∈ tables_1, d.before a0 Z = true) : (Jvm.Cond.privateMethod ({ cls := "FuzzyLexicon", name := "childAt", desc := "(II)I" } : Jvm.MethodName)).before a0 Z = true := hw _ (List.mem_of_getElem? (i := 106) rfl)
theorem w_107 {Z : State} {a0 : Array Value} (hw : ∀ d ∈ tables_1, d.before a0 Z = true) : (Jvm.Cond.code ({ cls := "FuzzyLexicon", name := "childAt", desc := "(II)I" } : Jvm.MethodName) prog_1_method_23_code 3 (Option.some Jvm.ClassFile.FieldType.int)).before a0 Z = true := hw _ (List.mem_of_getElem? (i := 107) rfl)
theorem w_108 {Z : State} {a0 : Array Value} (hw : ∀ d ∈ tables_1, d.before a0 Z = true) : (Jvm.Cond.methodLink "FuzzyLexicon" 103 ({ cls := "FuzzyLexicon", name := "hasRoom", desc := "(I)Z" } : Jvm.MethodName)).before a0 Z = true := hw _ (List.mem_of_getElem? (i := 108) rfl)
theorem w_109 {Z : State} {a0 : Array Value} (hw : ∀ d ∈ tables_1, d.before a0 Z = true) : (Jvm.Cond.instanceMethod ({ cls := "FuzzyLexicon", name := "hasRoom", desc := "(I)Z" } : Jvm.MethodName)).before a0 Z = true := hw _ (List.mem_of_getElem? (i := 109) rfl)
theorem w_110 {Z : State} {a0 : Array Value} (hw : ∀ d ∈ tables_1, d.before a0 Z = true) : (Jvm.Cond.privateMethod ({ cls := "FuzzyLexicon", name := "hasRoom", desc := "(I)Z" } : Jvm.MethodName)).before a0 Z = true := hw _ (List.mem_of_getElem? (i := 110) rfl)
theorem w_111 {Z : State} {a0 : Array Value} (hw : ∀ d ∈ tables_1, d.before a0 Z = true) : (Jvm.Cond.code ({ cls := "FuzzyLexicon", name := "hasRoom", desc := "(I)Z" } : Jvm.MethodName) prog_1_method_25_code 2 (Option.some Jvm.ClassFile.FieldType.boolean)).before a0 Z = true := hw _ (List.mem_of_getElem? (i := 111) rfl)
theorem w_112 {Z : State} {a0 : Array Value} (hw : ∀ d ∈ tables_1, d.before a0 Z = true) : (Jvm.Cond.methodLink "FuzzyLexicon" 106 ({ cls := "FuzzyLexicon", name := "insertPending", desc := "()I" } : Jvm.MethodName)).before a0 Z = true := hw _ (List.mem_of_getElem? (i := 112) rfl)
theorem w_113 {Z : State} {a0 : Array Value} (hw : ∀ d ∈ tables_1, d.before a0 Z = true) : (Jvm.Cond.instanceMethod ({ cls := "FuzzyLexicon", name := "insertPending", desc := "()I" } : Jvm.MethodName)).before a0 Z = true := hw _ (List.mem_of_getElem? (i := 113) rfl)
theorem w_114 {Z : State} {a0 : Array Value} (hw : ∀ d ∈ tables_1, d.before a0 Z = true) : (Jvm.Cond.privateMethod ({ cls := "FuzzyLexicon", name := "insertPending", desc := "()I" } : Jvm.MethodName)).before a0 Z = true := hw _ (List.mem_of_getElem? (i := 114) rfl)
theorem w_115 {Z : State} {a0 : Array Value} (hw : ∀ d ∈ tables_1, d.before a0 Z = true) : (Jvm.Cond.code ({ cls := "FuzzyLexicon", name := "insertPending", desc := "()I" } : Jvm.MethodName) prog_1_method_28_code 5 (Option.some Jvm.ClassFile.FieldType.int)).before a0 Z = true := hw _ (List.mem_of_getElem? (i := 115) rfl)
theorem w_116 {Z : State} {a0 : Array Value} (hw : ∀ d ∈ tables_1, d.before a0 Z = true) : (Jvm.Cond.methodLink "FuzzyLexicon" 122 ({ cls := "FuzzyLexicon", name := "newNode", desc := "(III)I" } : Jvm.MethodName)).before a0 Z = true := hw _ (List.mem_of_getElem? (i := 116) rfl)
theorem w_117 {Z : State} {a0 : Array Value} (hw : ∀ d ∈ tables_1, d.before a0 Z = true) : (Jvm.Cond.instanceMethod ({ cls := "FuzzyLexicon", name := "newNode", desc := "(III)I" } : Jvm.MethodName)).before a0 Z = true := hw _ (List.mem_of_getElem? (i := 117) rfl)
theorem w_118 {Z : State} {a0 : Array Value} (hw : ∀ d ∈ tables_1, d.before a0 Z = true) : (Jvm.Cond.privateMethod ({ cls := "FuzzyLexicon", name := "newNode", desc := "(III)I" } : Jvm.MethodName)).before a0 Z = true := hw _ (List.mem_of_getElem? (i := 118) rfl)
theorem w_119 {Z : State} {a0 : Array Value} (hw : ∀ d ∈ tables_1, d.before a0 Z = true) : (Jvm.Cond.code ({ cls := "FuzzyLexicon", name := "newNode", desc := "(III)I" } : Jvm.MethodName) prog_1_method_26_code 5 (Option.some Jvm.ClassFile.FieldType.int)).before a0 Z = true := hw _ (List.mem_of_getElem? (i := 119) rfl)
theorem w_120 {Z : State} {a0 : Array Value} (hw : ∀ d ∈ tables_1, d.before a0 Z = true) : (Jvm.Cond.methodLink "FuzzyLexicon" 125 ({ cls := "FuzzyLexicon", name := "setChild", desc := "(III)V" } : Jvm.MethodName)).before a0 Z = true := hw _ (List.mem_of_getElem? (i := 120) rfl)
theorem w_121 {Z : State} {a0 : Array Value} (hw : ∀ d ∈ tables_1, d.before a0 Z = true) : (Jvm.Cond.instanceMethod ({ cls := "FuzzyLexicon", name := "setChild", desc := "(III)V" } : Jvm.MethodName)).before a0 Z = true := hw _ (List.mem_of_getElem? (i := 121) rfl)
theorem w_122 {Z : State} {a0 : Array Value} (hw : ∀ d ∈ tables_1, d.before a0 Z = true) : (Jvm.Cond.privateMethod ({ cls := "FuzzyLexicon", name := "setChild", desc := "(III)V" } : Jvm.MethodName)).before a0 Z = true := hw _ (List.mem_of_getElem? (i := 122) rfl)
theorem w_123 {Z : State} {a0 : Array Value} (hw : ∀ d ∈ tables_1, d.before a0 Z = true) : (Jvm.Cond.code ({ cls := "FuzzyLexicon", name := "setChild", desc := "(III)V" } : Jvm.MethodName) prog_1_method_24_code 4 (Option.none : Option Jvm.ClassFile.FieldType)).before a0 Z = true := hw _ (List.mem_of_getElem? (i := 123) rfl)
theorem w_124 {Z : State} {a0 : Array Value} (hw : ∀ d ∈ tables_1, d.before a0 Z = true) : (Jvm.Cond.methodLink "FuzzyLexicon" 99 ({ cls := "FuzzyLexicon", name := "addFreq", desc := "(II)I" } : Jvm.MethodName)).before a0 Z = true := hw _ (List.mem_of_getElem? (i := 124) rfl)
theorem w_125 {Z : State} {a0 : Array Value} (hw : ∀ d ∈ tables_1, d.before a0 Z = true) : (Jvm.Cond.instanceMethod ({ cls := "FuzzyLexicon", name := "addFreq", desc := "(II)I" } : Jvm.MethodName)).before a0 Z = true := hw _ (List.mem_of_getElem? (i := 125) rfl)
theorem w_126 {Z : State} {a0 : Array Value} (hw : ∀ d ∈ tables_1, d.before a0 Z = true) : (Jvm.Cond.privateMethod ({ cls := "FuzzyLexicon", name := "addFreq", desc := "(II)I" } : Jvm.MethodName)).before a0 Z = true := hw _ (List.mem_of_getElem? (i := 126) rfl)
theorem w_127 {Z : State} {a0 : Array Value} (hw : ∀ d ∈ tables_1, d.before a0 Z = true) : (Jvm.Cond.code ({ cls := "FuzzyLexicon", name := "addFreq", desc := "(II)I" } : Jvm.MethodName) prog_1_method_21_code 4 (Option.some Jvm.ClassFile.FieldType.int)).before a0 Z = true := hw _ (List.mem_of_getElem? (i := 127) rfl)
theorem cw_ok {Z : State} {a0 : Array Value} (hw : ∀ d ∈ tables_1, d.before a0 Z = true) : CW Z a0 D := CW.of
  (fcons ⟨Or.inl (w_49 hw), (by decide +kernel), (by simp [pt])⟩ (fcons ⟨Or.inl (w_51 hw), (by decide +kernel), (by simp [pt])⟩ (fcons ⟨Or.inl (w_53 hw), (by decide +kernel), (by simp [pt])⟩ (fcons ⟨Or.inl (w_55 hw), (by decide +kernel), (by simp [pt])⟩ (fcons ⟨Or.inl (w_57 hw), (by decide +kernel), (by simp [pt])⟩ (fcons ⟨Or.inl (w_61 hw), (by decide +kernel), (by simp [pt])⟩ (fcons ⟨Or.inl (w_63 hw), (by decide +kernel), (by simp [pt])⟩ (fcons ⟨Or.inl (w_59 hw), (by decide +kernel), (by simp [pt])⟩ fnil))))))))
  (fcons ⟨Or.inr (w_11 hw), (by decide +kernel), (by simp [pt]), (by decide)⟩ (fcons ⟨Or.inr (w_13 hw), (by decide +kernel), (by simp [pt]), (by decide)⟩ (fcons ⟨Or.inr (w_15 hw), (by decide +kernel), (by simp [pt]), (by decide)⟩ (fcons ⟨Or.inr (w_17 hw), (by decide +kernel), (by simp [pt]), (by decide)⟩ (fcons ⟨Or.inr (w_19 hw), (by decide +kernel), (by simp [pt]), (by decide)⟩ (fcons ⟨Or.inr (w_21 hw), (by decide +kernel), (by simp [pt]), (by decide)⟩ (fcons ⟨Or.inr (w_23 hw), (by decide +kernel), (by simp [pt]), (by decide)⟩ (fcons ⟨Or.inr (w_25 hw), (by decide +kernel), (by simp [pt]), (by decide)⟩ (fcons ⟨Or.inr (w_27 hw), (by decide +kernel), (by simp [pt]), (by decide)⟩ (fcons ⟨Or.inr (w_29 hw), (by decide +kernel), (by simp [pt]), (by decide)⟩ (fcons ⟨Or.inr (w_31 hw), (by decide +kernel), (by simp [pt]), (by decide)⟩ (fcons ⟨Or.inr (w_33 hw), (by decide +kernel), (by simp [pt]), (by decide)⟩ (fcons ⟨Or.inr (w_35 hw), (by decide +kernel), (by simp [pt]), (by decide)⟩ (fcons ⟨Or.inr (w_37 hw), (by decide +kernel), (by simp [pt]), (by decide)⟩ (fcons ⟨Or.inr (w_39 hw), (by decide +kernel), (by simp [pt]), (by decide)⟩ (fcons ⟨Or.inr (w_41 hw), (by decide +kernel), (by simp [pt]), (by decide)⟩ (fcons ⟨Or.inr (w_43 hw), (by decide +kernel), (by simp [pt]), (by decide)⟩ fnil)))))))))))))))))
  (by decide +kernel) (by decide +kernel) (by decide +kernel)
theorem pn_cls : plainName "FuzzyLexicon" = true := by first | (simp [plainName, overriddenIn]; done) | decide +kernel
theorem pn_law : plainName "FuzzyLexiconL2" = true := by first | (simp [plainName, overriddenIn]; done) | decide +kernel
def QL (r : Int) (w : Option V) (_ : Heap) : Prop := w = some (vI r)
theorem d_k_clamp_0 : decode prog_1_method_19_code 0 = .ok (.iload_n 1, 1) := by decide +kernel
theorem d_k_clamp_1 : decode prog_1_method_19_code 1 = .ok (.iload_n 2, 1) := by decide +kernel
theorem d_k_clamp_2 : decode prog_1_method_19_code 2 = .ok (.if_icmp .ge 5, 3) := by decide +kernel
theorem d_k_clamp_5 : decode prog_1_method_19_code 5 = .ok (.iload_n 2, 1) := by decide +kernel
theorem d_k_clamp_6 : decode prog_1_method_19_code 6 = .ok (.ireturn, 1) := by decide +kernel
theorem d_k_clamp_7 : decode prog_1_method_19_code 7 = .ok (.iload_n 1, 1) := by decide +kernel
theorem d_k_clamp_8 : decode prog_1_method_19_code 8 = .ok (.iload_n 3, 1) := by decide +kernel
theorem d_k_clamp_9 : decode prog_1_method_19_code 9 = .ok (.if_icmp .le 5, 3) := by decide +kernel
theorem d_k_clamp_14 : decode prog_1_method_19_code 14 = .ok (.iload_n 1, 1) := by decide +kernel
theorem d_k_clamp_15 : decode prog_1_method_19_code 15 = .ok (.ireturn, 1) := by decide +kernel
theorem d_k_clamp_12 : decode prog_1_method_19_code 12 = .ok (.iload_n 3, 1) := by decide +kernel
theorem d_k_clamp_13 : decode prog_1_method_19_code 13 = .ok (.ireturn, 1) := by decide +kernel
def R_k_clamp : Room := { frames := 0, cells := 0, slots := 0, locals := 0 }
abbrev G_k_clamp (l : Launch) (Z : State) (n0 : Nat) (P : Heap → Prop) := Go l Z D n0 P (⟨"FuzzyLexicon", "clamp", "(III)I"⟩ : MethodName) prog_1_method_19_code 4 (some .int) R_k_clamp
theorem pd_k_clamp : parseMethodDescriptor "(III)I" = some ⟨[.int, .int, .int], some .int⟩ := by decide +kernel
theorem d_k_ctor_0 : decode prog_1_method_1_code 0 = .ok (.aload_n 0, 1) := by decide +kernel
theorem d_k_ctor_1 : decode prog_1_method_1_code 1 = .ok (.invokespecial 1, 3) := by decide +kernel
theorem d_k_ctor_4 : decode prog_1_method_1_code 4 = .ok (.aload_n 0, 1) := by decide +kernel
theorem d_k_ctor_5 : decode prog_1_method_1_code 5 = .ok (.sipush 6656, 3) := by decide +kernel
theorem d_k_ctor_8 : decode prog_1_method_1_code 8 = .ok (.newarray .int, 2) := by decide +kernel
theorem d_k_ctor_10 : decode prog_1_method_1_code 10 = .ok (.putfield 7, 3) := by decide +kernel
theorem d_k_ctor_13 : decode prog_1_method_1_code 13 = .ok (.aload_n 0, 1) := by decide +kernel
theorem d_k_ctor_14 : decode prog_1_method_1_code 14 = .ok (.sipush 256, 3) := by decide +kernel
theorem d_k_ctor_17 : decode prog_1_method_1_code 17 = .ok (.newarray .int, 2) := by decide +kernel
theorem d_k_ctor_19 : decode prog_1_method_1_code 19 = .ok (.putfield 13, 3) := by decide +kernel
theorem d_k_ctor_22 : decode prog_1_method_1_code 22 = .ok (.aload_n 0, 1) := by decide +kernel
theorem d_k_ctor_23 : decode prog_1_method_1_code 23 = .ok (.sipush 256, 3) := by decide +kernel
theorem d_k_ctor_26 : decode prog_1_method_1_code 26 = .ok (.newarray .int, 2) := by decide +kernel
theorem d_k_ctor_28 : decode prog_1_method_1_code 28 = .ok (.putfield 16, 3) := by decide +kernel
theorem d_k_ctor_31 : decode prog_1_method_1_code 31 = .ok (.aload_n 0, 1) := by decide +kernel
theorem d_k_ctor_32 : decode prog_1_method_1_code 32 = .ok (.sipush 256, 3) := by decide +kernel
theorem d_k_ctor_35 : decode prog_1_method_1_code 35 = .ok (.newarray .int, 2) := by decide +kernel
theorem d_k_ctor_37 : decode prog_1_method_1_code 37 = .ok (.putfield 19, 3) := by decide +kernel
theorem d_k_ctor_40 : decode prog_1_method_1_code 40 = .ok (.aload_n 0, 1) := by decide +kernel
theorem d_k_ctor_41 : decode prog_1_method_1_code 41 = .ok (.sipush 256, 3) := by decide +kernel
theorem d_k_ctor_44 : decode prog_1_method_1_code 44 = .ok (.newarray .int, 2) := by decide +kernel
theorem d_k_ctor_46 : decode prog_1_method_1_code 46 = .ok (.putfield 22, 3) := by decide +kernel
theorem d_k_ctor_49 : decode prog_1_method_1_code 49 = .ok (.aload_n 0, 1) := by decide +kernel
theorem d_k_ctor_50 : decode prog_1_method_1_code 50 = .ok (.bipush 12, 2) := by decide +kernel
theorem d_k_ctor_52 : decode prog_1_method_1_code 52 = .ok (.newarray .int, 2) := by decide +kernel
theorem d_k_ctor_54 : decode prog_1_method_1_code 54 = .ok (.putfield 25, 3) := by decide +kernel
theorem d_k_ctor_57 : decode prog_1_method_1_code 57 = .ok (.aload_n 0, 1) := by decide +kernel
theorem d_k_ctor_58 : decode prog_1_method_1_code 58 = .ok (.bipush 12, 2) := by decide +kernel
theorem d_k_ctor_60 : decode prog_1_method_1_code 60 = .ok (.newarray .int, 2) := by decide +kernel
theorem d_k_ctor_62 : decode prog_1_method_1_code 62 = .ok (.putfield 28, 3) := by decide +kernel
theorem d_k_ctor_65 : decode prog_1_method_1_code 65 = .ok (.aload_n 0, 1) := by decide +kernel
theorem d_k_ctor_66 : decode prog_1_method_1_code 66 = .ok (.sipush 169, 3) := by decide +kernel
theorem d_k_ctor_69 : decode prog_1_method_1_code 69 = .ok (.newarray .int, 2) := by decide +kernel
theorem d_k_ctor_71 : decode prog_1_method_1_code 71 = .ok (.putfield 31, 3) := by decide +kernel
theorem d_k_ctor_74 : decode prog_1_method_1_code 74 = .ok (.aload_n 0, 1) := by decide +kernel
theorem d_k_ctor_75 : decode prog_1_method_1_code 75 = .ok (.bipush 13, 2) := by decide +kernel
theorem d_k_ctor_77 : decode prog_1_method_1_code 77 = .ok (.newarray .int, 2) := by decide +kernel
theorem d_k_ctor_79 : decode prog_1_method_1_code 79 = .ok (.putfield 34, 3) := by decide +kernel
theorem d_k_ctor_82 : decode prog_1_method_1_code 82 = .ok (.aload_n 0, 1) := by decide +kernel
theorem d_k_ctor_83 : decode prog_1_method_1_code 83 = .ok (.bipush 13, 2) := by decide +kernel
theorem d_k_ctor_85 : decode prog_1_method_1_code 85 = .ok (.newarray .int, 2) := by decide +kernel
theorem d_k_ctor_87 : decode prog_1_method_1_code 87 = .ok (.putfield 37, 3) := by decide +kernel
theorem d_k_ctor_90 : decode prog_1_method_1_code 90 = .ok (.aload_n 0, 1) := by decide +kernel
theorem d_k_ctor_91 : decode prog_1_method_1_code 91 = .ok (.bipush 20, 2) := by decide +kernel
theorem d_k_ctor_93 : decode prog_1_method_1_code 93 = .ok (.newarray .int, 2) := by decide +kernel
theorem d_k_ctor_95 : decode prog_1_method_1_code 95 = .ok (.putfield 40, 3) := by decide +kernel
theorem d_k_ctor_98 : decode prog_1_method_1_code 98 = .ok (.aload_n 0, 1) := by decide +kernel
theorem d_k_ctor_99 : decode prog_1_method_1_code 99 = .ok (.bipush 20, 2) := by decide +kernel
theorem d_k_ctor_101 : decode prog_1_method_1_code 101 = .ok (.newarray .int, 2) := by decide +kernel
theorem d_k_ctor_103 : decode prog_1_method_1_code 103 = .ok (.putfield 43, 3) := by decide +kernel
theorem d_k_ctor_106 : decode prog_1_method_1_code 106 = .ok (.aload_n 0, 1) := by decide +kernel
theorem d_k_ctor_107 : decode prog_1_method_1_code 107 = .ok (.bipush 20, 2) := by decide +kernel
theorem d_k_ctor_109 : decode prog_1_method_1_code 109 = .ok (.newarray .int, 2) := by decide +kernel
theorem d_k_ctor_111 : decode prog_1_method_1_code 111 = .ok (.putfield 46, 3) := by decide +kernel
theorem d_k_ctor_114 : decode prog_1_method_1_code 114 = .ok (.aload_n 0, 1) := by decide +kernel
theorem d_k_ctor_115 : decode prog_1_method_1_code 115 = .ok (.sipush 240, 3) := by decide +kernel
theorem d_k_ctor_118 : decode prog_1_method_1_code 118 = .ok (.newarray .int, 2) := by decide +kernel
theorem d_k_ctor_120 : decode prog_1_method_1_code 120 = .ok (.putfield 49, 3) := by decide +kernel
theorem d_k_ctor_123 : decode prog_1_method_1_code 123 = .ok (.aload_n 0, 1) := by decide +kernel
theorem d_k_ctor_124 : decode prog_1_method_1_code 124 = .ok (.bipush 20, 2) := by decide +kernel
theorem d_k_ctor_126 : decode prog_1_method_1_code 126 = .ok (.newarray .int, 2) := by decide +kernel
theorem d_k_ctor_128 : decode prog_1_method_1_code 128 = .ok (.putfield 52, 3) := by decide +kernel
theorem d_k_ctor_131 : decode prog_1_method_1_code 131 = .ok (.aload_n 0, 1) := by decide +kernel
theorem d_k_ctor_132 : decode prog_1_method_1_code 132 = .ok (.bipush 20, 2) := by decide +kernel
theorem d_k_ctor_134 : decode prog_1_method_1_code 134 = .ok (.newarray .int, 2) := by decide +kernel
theorem d_k_ctor_136 : decode prog_1_method_1_code 136 = .ok (.putfield 55, 3) := by decide +kernel
theorem d_k_ctor_139 : decode prog_1_method_1_code 139 = .ok (.aload_n 0, 1) := by decide +kernel
theorem d_k_ctor_140 : decode prog_1_method_1_code 140 = .ok (.bipush 20, 2) := by decide +kernel
theorem d_k_ctor_142 : decode prog_1_method_1_code 142 = .ok (.newarray .int, 2) := by decide +kernel
theorem d_k_ctor_144 : decode prog_1_method_1_code 144 = .ok (.putfield 58, 3) := by decide +kernel
theorem d_k_ctor_147 : decode prog_1_method_1_code 147 = .ok (.aload_n 0, 1) := by decide +kernel
theorem d_k_ctor_148 : decode prog_1_method_1_code 148 = .ok (.aload_n 0, 1) := by decide +kernel
theorem d_k_ctor_149 : decode prog_1_method_1_code 149 = .ok (.iload_n 1, 1) := by decide +kernel
theorem d_k_ctor_150 : decode prog_1_method_1_code 150 = .ok (.iconst 1, 1) := by decide +kernel
theorem d_k_ctor_151 : decode prog_1_method_1_code 151 = .ok (.bipush 20, 2) := by decide +kernel
theorem d_k_ctor_153 : decode prog_1_method_1_code 153 = .ok (.invokevirtual 61, 3) := by decide +kernel
theorem d_k_ctor_156 : decode prog_1_method_1_code 156 = .ok (.putfield 65, 3) := by decide +kernel
theorem d_k_ctor_159 : decode prog_1_method_1_code 159 = .ok (.aload_n 0, 1) := by decide +kernel
theorem d_k_ctor_160 : decode prog_1_method_1_code 160 = .ok (.iconst 0, 1) := by decide +kernel
theorem d_k_ctor_161 : decode prog_1_method_1_code 161 = .ok (.putfield 69, 3) := by decide +kernel
theorem d_k_ctor_164 : decode prog_1_method_1_code 164 = .ok (.aload_n 0, 1) := by decide +kernel
theorem d_k_ctor_165 : decode prog_1_method_1_code 165 = .ok (.iconst 1, 1) := by decide +kernel
theorem d_k_ctor_166 : decode prog_1_method_1_code 166 = .ok (.putfield 72, 3) := by decide +kernel
theorem d_k_ctor_169 : decode prog_1_method_1_code 169 = .ok (.aload_n 0, 1) := by decide +kernel
theorem d_k_ctor_170 : decode prog_1_method_1_code 170 = .ok (.getfield 16, 3) := by decide +kernel
theorem d_k_ctor_173 : decode prog_1_method_1_code 173 = .ok (.iconst 0, 1) := by decide +kernel
theorem d_k_ctor_174 : decode prog_1_method_1_code 174 = .ok (.iconst 0, 1) := by decide +kernel
theorem d_k_ctor_175 : decode prog_1_method_1_code 175 = .ok (.iastore, 1) := by decide +kernel
theorem d_k_ctor_176 : decode prog_1_method_1_code 176 = .ok (.aload_n 0, 1) := by decide +kernel
theorem d_k_ctor_177 : decode prog_1_method_1_code 177 = .ok (.getfield 22, 3) := by decide +kernel
theorem d_k_ctor_180 : decode prog_1_method_1_code 180 = .ok (.iconst 0, 1) := by decide +kernel
theorem d_k_ctor_181 : decode prog_1_method_1_code 181 = .ok (.iconst 0, 1) := by decide +kernel
theorem d_k_ctor_182 : decode prog_1_method_1_code 182 = .ok (.iastore, 1) := by decide +kernel
theorem d_k_ctor_183 : decode prog_1_method_1_code 183 = .ok (.aload_n 0, 1) := by decide +kernel
theorem d_k_ctor_184 : decode prog_1_method_1_code 184 = .ok (.getfield 13, 3) := by decide +kernel
theorem d_k_ctor_187 : decode prog_1_method_1_code 187 = .ok (.iconst 0, 1) := by decide +kernel
theorem d_k_ctor_188 : decode prog_1_method_1_code 188 = .ok (.iconst 0, 1) := by decide +kernel
theorem d_k_ctor_189 : decode prog_1_method_1_code 189 = .ok (.iastore, 1) := by decide +kernel
theorem d_k_ctor_190 : decode prog_1_method_1_code 190 = .ok (.aload_n 0, 1) := by decide +kernel
theorem d_k_ctor_191 : decode prog_1_method_1_code 191 = .ok (.iconst 0, 1) := by decide +kernel
theorem d_k_ctor_192 : decode prog_1_method_1_code 192 = .ok (.putfield 75, 3) := by decide +kernel
theorem d_k_ctor_195 : decode prog_1_method_1_code 195 = .ok (.aload_n 0, 1) := by decide +kernel
theorem d_k_ctor_196 : decode prog_1_method_1_code 196 = .ok (.iconst 0, 1) := by decide +kernel
theorem d_k_ctor_197 : decode prog_1_method_1_code 197 = .ok (.putfield 78, 3) := by decide +kernel
theorem d_k_ctor_200 : decode prog_1_method_1_code 200 = .ok (.aload_n 0, 1) := by decide +kernel
theorem d_k_ctor_201 : decode prog_1_method_1_code 201 = .ok (.iconst 0, 1) := by decide +kernel
theorem d_k_ctor_202 : decode prog_1_method_1_code 202 = .ok (.putfield 81, 3) := by decide +kernel
theorem d_k_ctor_205 : decode prog_1_method_1_code 205 = .ok (.aload_n 0, 1) := by decide +kernel
theorem d_k_ctor_206 : decode prog_1_method_1_code 206 = .ok (.iconst 0, 1) := by decide +kernel
theorem d_k_ctor_207 : decode prog_1_method_1_code 207 = .ok (.putfield 84, 3) := by decide +kernel
theorem d_k_ctor_210 : decode prog_1_method_1_code 210 = .ok (.aload_n 0, 1) := by decide +kernel
theorem d_k_ctor_211 : decode prog_1_method_1_code 211 = .ok (.iconst 0, 1) := by decide +kernel
theorem d_k_ctor_212 : decode prog_1_method_1_code 212 = .ok (.putfield 87, 3) := by decide +kernel
theorem d_k_ctor_215 : decode prog_1_method_1_code 215 = .ok (.return_, 1) := by decide +kernel
def R_k_ctor : Room := { frames := 1, cells := 17, slots := 8259, locals := 16 }
abbrev G_k_ctor (l : Launch) (Z : State) (n0 : Nat) (P : Heap → Prop) := Go l Z D n0 P (⟨"FuzzyLexicon", "<init>", "(I)V"⟩ : MethodName) prog_1_method_1_code 2 none R_k_ctor
theorem pd_k_ctor : parseMethodDescriptor "(I)V" = some ⟨[.int], none⟩ := by decide +kernel
theorem d_k_isLetter_0 : decode prog_1_method_18_code 0 = .ok (.iload_n 1, 1) := by decide +kernel
theorem d_k_isLetter_1 : decode prog_1_method_18_code 1 = .ok (.bipush 97, 2) := by decide +kernel
theorem d_k_isLetter_3 : decode prog_1_method_18_code 3 = .ok (.if_icmp .lt 13, 3) := by decide +kernel
theorem d_k_isLetter_16 : decode prog_1_method_18_code 16 = .ok (.iconst 0, 1) := by decide +kernel
theorem d_k_isLetter_17 : decode prog_1_method_18_code 17 = .ok (.ireturn, 1) := by decide +kernel
theorem d_k_isLetter_6 : decode prog_1_method_18_code 6 = .ok (.iload_n 1, 1) := by decide +kernel
theorem d_k_isLetter_7 : decode prog_1_method_18_code 7 = .ok (.bipush 122, 2) := by decide +kernel
theorem d_k_isLetter_9 : decode prog_1_method_18_code 9 = .ok (.if_icmp .gt 7, 3) := by decide +kernel
theorem d_k_isLetter_12 : decode prog_1_method_18_code 12 = .ok (.iconst 1, 1) := by decide +kernel
theorem d_k_isLetter_13 : decode prog_1_method_18_code 13 = .ok (.goto 4, 3) := by decide +kernel
def R_k_isLetter : Room := { frames := 0, cells := 0, slots := 0, locals := 0 }
abbrev G_k_isLetter (l : Launch) (Z : State) (n0 : Nat) (P : Heap → Prop) := Go l Z D n0 P (⟨"FuzzyLexicon", "isLetter", "(I)Z"⟩ : MethodName) prog_1_method_18_code 2 (some .boolean) R_k_isLetter
theorem pd_k_isLetter : parseMethodDescriptor "(I)Z" = some ⟨[.int], some .boolean⟩ := by decide +kernel
theorem d_k_pendChar_0 : decode prog_1_method_3_code 0 = .ok (.aload_n 0, 1) := by decide +kernel
theorem d_k_pendChar_1 : decode prog_1_method_3_code 1 = .ok (.iload_n 1, 1) := by decide +kernel
theorem d_k_pendChar_2 : decode prog_1_method_3_code 2 = .ok (.invokevirtual 90, 3) := by decide +kernel
theorem d_k_pendChar_5 : decode prog_1_method_3_code 5 = .ok (.ifCond .ne 5, 3) := by decide +kernel
theorem d_k_pendChar_8 : decode prog_1_method_3_code 8 = .ok (.iconst 0, 1) := by decide +kernel
theorem d_k_pendChar_9 : decode prog_1_method_3_code 9 = .ok (.ireturn, 1) := by decide +kernel
theorem d_k_pendChar_10 : decode prog_1_method_3_code 10 = .ok (.aload_n 0, 1) := by decide +kernel
theorem d_k_pendChar_11 : decode prog_1_method_3_code 11 = .ok (.getfield 75, 3) := by decide +kernel
theorem d_k_pendChar_14 : decode prog_1_method_3_code 14 = .ok (.bipush 12, 2) := by decide +kernel
theorem d_k_pendChar_16 : decode prog_1_method_3_code 16 = .ok (.if_icmp .lt 5, 3) := by decide +kernel
theorem d_k_pendChar_21 : decode prog_1_method_3_code 21 = .ok (.aload_n 0, 1) := by decide +kernel
theorem d_k_pendChar_22 : decode prog_1_method_3_code 22 = .ok (.getfield 25, 3) := by decide +kernel
theorem d_k_pendChar_25 : decode prog_1_method_3_code 25 = .ok (.aload_n 0, 1) := by decide +kernel
theorem d_k_pendChar_26 : decode prog_1_method_3_code 26 = .ok (.getfield 75, 3) := by decide +kernel
theorem d_k_pendChar_29 : decode prog_1_method_3_code 29 = .ok (.iload_n 1, 1) := by decide +kernel
theorem d_k_pendChar_30 : decode prog_1_method_3_code 30 = .ok (.bipush 97, 2) := by decide +kernel
theorem d_k_pendChar_32 : decode prog_1_method_3_code 32 = .ok (.isub, 1) := by decide +kernel
theorem d_k_pendChar_33 : decode prog_1_method_3_code 33 = .ok (.iastore, 1) := by decide +kernel
theorem d_k_pendChar_34 : decode prog_1_method_3_code 34 = .ok (.aload_n 0, 1) := by decide +kernel
theorem d_k_pendChar_35 : decode prog_1_method_3_code 35 = .ok (.dup, 1) := by decide +kernel
theorem d_k_pendChar_36 : decode prog_1_method_3_code 36 = .ok (.getfield 75, 3) := by decide +kernel
theorem d_k_pendChar_39 : decode prog_1_method_3_code 39 = .ok (.iconst 1, 1) := by decide +kernel
theorem d_k_pendChar_40 : decode prog_1_method_3_code 40 = .ok (.iadd, 1) := by decide +kernel
theorem d_k_pendChar_41 : decode prog_1_method_3_code 41 = .ok (.putfield 75, 3) := by decide +kernel
theorem d_k_pendChar_44 : decode prog_1_method_3_code 44 = .ok (.iconst 1, 1) := by decide +kernel
theorem d_k_pendChar_45 : decode prog_1_method_3_code 45 = .ok (.ireturn, 1) := by decide +kernel
theorem d_k_pendChar_19 : decode prog_1_method_3_code 19 = .ok (.iconst 0, 1) := by decide +kernel
theorem d_k_pendChar_20 : decode prog_1_method_3_code 20 = .ok (.ireturn, 1) := by decide +kernel
def R_k_pendChar : Room := { frames := 1, cells := 0, slots := 0, locals := 13 }
abbrev G_k_pendChar (l : Launch) (Z : State) (n0 : Nat) (P : Heap → Prop) := Go l Z D n0 P (⟨"FuzzyLexicon", "pendChar", "(I)Z"⟩ : MethodName) prog_1_method_3_code 2 (some .boolean) R_k_pendChar
theorem pd_k_pendChar : parseMethodDescriptor "(I)Z" = some ⟨[.int], some .boolean⟩ := by decide +kernel
theorem d_k_childAt_0 : decode prog_1_method_23_code 0 = .ok (.iload_n 1, 1) := by decide +kernel
theorem d_k_childAt_1 : decode prog_1_method_23_code 1 = .ok (.ifCond .lt 20, 3) := by decide +kernel
theorem d_k_childAt_21 : decode prog_1_method_23_code 21 = .ok (.iconst 0, 1) := by decide +kernel
theorem d_k_childAt_22 : decode prog_1_method_23_code 22 = .ok (.ireturn, 1) := by decide +kernel
theorem d_k_childAt_4 : decode prog_1_method_23_code 4 = .ok (.iload_n 1, 1) := by decide +kernel
theorem d_k_childAt_5 : decode prog_1_method_23_code 5 = .ok (.sipush 256, 3) := by decide +kernel
theorem d_k_childAt_8 : decode prog_1_method_23_code 8 = .ok (.if_icmp .ge 13, 3) := by decide +kernel
theorem d_k_childAt_11 : decode prog_1_method_23_code 11 = .ok (.iload_n 2, 1) := by decide +kernel
theorem d_k_childAt_12 : decode prog_1_method_23_code 12 = .ok (.ifCond .lt 9, 3) := by decide +kernel
theorem d_k_childAt_15 : decode prog_1_method_23_code 15 = .ok (.iload_n 2, 1) := by decide +kernel
theorem d_k_childAt_16 : decode prog_1_method_23_code 16 = .ok (.bipush 26, 2) := by decide +kernel
theorem d_k_childAt_18 : decode prog_1_method_23_code 18 = .ok (.if_icmp .lt 5, 3) := by decide +kernel
theorem d_k_childAt_23 : decode prog_1_method_23_code 23 = .ok (.aload_n 0, 1) := by decide +kernel
theorem d_k_childAt_24 : decode prog_1_method_23_code 24 = .ok (.getfield 7, 3) := by decide +kernel
theorem d_k_childAt_27 : decode prog_1_method_23_code 27 = .ok (.iload_n 1, 1) := by decide +kernel
theorem d_k_childAt_28 : decode prog_1_method_23_code 28 = .ok (.bipush 26, 2) := by decide +kernel
theorem d_k_childAt_30 : decode prog_1_method_23_code 30 = .ok (.imul, 1) := by decide +kernel
theorem d_k_childAt_31 : decode prog_1_method_23_code 31 = .ok (.iload_n 2, 1) := by decide +kernel
theorem d_k_childAt_32 : decode prog_1_method_23_code 32 = .ok (.iadd, 1) := by decide +kernel
theorem d_k_childAt_33 : decode prog_1_method_23_code 33 = .ok (.iaload, 1) := by decide +kernel
theorem d_k_childAt_34 : decode prog_1_method_23_code 34 = .ok (.ireturn, 1) := by decide +kernel
def R_k_childAt : Room := { frames := 0, cells := 0, slots := 0, locals := 0 }
abbrev G_k_childAt (l : Launch) (Z : State) (n0 : Nat) (P : Heap → Prop) := Go l Z D n0 P (⟨"FuzzyLexicon", "childAt", "(II)I"⟩ : MethodName) prog_1_method_23_code 3 (some .int) R_k_childAt
theorem pd_k_childAt : parseMethodDescriptor "(II)I" = some ⟨[.int, .int], some .int⟩ := by decide +kernel
theorem d_k_findPending_0 : decode prog_1_method_27_code 0 = .ok (.iconst 0, 1) := by decide +kernel
theorem d_k_findPending_1 : decode prog_1_method_27_code 1 = .ok (.istore_n 1, 1) := by decide +kernel
theorem d_k_findPending_2 : decode prog_1_method_27_code 2 = .ok (.iconst 0, 1) := by decide +kernel
theorem d_k_findPending_3 : decode prog_1_method_27_code 3 = .ok (.istore_n 2, 1) := by decide +kernel
theorem d_k_findPending_4 : decode prog_1_method_27_code 4 = .ok (.iload_n 2, 1) := by decide +kernel
theorem d_k_findPending_5 : decode prog_1_method_27_code 5 = .ok (.aload_n 0, 1) := by decide +kernel
theorem d_k_findPending_6 : decode prog_1_method_27_code 6 = .ok (.getfield 75, 3) := by decide +kernel
theorem d_k_findPending_9 : decode prog_1_method_27_code 9 = .ok (.if_icmp .ge 35, 3) := by decide +kernel
theorem d_k_findPending_12 : decode prog_1_method_27_code 12 = .ok (.iload_n 2, 1) := by decide +kernel
theorem d_k_findPending_13 : decode prog_1_method_27_code 13 = .ok (.bipush 12, 2) := by decide +kernel
theorem d_k_findPending_15 : decode prog_1_method_27_code 15 = .ok (.if_icmp .ge 29, 3) := by decide +kernel
theorem d_k_findPending_18 : decode prog_1_method_27_code 18 = .ok (.aload_n 0, 1) := by decide +kernel
theorem d_k_findPending_19 : decode prog_1_method_27_code 19 = .ok (.iload_n 1, 1) := by decide +kernel
theorem d_k_findPending_20 : decode prog_1_method_27_code 20 = .ok (.aload_n 0, 1) := by decide +kernel
theorem d_k_findPending_21 : decode prog_1_method_27_code 21 = .ok (.getfield 25, 3) := by decide +kernel
theorem d_k_findPending_24 : decode prog_1_method_27_code 24 = .ok (.iload_n 2, 1) := by decide +kernel
theorem d_k_findPending_25 : decode prog_1_method_27_code 25 = .ok (.iaload, 1) := by decide +kernel
theorem d_k_findPending_26 : decode prog_1_method_27_code 26 = .ok (.invokevirtual 119, 3) := by decide +kernel
theorem d_k_findPending_29 : decode prog_1_method_27_code 29 = .ok (.istore_n 3, 1) := by decide +kernel
theorem d_k_findPending_30 : decode prog_1_method_27_code 30 = .ok (.iload_n 3, 1) := by decide +kernel
theorem d_k_findPending_31 : decode prog_1_method_27_code 31 = .ok (.ifCond .gt 5, 3) := by decide +kernel
theorem d_k_findPending_36 : decode prog_1_method_27_code 36 = .ok (.iload_n 3, 1) := by decide +kernel
theorem d_k_findPending_37 : decode prog_1_method_27_code 37 = .ok (.istore_n 1, 1) := by decide +kernel
theorem d_k_findPending_38 : decode prog_1_method_27_code 38 = .ok (.iinc 2 1, 3) := by decide +kernel
theorem d_k_findPending_41 : decode prog_1_method_27_code 41 = .ok (.goto (-37), 3) := by decide +kernel
theorem d_k_findPending_44 : decode prog_1_method_27_code 44 = .ok (.iload_n 1, 1) := by decide +kernel
theorem d_k_findPending_45 : decode prog_1_method_27_code 45 = .ok (.ireturn, 1) := by decide +kernel
theorem d_k_findPending_34 : decode prog_1_method_27_code 34 = .ok (.iconst (-1), 1) := by decide +kernel
theorem d_k_findPending_35 : decode prog_1_method_27_code 35 = .ok (.ireturn, 1) := by decide +kernel
def R_k_findPending : Room := { frames := 1, cells := 0, slots := 0, locals := 14 }
abbrev G_k_findPending (l : Launch) (Z : State) (n0 : Nat) (P : Heap → Prop) := Go l Z D n0 P (⟨"FuzzyLexicon", "findPending", "()I"⟩ : MethodName) prog_1_method_27_code 4 (some .int) R_k_findPending
theorem pd_k_findPending : parseMethodDescriptor "()I" = some ⟨[], some .int⟩ := by decide +kernel
theorem d_k_addFreq_0 : decode prog_1_method_21_code 0 = .ok (.iload_n 1, 1) := by decide +kernel
theorem d_k_addFreq_1 : decode prog_1_method_21_code 1 = .ok (.iload_n 2, 1) := by decide +kernel
theorem d_k_addFreq_2 : decode prog_1_method_21_code 2 = .ok (.iadd, 1) := by decide +kernel
theorem d_k_addFreq_3 : decode prog_1_method_21_code 3 = .ok (.istore_n 3, 1) := by decide +kernel
theorem d_k_addFreq_4 : decode prog_1_method_21_code 4 = .ok (.iload_n 3, 1) := by decide +kernel
theorem d_k_addFreq_5 : decode prog_1_method_21_code 5 = .ok (.ldc 94, 2) := by decide +kernel
theorem d_k_addFreq_7 : decode prog_1_method_21_code 7 = .ok (.if_icmp .gt 7, 3) := by decide +kernel
theorem d_k_addFreq_14 : decode prog_1_method_21_code 14 = .ok (.ldc 94, 2) := by decide +kernel
theorem d_k_addFreq_16 : decode prog_1_method_21_code 16 = .ok (.ireturn, 1) := by decide +kernel
theorem d_k_addFreq_10 : decode prog_1_method_21_code 10 = .ok (.iload_n 3, 1) := by decide +kernel
theorem d_k_addFreq_11 : decode prog_1_method_21_code 11 = .ok (.ifCond .ge 6, 3) := by decide +kernel
theorem d_k_addFreq_17 : decode prog_1_method_21_code 17 = .ok (.iload_n 3, 1) := by decide +kernel
theorem d_k_addFreq_18 : decode prog_1_method_21_code 18 = .ok (.ireturn, 1) := by decide +kernel
def R_k_addFreq : Room := { frames := 0, cells := 0, slots := 0, locals := 0 }
abbrev G_k_addFreq (l : Launch) (Z : State) (n0 : Nat) (P : Heap → Prop) := Go l Z D n0 P (⟨"FuzzyLexicon", "addFreq", "(II)I"⟩ : MethodName) prog_1_method_21_code 4 (some .int) R_k_addFreq
theorem pd_k_addFreq : parseMethodDescriptor "(II)I" = some ⟨[.int, .int], some .int⟩ := by decide +kernel
theorem d_k_hasRoom_0 : decode prog_1_method_25_code 0 = .ok (.iload_n 1, 1) := by decide +kernel
theorem d_k_hasRoom_1 : decode prog_1_method_25_code 1 = .ok (.ifCond .lt 19, 3) := by decide +kernel
theorem d_k_hasRoom_20 : decode prog_1_method_25_code 20 = .ok (.iconst 0, 1) := by decide +kernel
theorem d_k_hasRoom_21 : decode prog_1_method_25_code 21 = .ok (.ireturn, 1) := by decide +kernel
theorem d_k_hasRoom_4 : decode prog_1_method_25_code 4 = .ok (.aload_n 0, 1) := by decide +kernel
theorem d_k_hasRoom_5 : decode prog_1_method_25_code 5 = .ok (.getfield 72, 3) := by decide +kernel
theorem d_k_hasRoom_8 : decode prog_1_method_25_code 8 = .ok (.iload_n 1, 1) := by decide +kernel
theorem d_k_hasRoom_9 : decode prog_1_method_25_code 9 = .ok (.iadd, 1) := by decide +kernel
theorem d_k_hasRoom_10 : decode prog_1_method_25_code 10 = .ok (.sipush 256, 3) := by decide +kernel
theorem d_k_hasRoom_13 : decode prog_1_method_25_code 13 = .ok (.if_icmp .gt 7, 3) := by decide +kernel
theorem d_k_hasRoom_16 : decode prog_1_method_25_code 16 = .ok (.iconst 1, 1) := by decide +kernel
theorem d_k_hasRoom_17 : decode prog_1_method_25_code 17 = .ok (.goto 4, 3) := by decide +kernel
def R_k_hasRoom : Room := { frames := 0, cells := 0, slots := 0, locals := 0 }
abbrev G_k_hasRoom (l : Launch) (Z : State) (n0 : Nat) (P : Heap → Prop) := Go l Z D n0 P (⟨"FuzzyLexicon", "hasRoom", "(I)Z"⟩ : MethodName) prog_1_method_25_code 2 (some .boolean) R_k_hasRoom
theorem pd_k_hasRoom : parseMethodDescriptor "(I)Z" = some ⟨[.int], some .boolean⟩ := by decide +kernel
theorem d_k_newNode_0 : decode prog_1_method_26_code 0 = .ok (.aload_n 0, 1) := by decide +kernel
theorem d_k_newNode_1 : decode prog_1_method_26_code 1 = .ok (.getfield 72, 3) := by decide +kernel
theorem d_k_newNode_4 : decode prog_1_method_26_code 4 = .ok (.sipush 256, 3) := by decide +kernel
theorem d_k_newNode_7 : decode prog_1_method_26_code 7 = .ok (.if_icmp .lt 5, 3) := by decide +kernel
theorem d_k_newNode_12 : decode prog_1_method_26_code 12 = .ok (.aload_n 0, 1) := by decide +kernel
theorem d_k_newNode_13 : decode prog_1_method_26_code 13 = .ok (.getfield 72, 3) := by decide +kernel
theorem d_k_newNode_16 : decode prog_1_method_26_code 16 = .ok (.istore 4, 2) := by decide +kernel
theorem d_k_newNode_18 : decode prog_1_method_26_code 18 = .ok (.aload_n 0, 1) := by decide +kernel
theorem d_k_newNode_19 : decode prog_1_method_26_code 19 = .ok (.dup, 1) := by decide +kernel
theorem d_k_newNode_20 : decode prog_1_method_26_code 20 = .ok (.getfield 72, 3) := by decide +kernel
theorem d_k_newNode_23 : decode prog_1_method_26_code 23 = .ok (.iconst 1, 1) := by decide +kernel
theorem d_k_newNode_24 : decode prog_1_method_26_code 24 = .ok (.iadd, 1) := by decide +kernel
theorem d_k_newNode_25 : decode prog_1_method_26_code 25 = .ok (.putfield 72, 3) := by decide +kernel
theorem d_k_newNode_28 : decode prog_1_method_26_code 28 = .ok (.aload_n 0, 1) := by decide +kernel
theorem d_k_newNode_29 : decode prog_1_method_26_code 29 = .ok (.getfield 16, 3) := by decide +kernel
theorem d_k_newNode_32 : decode prog_1_method_26_code 32 = .ok (.iload 4, 2) := by decide +kernel
theorem d_k_newNode_34 : decode prog_1_method_26_code 34 = .ok (.iload_n 1, 1) := by decide +kernel
theorem d_k_newNode_35 : decode prog_1_method_26_code 35 = .ok (.iastore, 1) := by decide +kernel
theorem d_k_newNode_36 : decode prog_1_method_26_code 36 = .ok (.aload_n 0, 1) := by decide +kernel
theorem d_k_newNode_37 : decode prog_1_method_26_code 37 = .ok (.getfield 19, 3) := by decide +kernel
theorem d_k_newNode_40 : decode prog_1_method_26_code 40 = .ok (.iload 4, 2) := by decide +kernel
theorem d_k_newNode_42 : decode prog_1_method_26_code 42 = .ok (.iload_n 2, 1) := by decide +kernel
theorem d_k_newNode_43 : decode prog_1_method_26_code 43 = .ok (.iastore, 1) := by decide +kernel
theorem d_k_newNode_44 : decode prog_1_method_26_code 44 = .ok (.aload_n 0, 1) := by decide +kernel
theorem d_k_newNode_45 : decode prog_1_method_26_code 45 = .ok (.getfield 22, 3) := by decide +kernel
theorem d_k_newNode_48 : decode prog_1_method_26_code 48 = .ok (.iload 4, 2) := by decide +kernel
theorem d_k_newNode_50 : decode prog_1_method_26_code 50 = .ok (.iload_n 3, 1) := by decide +kernel
theorem d_k_newNode_51 : decode prog_1_method_26_code 51 = .ok (.iastore, 1) := by decide +kernel
theorem d_k_newNode_52 : decode prog_1_method_26_code 52 = .ok (.aload_n 0, 1) := by decide +kernel
theorem d_k_newNode_53 : decode prog_1_method_26_code 53 = .ok (.getfield 13, 3) := by decide +kernel
theorem d_k_newNode_56 : decode prog_1_method_26_code 56 = .ok (.iload 4, 2) := by decide +kernel
theorem d_k_newNode_58 : decode prog_1_method_26_code 58 = .ok (.iconst 0, 1) := by decide +kernel
theorem d_k_newNode_59 : decode prog_1_method_26_code 59 = .ok (.iastore, 1) := by decide +kernel
theorem d_k_newNode_60 : decode prog_1_method_26_code 60 = .ok (.iload 4, 2) := by decide +kernel
theorem d_k_newNode_62 : decode prog_1_method_26_code 62 = .ok (.ireturn, 1) := by decide +kernel
theorem d_k_newNode_10 : decode prog_1_method_26_code 10 = .ok (.iconst (-1), 1) := by decide +kernel
theorem d_k_newNode_11 : decode prog_1_method_26_code 11 = .ok (.ireturn, 1) := by decide +kernel
def R_k_newNode : Room := { frames := 0, cells := 0, slots := 0, locals := 0 }
abbrev G_k_newNode (l : Launch) (Z : State) (n0 : Nat) (P : Heap → Prop) := Go l Z D n0 P (⟨"FuzzyLexicon", "newNode", "(III)I"⟩ : MethodName) prog_1_method_26_code 5 (some .int) R_k_newNode
theorem pd_k_newNode : parseMethodDescriptor "(III)I" = some ⟨[.int, .int, .int], some .int⟩ := by decide +kernel
theorem d_k_setChild_0 : decode prog_1_method_24_code 0 = .ok (.iload_n 1, 1) := by decide +kernel
theorem d_k_setChild_1 : decode prog_1_method_24_code 1 = .ok (.ifCond .lt 20, 3) := by decide +kernel
theorem d_k_setChild_21 : decode prog_1_method_24_code 21 = .ok (.return_, 1) := by decide +kernel
theorem d_k_setChild_4 : decode prog_1_method_24_code 4 = .ok (.iload_n 1, 1) := by decide +kernel
theorem d_k_setChild_5 : decode prog_1_method_24_code 5 = .ok (.sipush 256, 3) := by decide +kernel
theorem d_k_setChild_8 : decode prog_1_method_24_code 8 = .ok (.if_icmp .ge 13, 3) := by decide +kernel
theorem d_k_setChild_11 : decode prog_1_method_24_code 11 = .ok (.iload_n 2, 1) := by decide +kernel
theorem d_k_setChild_12 : decode prog_1_method_24_code 12 = .ok (.ifCond .lt 9, 3) := by decide +kernel
theorem d_k_setChild_15 : decode prog_1_method_24_code 15 = .ok (.iload_n 2, 1) := by decide +kernel
theorem d_k_setChild_16 : decode prog_1_method_24_code 16 = .ok (.bipush 26, 2) := by decide +kernel
theorem d_k_setChild_18 : decode prog_1_method_24_code 18 = .ok (.if_icmp .lt 4, 3) := by decide +kernel
theorem d_k_setChild_22 : decode prog_1_method_24_code 22 = .ok (.aload_n 0, 1) := by decide +kernel
theorem d_k_setChild_23 : decode prog_1_method_24_code 23 = .ok (.getfield 7, 3) := by decide +kernel
theorem d_k_setChild_26 : decode prog_1_method_24_code 26 = .ok (.iload_n 1, 1) := by decide +kernel
theorem d_k_setChild_27 : decode prog_1_method_24_code 27 = .ok (.bipush 26, 2) := by decide +kernel
theorem d_k_setChild_29 : decode prog_1_method_24_code 29 = .ok (.imul, 1) := by decide +kernel
theorem d_k_setChild_30 : decode prog_1_method_24_code 30 = .ok (.iload_n 2, 1) := by decide +kernel
theorem d_k_setChild_31 : decode prog_1_method_24_code 31 = .ok (.iadd, 1) := by decide +kernel
theorem d_k_setChild_32 : decode prog_1_method_24_code 32 = .ok (.iload_n 3, 1) := by decide +kernel
theorem d_k_setChild_33 : decode prog_1_method_24_code 33 = .ok (.iastore, 1) := by decide +kernel
theorem d_k_setChild_34 : decode prog_1_method_24_code 34 = .ok (.return_, 1) := by decide +kernel
def R_k_setChild : Room := { frames := 0, cells := 0, slots := 0, locals := 0 }
abbrev G_k_setChild (l : Launch) (Z : State) (n0 : Nat) (P : Heap → Prop) := Go l Z D n0 P (⟨"FuzzyLexicon", "setChild", "(III)V"⟩ : MethodName) prog_1_method_24_code 4 none R_k_setChild
theorem pd_k_setChild : parseMethodDescriptor "(III)V" = some ⟨[.int, .int, .int], none⟩ := by decide +kernel
theorem d_k_insertPending_0 : decode prog_1_method_28_code 0 = .ok (.iconst 0, 1) := by decide +kernel
theorem d_k_insertPending_1 : decode prog_1_method_28_code 1 = .ok (.istore_n 1, 1) := by decide +kernel
theorem d_k_insertPending_2 : decode prog_1_method_28_code 2 = .ok (.iconst 0, 1) := by decide +kernel
theorem d_k_insertPending_3 : decode prog_1_method_28_code 3 = .ok (.istore_n 2, 1) := by decide +kernel
theorem d_k_insertPending_4 : decode prog_1_method_28_code 4 = .ok (.iload_n 2, 1) := by decide +kernel
theorem d_k_insertPending_5 : decode prog_1_method_28_code 5 = .ok (.aload_n 0, 1) := by decide +kernel
theorem d_k_insertPending_6 : decode prog_1_method_28_code 6 = .ok (.getfield 75, 3) := by decide +kernel
theorem d_k_insertPending_9 : decode prog_1_method_28_code 9 = .ok (.if_icmp .ge 64, 3) := by decide +kernel
theorem d_k_insertPending_12 : decode prog_1_method_28_code 12 = .ok (.iload_n 2, 1) := by decide +kernel
theorem d_k_insertPending_13 : decode prog_1_method_28_code 13 = .ok (.bipush 12, 2) := by decide +kernel
theorem d_k_insertPending_15 : decode prog_1_method_28_code 15 = .ok (.if_icmp .ge 58, 3) := by decide +kernel
theorem d_k_insertPending_18 : decode prog_1_method_28_code 18 = .ok (.aload_n 0, 1) := by decide +kernel
theorem d_k_insertPending_19 : decode prog_1_method_28_code 19 = .ok (.getfield 25, 3) := by decide +kernel
theorem d_k_insertPending_22 : decode prog_1_method_28_code 22 = .ok (.iload_n 2, 1) := by decide +kernel
theorem d_k_insertPending_23 : decode prog_1_method_28_code 23 = .ok (.iaload, 1) := by decide +kernel
theorem d_k_insertPending_24 : decode prog_1_method_28_code 24 = .ok (.istore_n 3, 1) := by decide +kernel
theorem d_k_insertPending_25 : decode prog_1_method_28_code 25 = .ok (.aload_n 0, 1) := by decide +kernel
theorem d_k_insertPending_26 : decode prog_1_method_28_code 26 = .ok (.iload_n 1, 1) := by decide +kernel
theorem d_k_insertPending_27 : decode prog_1_method_28_code 27 = .ok (.iload_n 3, 1) := by decide +kernel
theorem d_k_insertPending_28 : decode prog_1_method_28_code 28 = .ok (.invokevirtual 119, 3) := by decide +kernel
theorem d_k_insertPending_31 : decode prog_1_method_28_code 31 = .ok (.istore 4, 2) := by decide +kernel
theorem d_k_insertPending_33 : decode prog_1_method_28_code 33 = .ok (.iload 4, 2) := by decide +kernel
theorem d_k_insertPending_35 : decode prog_1_method_28_code 35 = .ok (.ifCond .ne 29, 3) := by decide +kernel
theorem d_k_insertPending_38 : decode prog_1_method_28_code 38 = .ok (.aload_n 0, 1) := by decide +kernel
theorem d_k_insertPending_39 : decode prog_1_method_28_code 39 = .ok (.iload_n 1, 1) := by decide +kernel
theorem d_k_insertPending_40 : decode prog_1_method_28_code 40 = .ok (.iload_n 3, 1) := by decide +kernel
theorem d_k_insertPending_41 : decode prog_1_method_28_code 41 = .ok (.iload_n 2, 1) := by decide +kernel
theorem d_k_insertPending_42 : decode prog_1_method_28_code 42 = .ok (.iconst 1, 1) := by decide +kernel
theorem d_k_insertPending_43 : decode prog_1_method_28_code 43 = .ok (.iadd, 1) := by decide +kernel
theorem d_k_insertPending_44 : decode prog_1_method_28_code 44 = .ok (.invokevirtual 122, 3) := by decide +kernel
theorem d_k_insertPending_47 : decode prog_1_method_28_code 47 = .ok (.istore 4, 2) := by decide +kernel
theorem d_k_insertPending_49 : decode prog_1_method_28_code 49 = .ok (.iload 4, 2) := by decide +kernel
theorem d_k_insertPending_51 : decode prog_1_method_28_code 51 = .ok (.ifCond .ge 5, 3) := by decide +kernel
theorem d_k_insertPending_56 : decode prog_1_method_28_code 56 = .ok (.aload_n 0, 1) := by decide +kernel
theorem d_k_insertPending_57 : decode prog_1_method_28_code 57 = .ok (.iload_n 1, 1) := by decide +kernel
theorem d_k_insertPending_58 : decode prog_1_method_28_code 58 = .ok (.iload_n 3, 1) := by decide +kernel
theorem d_k_insertPending_59 : decode prog_1_method_28_code 59 = .ok (.iload 4, 2) := by decide +kernel
theorem d_k_insertPending_61 : decode prog_1_method_28_code 61 = .ok (.invokevirtual 125, 3) := by decide +kernel
theorem d_k_insertPending_64 : decode prog_1_method_28_code 64 = .ok (.iload 4, 2) := by decide +kernel
theorem d_k_insertPending_66 : decode prog_1_method_28_code 66 = .ok (.istore_n 1, 1) := by decide +kernel
theorem d_k_insertPending_67 : decode prog_1_method_28_code 67 = .ok (.iinc 2 1, 3) := by decide +kernel
theorem d_k_insertPending_70 : decode prog_1_method_28_code 70 = .ok (.goto (-66), 3) := by decide +kernel
theorem d_k_insertPending_73 : decode prog_1_method_28_code 73 = .ok (.iload_n 1, 1) := by decide +kernel
theorem d_k_insertPending_74 : decode prog_1_method_28_code 74 = .ok (.ireturn, 1) := by decide +kernel
theorem d_k_insertPending_54 : decode prog_1_method_28_code 54 = .ok (.iconst (-1), 1) := by decide +kernel
theorem d_k_insertPending_55 : decode prog_1_method_28_code 55 = .ok (.ireturn, 1) := by decide +kernel
def R_k_insertPending : Room := { frames := 1, cells := 0, slots := 0, locals := 16 }
abbrev G_k_insertPending (l : Launch) (Z : State) (n0 : Nat) (P : Heap → Prop) := Go l Z D n0 P (⟨"FuzzyLexicon", "insertPending", "()I"⟩ : MethodName) prog_1_method_28_code 5 (some .int) R_k_insertPending
theorem pd_k_insertPending : parseMethodDescriptor "()I" = some ⟨[], some .int⟩ := by decide +kernel
theorem d_k_commit_0 : decode prog_1_method_6_code 0 = .ok (.aload_n 0, 1) := by decide +kernel
theorem d_k_commit_1 : decode prog_1_method_6_code 1 = .ok (.getfield 75, 3) := by decide +kernel
theorem d_k_commit_4 : decode prog_1_method_6_code 4 = .ok (.ifCond .ne 5, 3) := by decide +kernel
theorem d_k_commit_7 : decode prog_1_method_6_code 7 = .ok (.iconst (-1), 1) := by decide +kernel
theorem d_k_commit_8 : decode prog_1_method_6_code 8 = .ok (.ireturn, 1) := by decide +kernel
theorem d_k_commit_9 : decode prog_1_method_6_code 9 = .ok (.iload_n 1, 1) := by decide +kernel
theorem d_k_commit_10 : decode prog_1_method_6_code 10 = .ok (.iconst 1, 1) := by decide +kernel
theorem d_k_commit_11 : decode prog_1_method_6_code 11 = .ok (.if_icmp .lt 9, 3) := by decide +kernel
theorem d_k_commit_20 : decode prog_1_method_6_code 20 = .ok (.bipush (-2), 2) := by decide +kernel
theorem d_k_commit_22 : decode prog_1_method_6_code 22 = .ok (.ireturn, 1) := by decide +kernel
theorem d_k_commit_14 : decode prog_1_method_6_code 14 = .ok (.iload_n 1, 1) := by decide +kernel
theorem d_k_commit_15 : decode prog_1_method_6_code 15 = .ok (.ldc 94, 2) := by decide +kernel
theorem d_k_commit_17 : decode prog_1_method_6_code 17 = .ok (.if_icmp .le 6, 3) := by decide +kernel
theorem d_k_commit_23 : decode prog_1_method_6_code 23 = .ok (.aload_n 0, 1) := by decide +kernel
theorem d_k_commit_24 : decode prog_1_method_6_code 24 = .ok (.invokevirtual 95, 3) := by decide +kernel
theorem d_k_commit_27 : decode prog_1_method_6_code 27 = .ok (.istore_n 2, 1) := by decide +kernel
theorem d_k_commit_28 : decode prog_1_method_6_code 28 = .ok (.iload_n 2, 1) := by decide +kernel
theorem d_k_commit_29 : decode prog_1_method_6_code 29 = .ok (.ifCond .le 36, 3) := by decide +kernel
theorem d_k_commit_65 : decode prog_1_method_6_code 65 = .ok (.aload_n 0, 1) := by decide +kernel
theorem d_k_commit_66 : decode prog_1_method_6_code 66 = .ok (.getfield 69, 3) := by decide +kernel
theorem d_k_commit_69 : decode prog_1_method_6_code 69 = .ok (.aload_n 0, 1) := by decide +kernel
theorem d_k_commit_70 : decode prog_1_method_6_code 70 = .ok (.getfield 65, 3) := by decide +kernel
theorem d_k_commit_73 : decode prog_1_method_6_code 73 = .ok (.if_icmp .ge 14, 3) := by decide +kernel
theorem d_k_commit_76 : decode prog_1_method_6_code 76 = .ok (.aload_n 0, 1) := by decide +kernel
theorem d_k_commit_77 : decode prog_1_method_6_code 77 = .ok (.aload_n 0, 1) := by decide +kernel
theorem d_k_commit_78 : decode prog_1_method_6_code 78 = .ok (.getfield 75, 3) := by decide +kernel
theorem d_k_commit_81 : decode prog_1_method_6_code 81 = .ok (.invokevirtual 103, 3) := by decide +kernel
theorem d_k_commit_84 : decode prog_1_method_6_code 84 = .ok (.ifCond .ne 6, 3) := by decide +kernel
theorem d_k_commit_87 : decode prog_1_method_6_code 87 = .ok (.bipush (-3), 2) := by decide +kernel
theorem d_k_commit_89 : decode prog_1_method_6_code 89 = .ok (.ireturn, 1) := by decide +kernel
theorem d_k_commit_90 : decode prog_1_method_6_code 90 = .ok (.aload_n 0, 1) := by decide +kernel
theorem d_k_commit_91 : decode prog_1_method_6_code 91 = .ok (.invokevirtual 106, 3) := by decide +kernel
theorem d_k_commit_94 : decode prog_1_method_6_code 94 = .ok (.istore_n 2, 1) := by decide +kernel
theorem d_k_commit_95 : decode prog_1_method_6_code 95 = .ok (.iload_n 2, 1) := by decide +kernel
theorem d_k_commit_96 : decode prog_1_method_6_code 96 = .ok (.ifCond .gt 6, 3) := by decide +kernel
theorem d_k_commit_102 : decode prog_1_method_6_code 102 = .ok (.aload_n 0, 1) := by decide +kernel
theorem d_k_commit_103 : decode prog_1_method_6_code 103 = .ok (.getfield 13, 3) := by decide +kernel
theorem d_k_commit_106 : decode prog_1_method_6_code 106 = .ok (.iload_n 2, 1) := by decide +kernel
theorem d_k_commit_107 : decode prog_1_method_6_code 107 = .ok (.iload_n 1, 1) := by decide +kernel
theorem d_k_commit_108 : decode prog_1_method_6_code 108 = .ok (.iastore, 1) := by decide +kernel
theorem d_k_commit_109 : decode prog_1_method_6_code 109 = .ok (.aload_n 0, 1) := by decide +kernel
theorem d_k_commit_110 : decode prog_1_method_6_code 110 = .ok (.dup, 1) := by decide +kernel
theorem d_k_commit_111 : decode prog_1_method_6_code 111 = .ok (.getfield 69, 3) := by decide +kernel
theorem d_k_commit_114 : decode prog_1_method_6_code 114 = .ok (.iconst 1, 1) := by decide +kernel
theorem d_k_commit_115 : decode prog_1_method_6_code 115 = .ok (.iadd, 1) := by decide +kernel
theorem d_k_commit_116 : decode prog_1_method_6_code 116 = .ok (.putfield 69, 3) := by decide +kernel
theorem d_k_commit_119 : decode prog_1_method_6_code 119 = .ok (.aload_n 0, 1) := by decide +kernel
theorem d_k_commit_120 : decode prog_1_method_6_code 120 = .ok (.iconst 0, 1) := by decide +kernel
theorem d_k_commit_121 : decode prog_1_method_6_code 121 = .ok (.putfield 75, 3) := by decide +kernel
theorem d_k_commit_124 : decode prog_1_method_6_code 124 = .ok (.iconst 1, 1) := by decide +kernel
theorem d_k_commit_125 : decode prog_1_method_6_code 125 = .ok (.ireturn, 1) := by decide +kernel
theorem d_k_commit_99 : decode prog_1_method_6_code 99 = .ok (.bipush (-3), 2) := by decide +kernel
theorem d_k_commit_101 : decode prog_1_method_6_code 101 = .ok (.ireturn, 1) := by decide +kernel
theorem d_k_commit_32 : decode prog_1_method_6_code 32 = .ok (.aload_n 0, 1) := by decide +kernel
theorem d_k_commit_33 : decode prog_1_method_6_code 33 = .ok (.getfield 13, 3) := by decide +kernel
theorem d_k_commit_36 : decode prog_1_method_6_code 36 = .ok (.iload_n 2, 1) := by decide +kernel
theorem d_k_commit_37 : decode prog_1_method_6_code 37 = .ok (.iaload, 1) := by decide +kernel
theorem d_k_commit_38 : decode prog_1_method_6_code 38 = .ok (.ifCond .le 27, 3) := by decide +kernel
theorem d_k_commit_41 : decode prog_1_method_6_code 41 = .ok (.aload_n 0, 1) := by decide +kernel
theorem d_k_commit_42 : decode prog_1_method_6_code 42 = .ok (.getfield 13, 3) := by decide +kernel
theorem d_k_commit_45 : decode prog_1_method_6_code 45 = .ok (.iload_n 2, 1) := by decide +kernel
theorem d_k_commit_46 : decode prog_1_method_6_code 46 = .ok (.aload_n 0, 1) := by decide +kernel
theorem d_k_commit_47 : decode prog_1_method_6_code 47 = .ok (.aload_n 0, 1) := by decide +kernel
theorem d_k_commit_48 : decode prog_1_method_6_code 48 = .ok (.getfield 13, 3) := by decide +kernel
theorem d_k_commit_51 : decode prog_1_method_6_code 51 = .ok (.iload_n 2, 1) := by decide +kernel
theorem d_k_commit_52 : decode prog_1_method_6_code 52 = .ok (.iaload, 1) := by decide +kernel
theorem d_k_commit_53 : decode prog_1_method_6_code 53 = .ok (.iload_n 1, 1) := by decide +kernel
theorem d_k_commit_54 : decode prog_1_method_6_code 54 = .ok (.invokevirtual 99, 3) := by decide +kernel
theorem d_k_commit_57 : decode prog_1_method_6_code 57 = .ok (.iastore, 1) := by decide +kernel
theorem d_k_commit_58 : decode prog_1_method_6_code 58 = .ok (.aload_n 0, 1) := by decide +kernel
theorem d_k_commit_59 : decode prog_1_method_6_code 59 = .ok (.iconst 0, 1) := by decide +kernel
theorem d_k_commit_60 : decode prog_1_method_6_code 60 = .ok (.putfield 75, 3) := by decide +kernel
theorem d_k_commit_63 : decode prog_1_method_6_code 63 = .ok (.iconst 2, 1) := by decide +kernel
theorem d_k_commit_64 : decode prog_1_method_6_code 64 = .ok (.ireturn, 1) := by decide +kernel
def R_k_commit : Room := { frames := 2, cells := 0, slots := 0, locals := 32 }
abbrev G_k_commit (l : Launch) (Z : State) (n0 : Nat) (P : Heap → Prop) := Go l Z D n0 P (⟨"FuzzyLexicon", "commit", "(I)I"⟩ : MethodName) prog_1_method_6_code 3 (some .int) R_k_commit
theorem pd_k_commit : parseMethodDescriptor "(I)I" = some ⟨[.int], some .int⟩ := by decide +kernel
theorem d_k_pendClear_0 : decode prog_1_method_4_code 0 = .ok (.aload_n 0, 1) := by decide +kernel
theorem d_k_pendClear_1 : decode prog_1_method_4_code 1 = .ok (.iconst 0, 1) := by decide +kernel
theorem d_k_pendClear_2 : decode prog_1_method_4_code 2 = .ok (.putfield 75, 3) := by decide +kernel
theorem d_k_pendClear_5 : decode prog_1_method_4_code 5 = .ok (.return_, 1) := by decide +kernel
def R_k_pendClear : Room := { frames := 0, cells := 0, slots := 0, locals := 0 }
abbrev G_k_pendClear (l : Launch) (Z : State) (n0 : Nat) (P : Heap → Prop) := Go l Z D n0 P (⟨"FuzzyLexicon", "pendClear", "()V"⟩ : MethodName) prog_1_method_4_code 1 none R_k_pendClear
theorem pd_k_pendClear : parseMethodDescriptor "()V" = some ⟨[], none⟩ := by decide +kernel
theorem d_k_wordCount_0 : decode prog_1_method_8_code 0 = .ok (.aload_n 0, 1) := by decide +kernel
theorem d_k_wordCount_1 : decode prog_1_method_8_code 1 = .ok (.getfield 69, 3) := by decide +kernel
theorem d_k_wordCount_4 : decode prog_1_method_8_code 4 = .ok (.ireturn, 1) := by decide +kernel
def R_k_wordCount : Room := { frames := 0, cells := 0, slots := 0, locals := 0 }
abbrev G_k_wordCount (l : Launch) (Z : State) (n0 : Nat) (P : Heap → Prop) := Go l Z D n0 P (⟨"FuzzyLexicon", "wordCount", "()I"⟩ : MethodName) prog_1_method_8_code 1 (some .int) R_k_wordCount
theorem pd_k_wordCount : parseMethodDescriptor "()I" = some ⟨[], some .int⟩ := by decide +kernel
theorem d_k_pendingLength_0 : decode prog_1_method_5_code 0 = .ok (.aload_n 0, 1) := by decide +kernel
theorem d_k_pendingLength_1 : decode prog_1_method_5_code 1 = .ok (.getfield 75, 3) := by decide +kernel
theorem d_k_pendingLength_4 : decode prog_1_method_5_code 4 = .ok (.ireturn, 1) := by decide +kernel
def R_k_pendingLength : Room := { frames := 0, cells := 0, slots := 0, locals := 0 }
abbrev G_k_pendingLength (l : Launch) (Z : State) (n0 : Nat) (P : Heap → Prop) := Go l Z D n0 P (⟨"FuzzyLexicon", "pendingLength", "()I"⟩ : MethodName) prog_1_method_5_code 1 (some .int) R_k_pendingLength
theorem pd_k_pendingLength : parseMethodDescriptor "()I" = some ⟨[], some .int⟩ := by decide +kernel
theorem d_k_pendFreq_0 : decode prog_1_method_7_code 0 = .ok (.aload_n 0, 1) := by decide +kernel
theorem d_k_pendFreq_1 : decode prog_1_method_7_code 1 = .ok (.getfield 75, 3) := by decide +kernel
theorem d_k_pendFreq_4 : decode prog_1_method_7_code 4 = .ok (.ifCond .ne 5, 3) := by decide +kernel
theorem d_k_pendFreq_7 : decode prog_1_method_7_code 7 = .ok (.iconst 0, 1) := by decide +kernel
theorem d_k_pendFreq_8 : decode prog_1_method_7_code 8 = .ok (.ireturn, 1) := by decide +kernel
theorem d_k_pendFreq_9 : decode prog_1_method_7_code 9 = .ok (.aload_n 0, 1) := by decide +kernel
theorem d_k_pendFreq_10 : decode prog_1_method_7_code 10 = .ok (.invokevirtual 95, 3) := by decide +kernel
theorem d_k_pendFreq_13 : decode prog_1_method_7_code 13 = .ok (.istore_n 1, 1) := by decide +kernel
theorem d_k_pendFreq_14 : decode prog_1_method_7_code 14 = .ok (.iload_n 1, 1) := by decide +kernel
theorem d_k_pendFreq_15 : decode prog_1_method_7_code 15 = .ok (.ifCond .gt 5, 3) := by decide +kernel
theorem d_k_pendFreq_20 : decode prog_1_method_7_code 20 = .ok (.aload_n 0, 1) := by decide +kernel
theorem d_k_pendFreq_21 : decode prog_1_method_7_code 21 = .ok (.getfield 13, 3) := by decide +kernel
theorem d_k_pendFreq_24 : decode prog_1_method_7_code 24 = .ok (.iload_n 1, 1) := by decide +kernel
theorem d_k_pendFreq_25 : decode prog_1_method_7_code 25 = .ok (.iaload, 1) := by decide +kernel
theorem d_k_pendFreq_26 : decode prog_1_method_7_code 26 = .ok (.ireturn, 1) := by decide +kernel
theorem d_k_pendFreq_18 : decode prog_1_method_7_code 18 = .ok (.iconst 0, 1) := by decide +kernel
theorem d_k_pendFreq_19 : decode prog_1_method_7_code 19 = .ok (.ireturn, 1) := by decide +kernel
def R_k_pendFreq : Room := { frames := 2, cells := 0, slots := 0, locals := 29 }
abbrev G_k_pendFreq (l : Launch) (Z : State) (n0 : Nat) (P : Heap → Prop) := Go l Z D n0 P (⟨"FuzzyLexicon", "pendFreq", "()I"⟩ : MethodName) prog_1_method_7_code 2 (some .int) R_k_pendFreq
theorem pd_k_pendFreq : parseMethodDescriptor "()I" = some ⟨[], some .int⟩ := by decide +kernel
def R_u_law : Room := room_1
abbrev G_u_law (l : Launch) (Z : State) (n0 : Nat) (P : Heap → Prop) := Go l Z D n0 P x code maxLocals ret room_1
theorem pd_u_law : parseMethodDescriptor "(IIII)Z" = some ⟨[.int, .int, .int, .int], some .boolean⟩ := by decide +kernel
set_option maxRecDepth 65536 in
set_option maxHeartbeats 4000000 in
theorem th_k_clamp {l : Launch} {Z : State} {a0 : Array Value} (hw : ∀ d ∈ tables_1, d.before a0 Z = true) {n0 : Nat} {P : Heap → Prop} {b0 sz : Nat} {rr : Int} {O0 : Mo} {v1 v2 v3 : Int} (hf : k_clamp v1 v2 v3 = rr) :
    Meth l Z D n0 P (⟨"FuzzyLexicon", "clamp", "(III)I"⟩ : MethodName) prog_1_method_19_code 4 (some .int) R_k_clamp [vR b0, vI v1, vI v2, vI v3] [(b0, 17, O0)] sz (QM Z D n0 P (some (vI rr)) [(b0, 17, O0)] sz) := by
  refine Meth.of (plainFor_of_name pn_cls) (Nat.le_of_ble_eq_true rfl) ?_
  show G_k_clamp l Z n0 P 0 [some (vR b0), some (vI v1), some (vI v2), some (vI v3)] [] [(b0, 17, O0)] sz 0 0 (QM Z D n0 P (some (vI rr)) [(b0, 17, O0)] sz)
  unfold k_clamp at hf
  refine Go.iloadN (pc2 := 1) d_k_clamp_0 rfl rfl ?_
  refine Go.iloadN (pc2 := 2) d_k_clamp_1 rfl rfl ?_
  by_cases hc : v1 < v2
  · replace hf := ifp hc hf
    refine Go.icmpF (pc2 := 5) d_k_clamp_2 (Int.not_le.mpr hc) rfl ?_
    refine Go.iloadN (pc2 := 6) d_k_clamp_5 rfl rfl ?_
    cases hf
    exact Go.reti d_k_clamp_6 rfl (Nat.le_of_ble_eq_true rfl) (Nat.le_of_ble_eq_true rfl) (fun _ H => ⟨rfl, H⟩)
  · replace hf := ifn hc hf
    refine Go.icmpT (pc2 := 7) d_k_clamp_2 (Int.not_lt.mp hc) (by decide) (by decide) ?_
    refine Go.iloadN (pc2 := 8) d_k_clamp_7 rfl rfl ?_
    refine Go.iloadN (pc2 := 9) d_k_clamp_8 rfl rfl ?_
    by_cases hc : v1 ≤ v3
    · replace hf := ifp hc hf
      refine Go.icmpT (pc2 := 14) d_k_clamp_9 hc (by decide) (by decide) ?_
      refine Go.iloadN (pc2 := 15) d_k_clamp_14 rfl rfl ?_
      cases hf
      exact Go.reti d_k_clamp_15 rfl (Nat.le_of_ble_eq_true rfl) (Nat.le_of_ble_eq_true rfl) (fun _ H => ⟨rfl, H⟩)
    · replace hf := ifn hc hf
      refine Go.icmpF (pc2 := 12) d_k_clamp_9 hc rfl ?_
      refine Go.iloadN (pc2 := 13) d_k_clamp_12 rfl rfl ?_
      cases hf
      exact Go.reti d_k_clamp_13 rfl (Nat.le_of_ble_eq_true rfl) (Nat.le_of_ble_eq_true rfl) (fun _ H => ⟨rfl, H⟩)
set_option maxRecDepth 65536 in
set_option maxHeartbeats 4000000 in
theorem th_k_ctor {l : Launch} {Z : State} {a0 : Array Value} (hw : ∀ d ∈ tables_1, d.before a0 Z = true) {n0 : Nat} {P : Heap → Prop} {F : Nat} {b0 : Nat} {Oz0 : Mo} {v1 : Int} (hf : k_ctor F v1 = some Oz0) :
    Meth l Z D n0 P (⟨"FuzzyLexicon", "<init>", "(I)V"⟩ : MethodName) prog_1_method_1_code 2 none R_k_ctor [vR b0, vI v1] [(b0, 0, zM)] (b0 + 1) (QM Z D n0 P none [(b0, 17, Oz0)] (b0 + 18)) := by
  refine Meth.of (plainFor_of_name pn_cls) (Nat.le_of_ble_eq_true rfl) ?_
  show G_k_ctor l Z n0 P 0 [some (vR b0), some (vI v1)] [] [(b0, 0, zM)] ((b0 + 1)) 0 0 (QM Z D n0 P none [(b0, 17, Oz0)] (b0 + 18))
  unfold k_ctor at hf
  refine Go.aloadN (pc2 := 1) d_k_ctor_0 rfl rfl ?_
  refine Go.inito (pc2 := 4) d_k_ctor_1 rfl rfl (by exact w_6 hw) (by exact w_7 hw) (by exact w_8 hw) (by decide) (Nat.le_of_ble_eq_true rfl) ?_
  refine Go.aloadN (pc2 := 5) d_k_ctor_4 rfl rfl ?_
  refine Go.sipush (pc2 := 8) d_k_ctor_5 rfl (by decide) ?_
  refine Go.mkarr (pc3 := 10) (pc2 := 13) (cw_ok hw) d_k_ctor_8 d_k_ctor_10 rfl rfl (by exact w_9 hw) rfl D_C (by exact w_10 hw) (by exact Or.inr ⟨w_11 hw, rfl, rfl⟩) (by exact w_1 hw) (q := 0) rfl (len := 6656) rfl rfl (fun _ => rfl) rfl (by decide) (by decide) (os2 := [(b0, 1, zM)]) rfl (sz2 := (b0 + 2)) rfl (cu2 := 1) rfl (su2 := 6656) rfl ?_
  refine Go.aloadN (pc2 := 14) d_k_ctor_13 rfl rfl ?_
  refine Go.sipush (pc2 := 17) d_k_ctor_14 rfl (by decide) ?_
  refine Go.mkarr (pc3 := 19) (pc2 := 22) (cw_ok hw) d_k_ctor_17 d_k_ctor_19 rfl rfl (by exact w_9 hw) rfl D_C (by exact w_12 hw) (by exact Or.inr ⟨w_13 hw, rfl, rfl⟩) (by exact w_1 hw) (q := 0) rfl (len := 256) rfl rfl (fun _ => rfl) rfl (by decide) (by decide) (os2 := [(b0, 2, zM)]) rfl (sz2 := (b0 + 3)) rfl (cu2 := 2) rfl (su2 := 6912) rfl ?_
  refine Go.aloadN (pc2 := 23) d_k_ctor_22 rfl rfl ?_
  refine Go.sipush (pc2 := 26) d_k_ctor_23 rfl (by decide) ?_
  refine Go.mkarr (pc3 := 28) (pc2 := 31) (cw_ok hw) d_k_ctor_26 d_k_ctor_28 rfl rfl (by exact w_9 hw) rfl D_C (by exact w_14 hw) (by exact Or.inr ⟨w_15 hw, rfl, rfl⟩) (by exact w_1 hw) (q := 0) rfl (len := 256) rfl rfl (fun _ => rfl) rfl (by decide) (by decide) (os2 := [(b0, 3, zM)]) rfl (sz2 := (b0 + 4)) rfl (cu2 := 3) rfl (su2 := 7168) rfl ?_
  refine Go.aloadN (pc2 := 32) d_k_ctor_31 rfl rfl ?_
  refine Go.sipush (pc2 := 35) d_k_ctor_32 rfl (by decide) ?_
  refine Go.mkarr (pc3 := 37) (pc2 := 40) (cw_ok hw) d_k_ctor_35 d_k_ctor_37 rfl rfl (by exact w_9 hw) rfl D_C (by exact w_16 hw) (by exact Or.inr ⟨w_17 hw, rfl, rfl⟩) (by exact w_1 hw) (q := 0) rfl (len := 256) rfl rfl (fun _ => rfl) rfl (by decide) (by decide) (os2 := [(b0, 4, zM)]) rfl (sz2 := (b0 + 5)) rfl (cu2 := 4) rfl (su2 := 7424) rfl ?_
  refine Go.aloadN (pc2 := 41) d_k_ctor_40 rfl rfl ?_
  refine Go.sipush (pc2 := 44) d_k_ctor_41 rfl (by decide) ?_
  refine Go.mkarr (pc3 := 46) (pc2 := 49) (cw_ok hw) d_k_ctor_44 d_k_ctor_46 rfl rfl (by exact w_9 hw) rfl D_C (by exact w_18 hw) (by exact Or.inr ⟨w_19 hw, rfl, rfl⟩) (by exact w_1 hw) (q := 0) rfl (len := 256) rfl rfl (fun _ => rfl) rfl (by decide) (by decide) (os2 := [(b0, 5, zM)]) rfl (sz2 := (b0 + 6)) rfl (cu2 := 5) rfl (su2 := 7680) rfl ?_
  refine Go.aloadN (pc2 := 50) d_k_ctor_49 rfl rfl ?_
  refine Go.bipush (pc2 := 52) d_k_ctor_50 rfl (by decide) ?_
  refine Go.mkarr (pc3 := 54) (pc2 := 57) (cw_ok hw) d_k_ctor_52 d_k_ctor_54 rfl rfl (by exact w_9 hw) rfl D_C (by exact w_20 hw) (by exact Or.inr ⟨w_21 hw, rfl, rfl⟩) (by exact w_1 hw) (q := 0) rfl (len := 12) rfl rfl (fun _ => rfl) rfl (by decide) (by decide) (os2 := [(b0, 6, zM)]) rfl (sz2 := (b0 + 7)) rfl (cu2 := 6) rfl (su2 := 7692) rfl ?_
  refine Go.aloadN (pc2 := 58) d_k_ctor_57 rfl rfl ?_
  refine Go.bipush (pc2 := 60) d_k_ctor_58 rfl (by decide) ?_
  refine Go.mkarr (pc3 := 62) (pc2 := 65) (cw_ok hw) d_k_ctor_60 d_k_ctor_62 rfl rfl (by exact w_9 hw) rfl D_C (by exact w_22 hw) (by exact Or.inr ⟨w_23 hw, rfl, rfl⟩) (by exact w_1 hw) (q := 0) rfl (len := 12) rfl rfl (fun _ => rfl) rfl (by decide) (by decide) (os2 := [(b0, 7, zM)]) rfl (sz2 := (b0 + 8)) rfl (cu2 := 7) rfl (su2 := 7704) rfl ?_
  refine Go.aloadN (pc2 := 66) d_k_ctor_65 rfl rfl ?_
  refine Go.sipush (pc2 := 69) d_k_ctor_66 rfl (by decide) ?_
  refine Go.mkarr (pc3 := 71) (pc2 := 74) (cw_ok hw) d_k_ctor_69 d_k_ctor_71 rfl rfl (by exact w_9 hw) rfl D_C (by exact w_24 hw) (by exact Or.inr ⟨w_25 hw, rfl, rfl⟩) (by exact w_1 hw) (q := 0) rfl (len := 169) rfl rfl (fun _ => rfl) rfl (by decide) (by decide) (os2 := [(b0, 8, zM)]) rfl (sz2 := (b0 + 9)) rfl (cu2 := 8) rfl (su2 := 7873) rfl ?_
  refine Go.aloadN (pc2 := 75) d_k_ctor_74 rfl rfl ?_
  refine Go.bipush (pc2 := 77) d_k_ctor_75 rfl (by decide) ?_
  refine Go.mkarr (pc3 := 79) (pc2 := 82) (cw_ok hw) d_k_ctor_77 d_k_ctor_79 rfl rfl (by exact w_9 hw) rfl D_C (by exact w_26 hw) (by exact Or.inr ⟨w_27 hw, rfl, rfl⟩) (by exact w_1 hw) (q := 0) rfl (len := 13) rfl rfl (fun _ => rfl) rfl (by decide) (by decide) (os2 := [(b0, 9, zM)]) rfl (sz2 := (b0 + 10)) rfl (cu2 := 9) rfl (su2 := 7886) rfl ?_
  refine Go.aloadN (pc2 := 83) d_k_ctor_82 rfl rfl ?_
  refine Go.bipush (pc2 := 85) d_k_ctor_83 rfl (by decide) ?_
  refine Go.mkarr (pc3 := 87) (pc2 := 90) (cw_ok hw) d_k_ctor_85 d_k_ctor_87 rfl rfl (by exact w_9 hw) rfl D_C (by exact w_28 hw) (by exact Or.inr ⟨w_29 hw, rfl, rfl⟩) (by exact w_1 hw) (q := 0) rfl (len := 13) rfl rfl (fun _ => rfl) rfl (by decide) (by decide) (os2 := [(b0, 10, zM)]) rfl (sz2 := (b0 + 11)) rfl (cu2 := 10) rfl (su2 := 7899) rfl ?_
  refine Go.aloadN (pc2 := 91) d_k_ctor_90 rfl rfl ?_
  refine Go.bipush (pc2 := 93) d_k_ctor_91 rfl (by decide) ?_
  refine Go.mkarr (pc3 := 95) (pc2 := 98) (cw_ok hw) d_k_ctor_93 d_k_ctor_95 rfl rfl (by exact w_9 hw) rfl D_C (by exact w_30 hw) (by exact Or.inr ⟨w_31 hw, rfl, rfl⟩) (by exact w_1 hw) (q := 0) rfl (len := 20) rfl rfl (fun _ => rfl) rfl (by decide) (by decide) (os2 := [(b0, 11, zM)]) rfl (sz2 := (b0 + 12)) rfl (cu2 := 11) rfl (su2 := 7919) rfl ?_
  refine Go.aloadN (pc2 := 99) d_k_ctor_98 rfl rfl ?_
  refine Go.bipush (pc2 := 101) d_k_ctor_99 rfl (by decide) ?_
  refine Go.mkarr (pc3 := 103) (pc2 := 106) (cw_ok hw) d_k_ctor_101 d_k_ctor_103 rfl rfl (by exact w_9 hw) rfl D_C (by exact w_32 hw) (by exact Or.inr ⟨w_33 hw, rfl, rfl⟩) (by exact w_1 hw) (q := 0) rfl (len := 20) rfl rfl (fun _ => rfl) rfl (by decide) (by decide) (os2 := [(b0, 12, zM)]) rfl (sz2 := (b0 + 13)) rfl (cu2 := 12) rfl (su2 := 7939) rfl ?_
  refine Go.aloadN (pc2 := 107) d_k_ctor_106 rfl rfl ?_
  refine Go.bipush (pc2 := 109) d_k_ctor_107 rfl (by decide) ?_
  refine Go.mkarr (pc3 := 111) (pc2 := 114) (cw_ok hw) d_k_ctor_109 d_k_ctor_111 rfl rfl (by exact w_9 hw) rfl D_C (by exact w_34 hw) (by exact Or.inr ⟨w_35 hw, rfl, rfl⟩) (by exact w_1 hw) (q := 0) rfl (len := 20) rfl rfl (fun _ => rfl) rfl (by decide) (by decide) (os2 := [(b0, 13, zM)]) rfl (sz2 := (b0 + 14)) rfl (cu2 := 13) rfl (su2 := 7959) rfl ?_
  refine Go.aloadN (pc2 := 115) d_k_ctor_114 rfl rfl ?_
  refine Go.sipush (pc2 := 118) d_k_ctor_115 rfl (by decide) ?_
  refine Go.mkarr (pc3 := 120) (pc2 := 123) (cw_ok hw) d_k_ctor_118 d_k_ctor_120 rfl rfl (by exact w_9 hw) rfl D_C (by exact w_36 hw) (by exact Or.inr ⟨w_37 hw, rfl, rfl⟩) (by exact w_1 hw) (q := 0) rfl (len := 240) rfl rfl (fun _ => rfl) rfl (by decide) (by decide) (os2 := [(b0, 14, zM)]) rfl (sz2 := (b0 + 15)) rfl (cu2 := 14) rfl (su2 := 8199) rfl ?_
  refine Go.aloadN (pc2 := 124) d_k_ctor_123 rfl rfl ?_
  refine Go.bipush (pc2 := 126) d_k_ctor_124 rfl (by decide) ?_
  refine Go.mkarr (pc3 := 128) (pc2 := 131) (cw_ok hw) d_k_ctor_126 d_k_ctor_128 rfl rfl (by exact w_9 hw) rfl D_C (by exact w_38 hw) (by exact Or.inr ⟨w_39 hw, rfl, rfl⟩) (by exact w_1 hw) (q := 0) rfl (len := 20) rfl rfl (fun _ => rfl) rfl (by decide) (by decide) (os2 := [(b0, 15, zM)]) rfl (sz2 := (b0 + 16)) rfl (cu2 := 15) rfl (su2 := 8219) rfl ?_
  refine Go.aloadN (pc2 := 132) d_k_ctor_131 rfl rfl ?_
  refine Go.bipush (pc2 := 134) d_k_ctor_132 rfl (by decide) ?_
  refine Go.mkarr (pc3 := 136) (pc2 := 139) (cw_ok hw) d_k_ctor_134 d_k_ctor_136 rfl rfl (by exact w_9 hw) rfl D_C (by exact w_40 hw) (by exact Or.inr ⟨w_41 hw, rfl, rfl⟩) (by exact w_1 hw) (q := 0) rfl (len := 20) rfl rfl (fun _ => rfl) rfl (by decide) (by decide) (os2 := [(b0, 16, zM)]) rfl (sz2 := (b0 + 17)) rfl (cu2 := 16) rfl (su2 := 8239) rfl ?_
  refine Go.aloadN (pc2 := 140) d_k_ctor_139 rfl rfl ?_
  refine Go.bipush (pc2 := 142) d_k_ctor_140 rfl (by decide) ?_
  refine Go.mkarr (pc3 := 144) (pc2 := 147) (cw_ok hw) d_k_ctor_142 d_k_ctor_144 rfl rfl (by exact w_9 hw) rfl D_C (by exact w_42 hw) (by exact Or.inr ⟨w_43 hw, rfl, rfl⟩) (by exact w_1 hw) (q := 0) rfl (len := 20) rfl rfl (fun _ => rfl) rfl (by decide) (by decide) (os2 := [(b0, 17, zM)]) rfl (sz2 := (b0 + 18)) rfl (cu2 := 17) rfl (su2 := 8259) rfl ?_
  refine Go.aloadN (pc2 := 148) d_k_ctor_147 rfl rfl ?_
  refine Go.aloadN (pc2 := 149) d_k_ctor_148 rfl rfl ?_
  refine Go.iloadN (pc2 := 150) d_k_ctor_149 rfl rfl ?_
  refine Go.iconst (pc2 := 151) d_k_ctor_150 rfl (by decide) ?_
  refine Go.bipush (pc2 := 153) d_k_ctor_151 rfl (by decide) ?_
  refine Go.callp (pc2 := 156) (as := [vI v1, vI 1, vI 20]) (S := [vR b0]) (w := (some (vI (k_clamp v1 1 20)))) (os2 := [(b0, 17, zM)]) (sz2 := (b0 + 18)) (S2 := [vI (k_clamp v1 1 20), vR b0]) (rm := R_k_clamp) d_k_ctor_153 rfl rfl (by exact w_44 hw) (by exact w_46 hw) (by exact w_45 hw) (by exact w_47 hw) rfl (by exact w_2 hw) (by exact w_1 hw) (q := 0) rfl (by decide) pd_k_clamp (by decide) (Nat.le_of_ble_eq_true rfl) (by decide) (by decide) (nc := 0) (ns := 0) rfl rfl rfl (cu2 := 17) rfl (su2 := 8259) rfl rfl (Pays.one (q := 0) rfl rfl (fun P2 hP2 => th_k_clamp hw rfl)) rfl ?_
  refine Go.putf (pc2 := 159) (cw_ok hw) d_k_ctor_156 rfl rfl D_C (by exact w_48 hw) (by exact Or.inl (w_49 hw)) (by exact w_1 hw) (q := 0) rfl (x := k_clamp v1 1 20) (x' := k_clamp v1 1 20) (fs_cap) rfl rfl (os2 := [(b0, 17, (upd zM 0 0 (k_clamp v1 1 20)))]) rfl ?_
  refine Go.aloadN (pc2 := 160) d_k_ctor_159 rfl rfl ?_
  refine Go.iconst (pc2 := 161) d_k_ctor_160 rfl (by decide) ?_
  refine Go.putf (pc2 := 164) (cw_ok hw) d_k_ctor_161 rfl rfl D_C (by exact w_50 hw) (by exact Or.inl (w_51 hw)) (by exact w_1 hw) (q := 0) rfl (x := 0) (x' := 0) (fs_words) rfl rfl (os2 := [(b0, 17, (upd (upd zM 0 0 (k_clamp v1 1 20)) 0 1 0))]) rfl ?_
  refine Go.aloadN (pc2 := 165) d_k_ctor_164 rfl rfl ?_
  refine Go.iconst (pc2 := 166) d_k_ctor_165 rfl (by decide) ?_
  refine Go.putf (pc2 := 169) (cw_ok hw) d_k_ctor_166 rfl rfl D_C (by exact w_52 hw) (by exact Or.inl (w_53 hw)) (by exact w_1 hw) (q := 0) rfl (x := 1) (x' := 1) (fs_nodeCount) rfl rfl (os2 := [(b0, 17, (upd (upd (upd zM 0 0 (k_clamp v1 1 20)) 0 1 0) 0 2 1))]) rfl ?_
  refine Go.aloadN (pc2 := 170) d_k_ctor_169 rfl rfl ?_
  refine Go.geta (pc2 := 173) d_k_ctor_170 rfl rfl D_C (by exact w_14 hw) (q := 0) rfl (j := 2) rfl (Nat.le_of_ble_eq_true rfl) rfl ?_
  refine Go.iconst (pc2 := 174) d_k_ctor_173 rfl (by decide) ?_
  refine Go.iconst (pc2 := 175) d_k_ctor_174 rfl (by decide) ?_
  refine Go.iast (pc2 := 176) d_k_ctor_175 rfl (q := 0) rfl (j := 2) rfl (Nat.le_of_ble_eq_true rfl) rfl (by decide) (z := 0) (z' := 0) rfl (os2 := [(b0, 17, (upd (upd (upd (upd zM 0 0 (k_clamp v1 1 20)) 0 1 0) 0 2 1) 3 0 0))]) rfl ?_
  refine Go.aloadN (pc2 := 177) d_k_ctor_176 rfl rfl ?_
  refine Go.geta (pc2 := 180) d_k_ctor_177 rfl rfl D_C (by exact w_18 hw) (q := 0) rfl (j := 4) rfl (Nat.le_of_ble_eq_true rfl) rfl ?_
  refine Go.iconst (pc2 := 181) d_k_ctor_180 rfl (by decide) ?_
  refine Go.iconst (pc2 := 182) d_k_ctor_181 rfl (by decide) ?_
  refine Go.iast (pc2 := 183) d_k_ctor_182 rfl (q := 0) rfl (j := 4) rfl (Nat.le_of_ble_eq_true rfl) rfl (by decide) (z := 0) (z' := 0) rfl (os2 := [(b0, 17, (upd (upd (upd (upd (upd zM 0 0 (k_clamp v1 1 20)) 0 1 0) 0 2 1) 3 0 0) 5 0 0))]) rfl ?_
  refine Go.aloadN (pc2 := 184) d_k_ctor_183 rfl rfl ?_
  refine Go.geta (pc2 := 187) d_k_ctor_184 rfl rfl D_C (by exact w_12 hw) (q := 0) rfl (j := 1) rfl (Nat.le_of_ble_eq_true rfl) rfl ?_
  refine Go.iconst (pc2 := 188) d_k_ctor_187 rfl (by decide) ?_
  refine Go.iconst (pc2 := 189) d_k_ctor_188 rfl (by decide) ?_
  refine Go.iast (pc2 := 190) d_k_ctor_189 rfl (q := 0) rfl (j := 1) rfl (Nat.le_of_ble_eq_true rfl) rfl (by decide) (z := 0) (z' := 0) rfl (os2 := [(b0, 17, (upd (upd (upd (upd (upd (upd zM 0 0 (k_clamp v1 1 20)) 0 1 0) 0 2 1) 3 0 0) 5 0 0) 2 0 0))]) rfl ?_
  refine Go.aloadN (pc2 := 191) d_k_ctor_190 rfl rfl ?_
  refine Go.iconst (pc2 := 192) d_k_ctor_191 rfl (by decide) ?_
  refine Go.putf (pc2 := 195) (cw_ok hw) d_k_ctor_192 rfl rfl D_C (by exact w_54 hw) (by exact Or.inl (w_55 hw)) (by exact w_1 hw) (q := 0) rfl (x := 0) (x' := 0) (fs_pendLen) rfl rfl (os2 := [(b0, 17, (upd (upd (upd (upd (upd (upd (upd zM 0 0 (k_clamp v1 1 20)) 0 1 0) 0 2 1) 3 0 0) 5 0 0) 2 0 0) 0 3 0))]) rfl ?_
  refine Go.aloadN (pc2 := 196) d_k_ctor_195 rfl rfl ?_
  refine Go.iconst (pc2 := 197) d_k_ctor_196 rfl (by decide) ?_
  refine Go.putf (pc2 := 200) (cw_ok hw) d_k_ctor_197 rfl rfl D_C (by exact w_56 hw) (by exact Or.inl (w_57 hw)) (by exact w_1 hw) (q := 0) rfl (x := 0) (x' := 0) (fs_queryLen) rfl rfl (os2 := [(b0, 17, (upd (upd (upd (upd (upd (upd (upd (upd zM 0 0 (k_clamp v1 1 20)) 0 1 0) 0 2 1) 3 0 0) 5 0 0) 2 0 0) 0 3 0) 0 4 0))]) rfl ?_
  refine Go.aloadN (pc2 := 201) d_k_ctor_200 rfl rfl ?_
  refine Go.iconst (pc2 := 202) d_k_ctor_201 rfl (by decide) ?_
  refine Go.putf (pc2 := 205) (cw_ok hw) d_k_ctor_202 rfl rfl D_C (by exact w_58 hw) (by exact Or.inl (w_59 hw)) (by exact w_1 hw) (q := 0) rfl (x := 0) (x' := 0) (fs_resCount) rfl rfl (os2 := [(b0, 17, (upd (upd (upd (upd (upd (upd (upd (upd (upd zM 0 0 (k_clamp v1 1 20)) 0 1 0) 0 2 1) 3 0 0) 5 0 0) 2 0 0) 0 3 0) 0 4 0) 0 7 0))]) rfl ?_
  refine Go.aloadN (pc2 := 206) d_k_ctor_205 rfl rfl ?_
  refine Go.iconst (pc2 := 207) d_k_ctor_206 rfl (by decide) ?_
  refine Go.putf (pc2 := 210) (cw_ok hw) d_k_ctor_207 rfl rfl D_C (by exact w_60 hw) (by exact Or.inl (w_61 hw)) (by exact w_1 hw) (q := 0) rfl (x := 0) (x' := 0) (fs_candCount) rfl rfl (os2 := [(b0, 17, (upd (upd (upd (upd (upd (upd (upd (upd (upd (upd zM 0 0 (k_clamp v1 1 20)) 0 1 0) 0 2 1) 3 0 0) 5 0 0) 2 0 0) 0 3 0) 0 4 0) 0 7 0) 0 5 0))]) rfl ?_
  refine Go.aloadN (pc2 := 211) d_k_ctor_210 rfl rfl ?_
  refine Go.iconst (pc2 := 212) d_k_ctor_211 rfl (by decide) ?_
  refine Go.putf (pc2 := 215) (cw_ok hw) d_k_ctor_212 rfl rfl D_C (by exact w_62 hw) (by exact Or.inl (w_63 hw)) (by exact w_1 hw) (q := 0) rfl (x := 0) (x' := 0) (fs_searchK) rfl rfl (os2 := [(b0, 17, (upd (upd (upd (upd (upd (upd (upd (upd (upd (upd (upd zM 0 0 (k_clamp v1 1 20)) 0 1 0) 0 2 1) 3 0 0) 5 0 0) 2 0 0) 0 3 0) 0 4 0) 0 7 0) 0 5 0) 0 6 0))]) rfl ?_
  cases hf
  exact Go.retv d_k_ctor_215 rfl (Nat.le_of_ble_eq_true rfl) (Nat.le_of_ble_eq_true rfl) (fun _ H => ⟨rfl, H⟩)
set_option maxRecDepth 65536 in
set_option maxHeartbeats 4000000 in
theorem th_k_isLetter {l : Launch} {Z : State} {a0 : Array Value} (hw : ∀ d ∈ tables_1, d.before a0 Z = true) {n0 : Nat} {P : Heap → Prop} {b0 sz : Nat} {rr : Int} {O0 : Mo} {v1 : Int} (hf : k_isLetter v1 = rr) :
    Meth l Z D n0 P (⟨"FuzzyLexicon", "isLetter", "(I)Z"⟩ : MethodName) prog_1_method_18_code 2 (some .boolean) R_k_isLetter [vR b0, vI v1] [(b0, 17, O0)] sz (QM Z D n0 P (some (vI rr)) [(b0, 17, O0)] sz) := by
  refine Meth.of (plainFor_of_name pn_cls) (Nat.le_of_ble_eq_true rfl) ?_
  show G_k_isLetter l Z n0 P 0 [some (vR b0), some (vI v1)] [] [(b0, 17, O0)] sz 0 0 (QM Z D n0 P (some (vI rr)) [(b0, 17, O0)] sz)
  unfold k_isLetter at hf
  refine Go.iloadN (pc2 := 1) d_k_isLetter_0 rfl rfl ?_
  refine Go.bipush (pc2 := 3) d_k_isLetter_1 rfl (by decide) ?_
  by_cases hc : v1 < 97
  · replace hf := ifp hc hf
    refine Go.icmpT (pc2 := 16) d_k_isLetter_3 hc (by decide) (by decide) ?_
    refine Go.iconst (pc2 := 17) d_k_isLetter_16 rfl (by decide) ?_
    cases hf
    exact Go.retz d_k_isLetter_17 rfl rfl (Nat.le_of_ble_eq_true rfl) (Nat.le_of_ble_eq_true rfl) (fun _ H => ⟨rfl, H⟩)
  · replace hf := ifn hc hf
    refine Go.icmpF (pc2 := 6) d_k_isLetter_3 hc rfl ?_
    refine Go.iloadN (pc2 := 7) d_k_isLetter_6 rfl rfl ?_
    refine Go.bipush (pc2 := 9) d_k_isLetter_7 rfl (by decide) ?_
    by_cases hc : 122 < v1
    · replace hf := ifp hc hf
      refine Go.icmpT (pc2 := 16) d_k_isLetter_9 hc (by decide) (by decide) ?_
      refine Go.iconst (pc2 := 17) d_k_isLetter_16 rfl (by decide) ?_
      cases hf
      exact Go.retz d_k_isLetter_17 rfl rfl (Nat.le_of_ble_eq_true rfl) (Nat.le_of_ble_eq_true rfl) (fun _ H => ⟨rfl, H⟩)
    · replace hf := ifn hc hf
      refine Go.icmpF (pc2 := 12) d_k_isLetter_9 hc rfl ?_
      refine Go.iconst (pc2 := 13) d_k_isLetter_12 rfl (by decide) ?_
      refine Go.goto (pc2 := 17) d_k_isLetter_13 (by decide) (by decide) ?_
      cases hf
      exact Go.retz d_k_isLetter_17 rfl rfl (Nat.le_of_ble_eq_true rfl) (Nat.le_of_ble_eq_true rfl) (fun _ H => ⟨rfl, H⟩)
set_option maxRecDepth 65536 in
set_option maxHeartbeats 4000000 in
theorem th_k_pendChar {l : Launch} {Z : State} {a0 : Array Value} (hw : ∀ d ∈ tables_1, d.before a0 Z = true) {n0 : Nat} {P : Heap → Prop} {F : Nat} {b0 sz : Nat} {rr : Int} {Oz0 : Mo} {O0 : Mo} {v1 : Int} (hf : k_pendChar F O0 v1 = some ((rr, Oz0))) :
    Meth l Z D n0 P (⟨"FuzzyLexicon", "pendChar", "(I)Z"⟩ : MethodName) prog_1_method_3_code 2 (some .boolean) R_k_pendChar [vR b0, vI v1] [(b0, 17, O0)] sz (QM Z D n0 P (some (vI rr)) [(b0, 17, Oz0)] sz) := by
  refine Meth.of (plainFor_of_name pn_cls) (Nat.le_of_ble_eq_true rfl) ?_
  show G_k_pendChar l Z n0 P 0 [some (vR b0), some (vI v1)] [] [(b0, 17, O0)] sz 0 0 (QM Z D n0 P (some (vI rr)) [(b0, 17, Oz0)] sz)
  unfold k_pendChar at hf
  refine Go.aloadN (pc2 := 1) d_k_pendChar_0 rfl rfl ?_
  refine Go.iloadN (pc2 := 2) d_k_pendChar_1 rfl rfl ?_
  refine Go.callp (pc2 := 5) (as := [vI v1]) (S := []) (w := (some (vI (k_isLetter v1)))) (os2 := [(b0, 17, O0)]) (sz2 := sz) (S2 := [vI (k_isLetter v1)]) (rm := R_k_isLetter) d_k_pendChar_2 rfl rfl (by exact w_70 hw) (by exact w_72 hw) (by exact w_71 hw) (by exact w_73 hw) rfl (by exact w_2 hw) (by exact w_1 hw) (q := 0) rfl (by decide) pd_k_isLetter (by decide) (Nat.le_of_ble_eq_true rfl) (by decide) (by decide) (nc := 0) (ns := 0) rfl rfl rfl (cu2 := 0) rfl (su2 := 0) rfl rfl (Pays.one (q := 0) rfl rfl (fun P2 hP2 => th_k_isLetter hw rfl)) rfl ?_
  by_cases hc : k_isLetter v1 = 0
  · replace hf := ifp hc hf
    refine Go.ifF (pc2 := 8) d_k_pendChar_5 (fun q => q hc) rfl ?_
    refine Go.iconst (pc2 := 9) d_k_pendChar_8 rfl (by decide) ?_
    cases hf
    exact Go.retz d_k_pendChar_9 rfl rfl (Nat.le_of_ble_eq_true rfl) (Nat.le_of_ble_eq_true rfl) (fun _ H => ⟨rfl, H⟩)
  · replace hf := ifn hc hf
    refine Go.ifT (pc2 := 10) d_k_pendChar_5 hc (by decide) (by decide) ?_
    refine Go.aloadN (pc2 := 11) d_k_pendChar_10 rfl rfl ?_
    refine Go.getf (pc2 := 14) d_k_pendChar_11 rfl rfl D_C (by exact w_54 hw) (q := 0) rfl (x := O0 0 3) (u := vI (O0 0 3)) (fs_pendLen) rfl rfl ?_
    refine Go.bipush (pc2 := 16) d_k_pendChar_14 rfl (by decide) ?_
    by_cases hc : O0 0 3 < 12
    · replace hf := ifp hc hf
      refine Go.icmpT (pc2 := 21) d_k_pendChar_16 hc (by decide) (by decide) ?_
      refine Go.aloadN (pc2 := 22) d_k_pendChar_21 rfl rfl ?_
      refine Go.geta (pc2 := 25) d_k_pendChar_22 rfl rfl D_C (by exact w_20 hw) (q := 0) rfl (j := 5) rfl (Nat.le_of_ble_eq_true rfl) rfl ?_
      refine Go.aloadN (pc2 := 26) d_k_pendChar_25 rfl rfl ?_
      refine Go.getf (pc2 := 29) d_k_pendChar_26 rfl rfl D_C (by exact w_54 hw) (q := 0) rfl (x := O0 0 3) (u := vI (O0 0 3)) (fs_pendLen) rfl rfl ?_
      refine Go.iloadN (pc2 := 30) d_k_pendChar_29 rfl rfl ?_
      refine Go.bipush (pc2 := 32) d_k_pendChar_30 rfl (by decide) ?_
      refine Go.isub (pc2 := 33) d_k_pendChar_32 rfl ?_
      have hb := okb hf
      replace hf := ifp hb hf
      refine Go.iast (pc2 := 34) d_k_pendChar_33 rfl (q := 0) rfl (j := 5) rfl (Nat.le_of_ble_eq_true rfl) rfl hb (z := w32 (v1 - 97)) (z' := w32 (v1 - 97)) rfl (os2 := [(b0, 17, (upd O0 6 ((O0 0 3).toNat) (w32 (v1 - 97))))]) rfl ?_
      refine Go.aloadN (pc2 := 35) d_k_pendChar_34 rfl rfl ?_
      refine Go.dup (pc2 := 36) d_k_pendChar_35 rfl rfl ?_
      refine Go.getf (pc2 := 39) d_k_pendChar_36 rfl rfl D_C (by exact w_54 hw) (q := 0) rfl (x := O0 0 3) (u := vI (O0 0 3)) (fs_pendLen) rfl rfl ?_
      refine Go.iconst (pc2 := 40) d_k_pendChar_39 rfl (by decide) ?_
      refine Go.iadd (pc2 := 41) d_k_pendChar_40 rfl ?_
      refine Go.putf (pc2 := 44) (cw_ok hw) d_k_pendChar_41 rfl rfl D_C (by exact w_54 hw) (by exact Or.inl (w_55 hw)) (by exact w_1 hw) (q := 0) rfl (x := w32 ((O0 0 3) + 1)) (x' := w32 ((O0 0 3) + 1)) (fs_pendLen) rfl rfl (os2 := [(b0, 17, (upd (upd O0 6 ((O0 0 3).toNat) (w32 (v1 - 97))) 0 3 (w32 ((O0 0 3) + 1))))]) rfl ?_
      refine Go.iconst (pc2 := 45) d_k_pendChar_44 rfl (by decide) ?_
      cases hf
      exact Go.retz d_k_pendChar_45 rfl rfl (Nat.le_of_ble_eq_true rfl) (Nat.le_of_ble_eq_true rfl) (fun _ H => ⟨rfl, H⟩)
    · replace hf := ifn hc hf
      refine Go.icmpF (pc2 := 19) d_k_pendChar_16 hc rfl ?_
      refine Go.iconst (pc2 := 20) d_k_pendChar_19 rfl (by decide) ?_
      cases hf
      exact Go.retz d_k_pendChar_20 rfl rfl (Nat.le_of_ble_eq_true rfl) (Nat.le_of_ble_eq_true rfl) (fun _ H => ⟨rfl, H⟩)
set_option maxRecDepth 65536 in
set_option maxHeartbeats 4000000 in
theorem th_k_childAt {l : Launch} {Z : State} {a0 : Array Value} (hw : ∀ d ∈ tables_1, d.before a0 Z = true) {n0 : Nat} {P : Heap → Prop} {F : Nat} {b0 sz : Nat} {rr : Int} {O0 : Mo} {v1 v2 : Int} (hf : k_childAt F O0 v1 v2 = some rr) :
    Meth l Z D n0 P (⟨"FuzzyLexicon", "childAt", "(II)I"⟩ : MethodName) prog_1_method_23_code 3 (some .int) R_k_childAt [vR b0, vI v1, vI v2] [(b0, 17, O0)] sz (QM Z D n0 P (some (vI rr)) [(b0, 17, O0)] sz) := by
  refine Meth.of (plainFor_of_name pn_cls) (Nat.le_of_ble_eq_true rfl) ?_
  show G_k_childAt l Z n0 P 0 [some (vR b0), some (vI v1), some (vI v2)] [] [(b0, 17, O0)] sz 0 0 (QM Z D n0 P (some (vI rr)) [(b0, 17, O0)] sz)
  unfold k_childAt at hf
  refine Go.iloadN (pc2 := 1) d_k_childAt_0 rfl rfl ?_
  by_cases hc : v1 < 0
  · replace hf := ifp hc hf
    refine Go.ifT (pc2 := 21) d_k_childAt_1 hc (by decide) (by decide) ?_
    refine Go.iconst (pc2 := 22) d_k_childAt_21 rfl (by decide) ?_
    cases hf
    exact Go.reti d_k_childAt_22 rfl (Nat.le_of_ble_eq_true rfl) (Nat.le_of_ble_eq_true rfl) (fun _ H => ⟨rfl, H⟩)
  · replace hf := ifn hc hf
    refine Go.ifF (pc2 := 4) d_k_childAt_1 hc rfl ?_
    refine Go.iloadN (pc2 := 5) d_k_childAt_4 rfl rfl ?_
    refine Go.sipush (pc2 := 8) d_k_childAt_5 rfl (by decide) ?_
    by_cases hc : v1 < 256
    · replace hf := ifp hc hf
      refine Go.icmpF (pc2 := 11) d_k_childAt_8 (Int.not_le.mpr hc) rfl ?_
      refine Go.iloadN (pc2 := 12) d_k_childAt_11 rfl rfl ?_
      by_cases hc : v2 < 0
      · replace hf := ifp hc hf
        refine Go.ifT (pc2 := 21) d_k_childAt_12 hc (by decide) (by decide) ?_
        refine Go.iconst (pc2 := 22) d_k_childAt_21 rfl (by decide) ?_
        cases hf
        exact Go.reti d_k_childAt_22 rfl (Nat.le_of_ble_eq_true rfl) (Nat.le_of_ble_eq_true rfl) (fun _ H => ⟨rfl, H⟩)
      · replace hf := ifn hc hf
        refine Go.ifF (pc2 := 15) d_k_childAt_12 hc rfl ?_
        refine Go.iloadN (pc2 := 16) d_k_childAt_15 rfl rfl ?_
        refine Go.bipush (pc2 := 18) d_k_childAt_16 rfl (by decide) ?_
        by_cases hc : v2 < 26
        · replace hf := ifp hc hf
          refine Go.icmpT (pc2 := 23) d_k_childAt_18 hc (by decide) (by decide) ?_
          refine Go.aloadN (pc2 := 24) d_k_childAt_23 rfl rfl ?_
          refine Go.geta (pc2 := 27) d_k_childAt_24 rfl rfl D_C (by exact w_10 hw) (q := 0) rfl (j := 0) rfl (Nat.le_of_ble_eq_true rfl) rfl ?_
          refine Go.iloadN (pc2 := 28) d_k_childAt_27 rfl rfl ?_
          refine Go.bipush (pc2 := 30) d_k_childAt_28 rfl (by decide) ?_
          refine Go.imul (pc2 := 31) d_k_childAt_30 rfl ?_
          refine Go.iloadN (pc2 := 32) d_k_childAt_31 rfl rfl ?_
          refine Go.iadd (pc2 := 33) d_k_childAt_32 rfl ?_
          have hb := okb hf
          replace hf := ifp hb hf
          refine Go.iald (pc2 := 34) d_k_childAt_33 rfl (q := 0) rfl (j := 0) rfl (Nat.le_of_ble_eq_true rfl) rfl hb (z := O0 1 (w32 ((w32 (v1 * 26)) + v2)).toNat) rfl ?_
          cases hf
          exact Go.reti d_k_childAt_34 rfl (Nat.le_of_ble_eq_true rfl) (Nat.le_of_ble_eq_true rfl) (fun _ H => ⟨rfl, H⟩)
        · replace hf := ifn hc hf
          refine Go.icmpF (pc2 := 21) d_k_childAt_18 hc rfl ?_
          refine Go.iconst (pc2 := 22) d_k_childAt_21 rfl (by decide) ?_
          cases hf
          exact Go.reti d_k_childAt_22 rfl (Nat.le_of_ble_eq_true rfl) (Nat.le_of_ble_eq_true rfl) (fun _ H => ⟨rfl, H⟩)
    · replace hf := ifn hc hf
      refine Go.icmpT (pc2 := 21) d_k_childAt_8 (Int.not_lt.mp hc) (by decide) (by decide) ?_
      refine Go.iconst (pc2 := 22) d_k_childAt_21 rfl (by decide) ?_
      cases hf
      exact Go.reti d_k_childAt_22 rfl (Nat.le_of_ble_eq_true rfl) (Nat.le_of_ble_eq_true rfl) (fun _ H => ⟨rfl, H⟩)
set_option maxRecDepth 65536 in
set_option maxHeartbeats 4000000 in
theorem tb_k_findPending_4 {l : Launch} {Z : State} {a0 : Array Value} (hw : ∀ d ∈ tables_1, d.before a0 Z = true) {n0 : Nat} {P : Heap → Prop} {F : Nat} {b0 sz : Nat} {rr : Int} {O0 : Mo} {v1 v2 : Int} {x : (Int × Int) ⊕ (Unit ⊕ Int)} (hf : b_k_findPending_4 F O0 v1 v2 = some x) (K : Sum.elim (fun s => G_k_findPending l Z n0 P 4 [some (vR b0), some (vI s.1), some (vI s.2), none] [] [(b0, 17, O0)] sz 0 0 (QM Z D n0 P (some (vI rr)) [(b0, 17, O0)] sz)) (Sum.elim (fun r => G_k_findPending l Z n0 P 34 [none, none, none, none] [] [(b0, 17, O0)] sz 0 0 (QM Z D n0 P (some (vI rr)) [(b0, 17, O0)] sz)) (fun r => r = rr)) x) :
    G_k_findPending l Z n0 P 4 [some (vR b0), some (vI v1), some (vI v2), none] [] [(b0, 17, O0)] sz 0 0 (QM Z D n0 P (some (vI rr)) [(b0, 17, O0)] sz) := by
  unfold b_k_findPending_4 at hf
  refine Go.iloadN (pc2 := 5) d_k_findPending_4 rfl rfl ?_
  refine Go.aloadN (pc2 := 6) d_k_findPending_5 rfl rfl ?_
  refine Go.getf (pc2 := 9) d_k_findPending_6 rfl rfl D_C (by exact w_54 hw) (q := 0) rfl (x := O0 0 3) (u := vI (O0 0 3)) (fs_pendLen) rfl rfl ?_
  by_cases hc : v2 < O0 0 3
  · replace hf := ifp hc hf
    refine Go.icmpF (pc2 := 12) d_k_findPending_9 (Int.not_le.mpr hc) rfl ?_
    refine Go.iloadN (pc2 := 13) d_k_findPending_12 rfl rfl ?_
    refine Go.bipush (pc2 := 15) d_k_findPending_13 rfl (by decide) ?_
    by_cases hc : v2 < 12
    · replace hf := ifp hc hf
      refine Go.icmpF (pc2 := 18) d_k_findPending_15 (Int.not_le.mpr hc) rfl ?_
      refine Go.aloadN (pc2 := 19) d_k_findPending_18 rfl rfl ?_
      refine Go.iloadN (pc2 := 20) d_k_findPending_19 rfl rfl ?_
      refine Go.aloadN (pc2 := 21) d_k_findPending_20 rfl rfl ?_
      refine Go.geta (pc2 := 24) d_k_findPending_21 rfl rfl D_C (by exact w_20 hw) (q := 0) rfl (j := 5) rfl (Nat.le_of_ble_eq_true rfl) rfl ?_
      refine Go.iloadN (pc2 := 25) d_k_findPending_24 rfl rfl ?_
      have hb := okb hf
      replace hf := ifp hb hf
      refine Go.iald (pc2 := 26) d_k_findPending_25 rfl (q := 0) rfl (j := 5) rfl (Nat.le_of_ble_eq_true rfl) rfl hb (z := O0 6 v2.toNat) rfl ?_
      refine bind_in hf ?_
      clear hf
      intro r_1 h_r_1 hf
      refine Go.callp (pc2 := 29) (as := [vI v1, vI (O0 6 v2.toNat)]) (S := []) (w := (some (vI r_1))) (os2 := [(b0, 17, O0)]) (sz2 := sz) (S2 := [vI r_1]) (rm := R_k_childAt) d_k_findPending_26 rfl rfl (by exact w_104 hw) (by exact w_106 hw) (by exact w_105 hw) (by exact w_107 hw) rfl (by exact w_2 hw) (by exact w_1 hw) (q := 0) rfl (by decide) pd_k_childAt (by decide) (Nat.le_of_ble_eq_true rfl) (by decide) (by decide) (nc := 0) (ns := 0) rfl rfl rfl (cu2 := 0) rfl (su2 := 0) rfl rfl (Pays.one (q := 0) rfl rfl (fun P2 hP2 => th_k_childAt hw h_r_1)) rfl ?_
      refine Go.istoreN (pc2 := 30) (L2 := [some (vR b0), some (vI v1), some (vI v2), some (vI r_1)]) d_k_findPending_29 rfl (Nat.le_of_ble_eq_true rfl) rfl ?_
      refine Go.iloadN (pc2 := 31) d_k_findPending_30 rfl rfl ?_
      by_cases hc : 0 < r_1
      · replace hf := ifp hc hf
        refine Go.ifT (pc2 := 36) d_k_findPending_31 hc (by decide) (by decide) ?_
        refine Go.iloadN (pc2 := 37) d_k_findPending_36 rfl rfl ?_
        refine Go.istoreN (pc2 := 38) (L2 := [some (vR b0), some (vI r_1), some (vI v2), some (vI r_1)]) d_k_findPending_37 rfl (Nat.le_of_ble_eq_true rfl) rfl ?_
        refine Go.iinc (pc2 := 41) (L2 := [some (vR b0), some (vI r_1), some (vI (w32 (v2 + 1))), some (vI r_1)]) d_k_findPending_38 rfl rfl rfl ?_
        refine Go.goto (pc2 := 4) d_k_findPending_41 (by decide) (by decide) ?_
        cases hf
        exact Go.mask [true, true, true, false] K
      · replace hf := ifn hc hf
        refine Go.ifF (pc2 := 34) d_k_findPending_31 hc rfl ?_
        cases hf
        exact Go.mask [false, false, false, false] K
    · replace hf := ifn hc hf
      refine Go.icmpT (pc2 := 44) d_k_findPending_15 (Int.not_lt.mp hc) (by decide) (by decide) ?_
      refine Go.iloadN (pc2 := 45) d_k_findPending_44 rfl rfl ?_
      cases hf
      replace K : v1 = rr := K
      cases K
      exact Go.reti d_k_findPending_45 rfl (Nat.le_of_ble_eq_true rfl) (Nat.le_of_ble_eq_true rfl) (fun _ H => ⟨rfl, H⟩)
  · replace hf := ifn hc hf
    refine Go.icmpT (pc2 := 44) d_k_findPending_9 (Int.not_lt.mp hc) (by decide) (by decide) ?_
    refine Go.iloadN (pc2 := 45) d_k_findPending_44 rfl rfl ?_
    cases hf
    replace K : v1 = rr := K
    cases K
    exact Go.reti d_k_findPending_45 rfl (Nat.le_of_ble_eq_true rfl) (Nat.le_of_ble_eq_true rfl) (fun _ H => ⟨rfl, H⟩)
set_option maxRecDepth 65536 in
set_option maxHeartbeats 4000000 in
theorem th_k_findPending {l : Launch} {Z : State} {a0 : Array Value} (hw : ∀ d ∈ tables_1, d.before a0 Z = true) {n0 : Nat} {P : Heap → Prop} {F : Nat} {b0 sz : Nat} {rr : Int} {O0 : Mo} (hf : k_findPending F O0 = some rr) :
    Meth l Z D n0 P (⟨"FuzzyLexicon", "findPending", "()I"⟩ : MethodName) prog_1_method_27_code 4 (some .int) R_k_findPending [vR b0] [(b0, 17, O0)] sz (QM Z D n0 P (some (vI rr)) [(b0, 17, O0)] sz) := by
  refine Meth.of (plainFor_of_name pn_cls) (Nat.le_of_ble_eq_true rfl) ?_
  show G_k_findPending l Z n0 P 0 [some (vR b0), none, none, none] [] [(b0, 17, O0)] sz 0 0 (QM Z D n0 P (some (vI rr)) [(b0, 17, O0)] sz)
  unfold k_findPending at hf
  refine Go.iconst (pc2 := 1) d_k_findPending_0 rfl (by decide) ?_
  refine Go.istoreN (pc2 := 2) (L2 := [some (vR b0), some (vI 0), none, none]) d_k_findPending_1 rfl (Nat.le_of_ble_eq_true rfl) rfl ?_
  refine Go.iconst (pc2 := 3) d_k_findPending_2 rfl (by decide) ?_
  refine Go.istoreN (pc2 := 4) (L2 := [some (vR b0), some (vI 0), some (vI 0), none]) d_k_findPending_3 rfl (Nat.le_of_ble_eq_true rfl) rfl ?_
  refine loop_go hf (Gs := fun s => G_k_findPending l Z n0 P 4 [some (vR b0), some (vI s.1), some (vI s.2), none] [] [(b0, 17, O0)] sz 0 0 (QM Z D n0 P (some (vI rr)) [(b0, 17, O0)] sz)) (Gr := (Sum.elim (fun r => G_k_findPending l Z n0 P 34 [none, none, none, none] [] [(b0, 17, O0)] sz 0 0 (QM Z D n0 P (some (vI rr)) [(b0, 17, O0)] sz)) (fun r => r = rr))) (fun s x hx K => tb_k_findPending_4 hw hx K) ?_
  clear hf
  intro r hf
  rcases r with r_1 | r_2
  · dsimp only [Sum.elim_inl] at hf ⊢
    refine Go.iconst (pc2 := 35) d_k_findPending_34 rfl (by decide) ?_
    cases hf
    exact Go.reti d_k_findPending_35 rfl (Nat.le_of_ble_eq_true rfl) (Nat.le_of_ble_eq_true rfl) (fun _ H => ⟨rfl, H⟩)
  · dsimp only [Sum.elim_inr] at hf ⊢
    cases hf
    rfl
set_option maxRecDepth 65536 in
set_option maxHeartbeats 4000000 in
theorem tj_k_addFreq_14 {l : Launch} {Z : State} {a0 : Array Value} (hw : ∀ d ∈ tables_1, d.before a0 Z = true) {n0 : Nat} {P : Heap → Prop} {b0 sz : Nat} {rr : Int} {O0 : Mo} (hf : j_k_addFreq_14 = rr) :
    G_k_addFreq l Z n0 P 14 [none, none, none, none] [] [(b0, 17, O0)] sz 0 0 (QM Z D n0 P (some (vI rr)) [(b0, 17, O0)] sz) := by
  unfold j_k_addFreq_14 at hf
  refine Go.ldc (pc2 := 16) (i := 1000000) d_k_addFreq_14 rfl rfl (by exact w_99 hw) (by decide) ?_
  cases hf
  exact Go.reti d_k_addFreq_16 rfl (Nat.le_of_ble_eq_true rfl) (Nat.le_of_ble_eq_true rfl) (fun _ H => ⟨rfl, H⟩)
set_option maxRecDepth 65536 in
set_option maxHeartbeats 4000000 in
theorem th_k_addFreq {l : Launch} {Z : State} {a0 : Array Value} (hw : ∀ d ∈ tables_1, d.before a0 Z = true) {n0 : Nat} {P : Heap → Prop} {b0 sz : Nat} {rr : Int} {O0 : Mo} {v1 v2 : Int} (hf : k_addFreq v1 v2 = rr) :
    Meth l Z D n0 P (⟨"FuzzyLexicon", "addFreq", "(II)I"⟩ : MethodName) prog_1_method_21_code 4 (some .int) R_k_addFreq [vR b0, vI v1, vI v2] [(b0, 17, O0)] sz (QM Z D n0 P (some (vI rr)) [(b0, 17, O0)] sz) := by
  refine Meth.of (plainFor_of_name pn_cls) (Nat.le_of_ble_eq_true rfl) ?_
  show G_k_addFreq l Z n0 P 0 [some (vR b0), some (vI v1), some (vI v2), none] [] [(b0, 17, O0)] sz 0 0 (QM Z D n0 P (some (vI rr)) [(b0, 17, O0)] sz)
  unfold k_addFreq at hf
  refine Go.iloadN (pc2 := 1) d_k_addFreq_0 rfl rfl ?_
  refine Go.iloadN (pc2 := 2) d_k_addFreq_1 rfl rfl ?_
  refine Go.iadd (pc2 := 3) d_k_addFreq_2 rfl ?_
  refine Go.istoreN (pc2 := 4) (L2 := [some (vR b0), some (vI v1), some (vI v2), some (vI (w32 (v1 + v2)))]) d_k_addFreq_3 rfl (Nat.le_of_ble_eq_true rfl) rfl ?_
  refine Go.iloadN (pc2 := 5) d_k_addFreq_4 rfl rfl ?_
  refine Go.ldc (pc2 := 7) (i := 1000000) d_k_addFreq_5 rfl rfl (by exact w_99 hw) (by decide) ?_
  by_cases hc : 1000000 < w32 (v1 + v2)
  · replace hf := ifp hc hf
    refine Go.icmpT (pc2 := 14) d_k_addFreq_7 hc (by decide) (by decide) ?_
    exact Go.mask [false, false, false, false] (tj_k_addFreq_14 hw hf)
  · replace hf := ifn hc hf
    refine Go.icmpF (pc2 := 10) d_k_addFreq_7 hc rfl ?_
    refine Go.iloadN (pc2 := 11) d_k_addFreq_10 rfl rfl ?_
    by_cases hc : w32 (v1 + v2) < 0
    · replace hf := ifp hc hf
      refine Go.ifF (pc2 := 14) d_k_addFreq_11 (Int.not_le.mpr hc) rfl ?_
      exact Go.mask [false, false, false, false] (tj_k_addFreq_14 hw hf)
    · replace hf := ifn hc hf
      refine Go.ifT (pc2 := 17) d_k_addFreq_11 (Int.not_lt.mp hc) (by decide) (by decide) ?_
      refine Go.iloadN (pc2 := 18) d_k_addFreq_17 rfl rfl ?_
      cases hf
      exact Go.reti d_k_addFreq_18 rfl (Nat.le_of_ble_eq_true rfl) (Nat.le_of_ble_eq_true rfl) (fun _ H => ⟨rfl, H⟩)
set_option maxRecDepth 65536 in
set_option maxHeartbeats 4000000 in
theorem th_k_hasRoom {l : Launch} {Z : State} {a0 : Array Value} (hw : ∀ d ∈ tables_1, d.before a0 Z = true) {n0 : Nat} {P : Heap → Prop} {b0 sz : Nat} {rr : Int} {O0 : Mo} {v1 : Int} (hf : k_hasRoom O0 v1 = rr) :
    Meth l Z D n0 P (⟨"FuzzyLexicon", "hasRoom", "(I)Z"⟩ : MethodName) prog_1_method_25_code 2 (some .boolean) R_k_hasRoom [vR b0, vI v1] [(b0, 17, O0)] sz (QM Z D n0 P (some (vI rr)) [(b0, 17, O0)] sz) := by
  refine Meth.of (plainFor_of_name pn_cls) (Nat.le_of_ble_eq_true rfl) ?_
  show G_k_hasRoom l Z n0 P 0 [some (vR b0), some (vI v1)] [] [(b0, 17, O0)] sz 0 0 (QM Z D n0 P (some (vI rr)) [(b0, 17, O0)] sz)
  unfold k_hasRoom at hf
  refine Go.iloadN (pc2 := 1) d_k_hasRoom_0 rfl rfl ?_
  by_cases hc : v1 < 0
  · replace hf := ifp hc hf
    refine Go.ifT (pc2 := 20) d_k_hasRoom_1 hc (by decide) (by decide) ?_
    refine Go.iconst (pc2 := 21) d_k_hasRoom_20 rfl (by decide) ?_
    cases hf
    exact Go.retz d_k_hasRoom_21 rfl rfl (Nat.le_of_ble_eq_true rfl) (Nat.le_of_ble_eq_true rfl) (fun _ H => ⟨rfl, H⟩)
  · replace hf := ifn hc hf
    refine Go.ifF (pc2 := 4) d_k_hasRoom_1 hc rfl ?_
    refine Go.aloadN (pc2 := 5) d_k_hasRoom_4 rfl rfl ?_
    refine Go.getf (pc2 := 8) d_k_hasRoom_5 rfl rfl D_C (by exact w_52 hw) (q := 0) rfl (x := O0 0 2) (u := vI (O0 0 2)) (fs_nodeCount) rfl rfl ?_
    refine Go.iloadN (pc2 := 9) d_k_hasRoom_8 rfl rfl ?_
    refine Go.iadd (pc2 := 10) d_k_hasRoom_9 rfl ?_
    refine Go.sipush (pc2 := 13) d_k_hasRoom_10 rfl (by decide) ?_
    by_cases hc : 256 < w32 ((O0 0 2) + v1)
    · replace hf := ifp hc hf
      refine Go.icmpT (pc2 := 20) d_k_hasRoom_13 hc (by decide) (by decide) ?_
      refine Go.iconst (pc2 := 21) d_k_hasRoom_20 rfl (by decide) ?_
      cases hf
      exact Go.retz d_k_hasRoom_21 rfl rfl (Nat.le_of_ble_eq_true rfl) (Nat.le_of_ble_eq_true rfl) (fun _ H => ⟨rfl, H⟩)
    · replace hf := ifn hc hf
      refine Go.icmpF (pc2 := 16) d_k_hasRoom_13 hc rfl ?_
      refine Go.iconst (pc2 := 17) d_k_hasRoom_16 rfl (by decide) ?_
      refine Go.goto (pc2 := 21) d_k_hasRoom_17 (by decide) (by decide) ?_
      cases hf
      exact Go.retz d_k_hasRoom_21 rfl rfl (Nat.le_of_ble_eq_true rfl) (Nat.le_of_ble_eq_true rfl) (fun _ H => ⟨rfl, H⟩)
set_option maxRecDepth 65536 in
set_option maxHeartbeats 4000000 in
theorem th_k_newNode {l : Launch} {Z : State} {a0 : Array Value} (hw : ∀ d ∈ tables_1, d.before a0 Z = true) {n0 : Nat} {P : Heap → Prop} {F : Nat} {b0 sz : Nat} {rr : Int} {Oz0 : Mo} {O0 : Mo} {v1 v2 v3 : Int} (hf : k_newNode F O0 v1 v2 v3 = some ((rr, Oz0))) :
    Meth l Z D n0 P (⟨"FuzzyLexicon", "newNode", "(III)I"⟩ : MethodName) prog_1_method_26_code 5 (some .int) R_k_newNode [vR b0, vI v1, vI v2, vI v3] [(b0, 17, O0)] sz (QM Z D n0 P (some (vI rr)) [(b0, 17, Oz0)] sz) := by
  refine Meth.of (plainFor_of_name pn_cls) (Nat.le_of_ble_eq_true rfl) ?_
  show G_k_newNode l Z n0 P 0 [some (vR b0), some (vI v1), some (vI v2), some (vI v3), none] [] [(b0, 17, O0)] sz 0 0 (QM Z D n0 P (some (vI rr)) [(b0, 17, Oz0)] sz)
  unfold k_newNode at hf
  refine Go.aloadN (pc2 := 1) d_k_newNode_0 rfl rfl ?_
  refine Go.getf (pc2 := 4) d_k_newNode_1 rfl rfl D_C (by exact w_52 hw) (q := 0) rfl (x := O0 0 2) (u := vI (O0 0 2)) (fs_nodeCount) rfl rfl ?_
  refine Go.sipush (pc2 := 7) d_k_newNode_4 rfl (by decide) ?_
  by_cases hc : O0 0 2 < 256
  · replace hf := ifp hc hf
    refine Go.icmpT (pc2 := 12) d_k_newNode_7 hc (by decide) (by decide) ?_
    refine Go.aloadN (pc2 := 13) d_k_newNode_12 rfl rfl ?_
    refine Go.getf (pc2 := 16) d_k_newNode_13 rfl rfl D_C (by exact w_52 hw) (q := 0) rfl (x := O0 0 2) (u := vI (O0 0 2)) (fs_nodeCount) rfl rfl ?_
    refine Go.istore (pc2 := 18) (L2 := [some (vR b0), some (vI v1), some (vI v2), some (vI v3), some (vI (O0 0 2))]) d_k_newNode_16 rfl (Nat.le_of_ble_eq_true rfl) rfl ?_
    refine Go.aloadN (pc2 := 19) d_k_newNode_18 rfl rfl ?_
    refine Go.dup (pc2 := 20) d_k_newNode_19 rfl rfl ?_
    refine Go.getf (pc2 := 23) d_k_newNode_20 rfl rfl D_C (by exact w_52 hw) (q := 0) rfl (x := O0 0 2) (u := vI (O0 0 2)) (fs_nodeCount) rfl rfl ?_
    refine Go.iconst (pc2 := 24) d_k_newNode_23 rfl (by decide) ?_
    refine Go.iadd (pc2 := 25) d_k_newNode_24 rfl ?_
    refine Go.putf (pc2 := 28) (cw_ok hw) d_k_newNode_25 rfl rfl D_C (by exact w_52 hw) (by exact Or.inl (w_53 hw)) (by exact w_1 hw) (q := 0) rfl (x := w32 ((O0 0 2) + 1)) (x' := w32 ((O0 0 2) + 1)) (fs_nodeCount) rfl rfl (os2 := [(b0, 17, (upd O0 0 2 (w32 ((O0 0 2) + 1))))]) rfl ?_
    refine Go.aloadN (pc2 := 29) d_k_newNode_28 rfl rfl ?_
    refine Go.geta (pc2 := 32) d_k_newNode_29 rfl rfl D_C (by exact w_14 hw) (q := 0) rfl (j := 2) rfl (Nat.le_of_ble_eq_true rfl) rfl ?_
    refine Go.iload (pc2 := 34) d_k_newNode_32 rfl rfl ?_
    refine Go.iloadN (pc2 := 35) d_k_newNode_34 rfl rfl ?_
    have hb := okb hf
    replace hf := ifp hb hf
    refine Go.iast (pc2 := 36) d_k_newNode_35 rfl (q := 0) rfl (j := 2) rfl (Nat.le_of_ble_eq_true rfl) rfl hb (z := v1) (z' := v1) rfl (os2 := [(b0, 17, (upd (upd O0 0 2 (w32 ((O0 0 2) + 1))) 3 ((O0 0 2).toNat) v1))]) rfl ?_
    refine Go.aloadN (pc2 := 37) d_k_newNode_36 rfl rfl ?_
    refine Go.geta (pc2 := 40) d_k_newNode_37 rfl rfl D_C (by exact w_16 hw) (q := 0) rfl (j := 3) rfl (Nat.le_of_ble_eq_true rfl) rfl ?_
    refine Go.iload (pc2 := 42) d_k_newNode_40 rfl rfl ?_
    refine Go.iloadN (pc2 := 43) d_k_newNode_42 rfl rfl ?_
    have hb := okb hf
    replace hf := ifp hb hf
    refine Go.iast (pc2 := 44) d_k_newNode_43 rfl (q := 0) rfl (j := 3) rfl (Nat.le_of_ble_eq_true rfl) rfl hb (z := v2) (z' := v2) rfl (os2 := [(b0, 17, (upd (upd (upd O0 0 2 (w32 ((O0 0 2) + 1))) 3 ((O0 0 2).toNat) v1) 4 ((O0 0 2).toNat) v2))]) rfl ?_
    refine Go.aloadN (pc2 := 45) d_k_newNode_44 rfl rfl ?_
    refine Go.geta (pc2 := 48) d_k_newNode_45 rfl rfl D_C (by exact w_18 hw) (q := 0) rfl (j := 4) rfl (Nat.le_of_ble_eq_true rfl) rfl ?_
    refine Go.iload (pc2 := 50) d_k_newNode_48 rfl rfl ?_
    refine Go.iloadN (pc2 := 51) d_k_newNode_50 rfl rfl ?_
    have hb := okb hf
    replace hf := ifp hb hf
    refine Go.iast (pc2 := 52) d_k_newNode_51 rfl (q := 0) rfl (j := 4) rfl (Nat.le_of_ble_eq_true rfl) rfl hb (z := v3) (z' := v3) rfl (os2 := [(b0, 17, (upd (upd (upd (upd O0 0 2 (w32 ((O0 0 2) + 1))) 3 ((O0 0 2).toNat) v1) 4 ((O0 0 2).toNat) v2) 5 ((O0 0 2).toNat) v3))]) rfl ?_
    refine Go.aloadN (pc2 := 53) d_k_newNode_52 rfl rfl ?_
    refine Go.geta (pc2 := 56) d_k_newNode_53 rfl rfl D_C (by exact w_12 hw) (q := 0) rfl (j := 1) rfl (Nat.le_of_ble_eq_true rfl) rfl ?_
    refine Go.iload (pc2 := 58) d_k_newNode_56 rfl rfl ?_
    refine Go.iconst (pc2 := 59) d_k_newNode_58 rfl (by decide) ?_
    have hb := okb hf
    replace hf := ifp hb hf
    refine Go.iast (pc2 := 60) d_k_newNode_59 rfl (q := 0) rfl (j := 1) rfl (Nat.le_of_ble_eq_true rfl) rfl hb (z := 0) (z' := 0) rfl (os2 := [(b0, 17, (upd (upd (upd (upd (upd O0 0 2 (w32 ((O0 0 2) + 1))) 3 ((O0 0 2).toNat) v1) 4 ((O0 0 2).toNat) v2) 5 ((O0 0 2).toNat) v3) 2 ((O0 0 2).toNat) 0))]) rfl ?_
    refine Go.iload (pc2 := 62) d_k_newNode_60 rfl rfl ?_
    cases hf
    exact Go.reti d_k_newNode_62 rfl (Nat.le_of_ble_eq_true rfl) (Nat.le_of_ble_eq_true rfl) (fun _ H => ⟨rfl, H⟩)
  · replace hf := ifn hc hf
    refine Go.icmpF (pc2 := 10) d_k_newNode_7 hc rfl ?_
    refine Go.iconst (pc2 := 11) d_k_newNode_10 rfl (by decide) ?_
    cases hf
    exact Go.reti d_k_newNode_11 rfl (Nat.le_of_ble_eq_true rfl) (Nat.le_of_ble_eq_true rfl) (fun _ H => ⟨rfl, H⟩)
set_option maxRecDepth 65536 in
set_option maxHeartbeats 4000000 in
theorem th_k_setChild {l : Launch} {Z : State} {a0 : Array Value} (hw : ∀ d ∈ tables_1, d.before a0 Z = true) {n0 : Nat} {P : Heap → Prop} {F : Nat} {b0 sz : Nat} {Oz0 : Mo} {O0 : Mo} {v1 v2 v3 : Int} (hf : k_setChild F O0 v1 v2 v3 = some Oz0) :
    Meth l Z D n0 P (⟨"FuzzyLexicon", "setChild", "(III)V"⟩ : MethodName) prog_1_method_24_code 4 none R_k_setChild [vR b0, vI v1, vI v2, vI v3] [(b0, 17, O0)] sz (QM Z D n0 P none [(b0, 17, Oz0)] sz) := by
  refine Meth.of (plainFor_of_name pn_cls) (Nat.le_of_ble_eq_true rfl) ?_
  show G_k_setChild l Z n0 P 0 [some (vR b0), some (vI v1), some (vI v2), some (vI v3)] [] [(b0, 17, O0)] sz 0 0 (QM Z D n0 P none [(b0, 17, Oz0)] sz)
  unfold k_setChild at hf
  refine Go.iloadN (pc2 := 1) d_k_setChild_0 rfl rfl ?_
  by_cases hc : v1 < 0
  · replace hf := ifp hc hf
    refine Go.ifT (pc2 := 21) d_k_setChild_1 hc (by decide) (by decide) ?_
    cases hf
    exact Go.retv d_k_setChild_21 rfl (Nat.le_of_ble_eq_true rfl) (Nat.le_of_ble_eq_true rfl) (fun _ H => ⟨rfl, H⟩)
  · replace hf := ifn hc hf
    refine Go.ifF (pc2 := 4) d_k_setChild_1 hc rfl ?_
    refine Go.iloadN (pc2 := 5) d_k_setChild_4 rfl rfl ?_
    refine Go.sipush (pc2 := 8) d_k_setChild_5 rfl (by decide) ?_
    by_cases hc : v1 < 256
    · replace hf := ifp hc hf
      refine Go.icmpF (pc2 := 11) d_k_setChild_8 (Int.not_le.mpr hc) rfl ?_
      refine Go.iloadN (pc2 := 12) d_k_setChild_11 rfl rfl ?_
      by_cases hc : v2 < 0
      · replace hf := ifp hc hf
        refine Go.ifT (pc2 := 21) d_k_setChild_12 hc (by decide) (by decide) ?_
        cases hf
        exact Go.retv d_k_setChild_21 rfl (Nat.le_of_ble_eq_true rfl) (Nat.le_of_ble_eq_true rfl) (fun _ H => ⟨rfl, H⟩)
      · replace hf := ifn hc hf
        refine Go.ifF (pc2 := 15) d_k_setChild_12 hc rfl ?_
        refine Go.iloadN (pc2 := 16) d_k_setChild_15 rfl rfl ?_
        refine Go.bipush (pc2 := 18) d_k_setChild_16 rfl (by decide) ?_
        by_cases hc : v2 < 26
        · replace hf := ifp hc hf
          refine Go.icmpT (pc2 := 22) d_k_setChild_18 hc (by decide) (by decide) ?_
          refine Go.aloadN (pc2 := 23) d_k_setChild_22 rfl rfl ?_
          refine Go.geta (pc2 := 26) d_k_setChild_23 rfl rfl D_C (by exact w_10 hw) (q := 0) rfl (j := 0) rfl (Nat.le_of_ble_eq_true rfl) rfl ?_
          refine Go.iloadN (pc2 := 27) d_k_setChild_26 rfl rfl ?_
          refine Go.bipush (pc2 := 29) d_k_setChild_27 rfl (by decide) ?_
          refine Go.imul (pc2 := 30) d_k_setChild_29 rfl ?_
          refine Go.iloadN (pc2 := 31) d_k_setChild_30 rfl rfl ?_
          refine Go.iadd (pc2 := 32) d_k_setChild_31 rfl ?_
          refine Go.iloadN (pc2 := 33) d_k_setChild_32 rfl rfl ?_
          have hb := okb hf
          replace hf := ifp hb hf
          refine Go.iast (pc2 := 34) d_k_setChild_33 rfl (q := 0) rfl (j := 0) rfl (Nat.le_of_ble_eq_true rfl) rfl hb (z := v3) (z' := v3) rfl (os2 := [(b0, 17, (upd O0 1 ((w32 ((w32 (v1 * 26)) + v2)).toNat) v3))]) rfl ?_
          cases hf
          exact Go.retv d_k_setChild_34 rfl (Nat.le_of_ble_eq_true rfl) (Nat.le_of_ble_eq_true rfl) (fun _ H => ⟨rfl, H⟩)
        · replace hf := ifn hc hf
          refine Go.icmpF (pc2 := 21) d_k_setChild_18 hc rfl ?_
          cases hf
          exact Go.retv d_k_setChild_21 rfl (Nat.le_of_ble_eq_true rfl) (Nat.le_of_ble_eq_true rfl) (fun _ H => ⟨rfl, H⟩)
    · replace hf := ifn hc hf
      refine Go.icmpT (pc2 := 21) d_k_setChild_8 (Int.not_lt.mp hc) (by decide) (by decide) ?_
      cases hf
      exact Go.retv d_k_setChild_21 rfl (Nat.le_of_ble_eq_true rfl) (Nat.le_of_ble_eq_true rfl) (fun _ H => ⟨rfl, H⟩)
set_option maxRecDepth 65536 in
set_option maxHeartbeats 4000000 in
theorem ti_k_insertPending_64 {l : Launch} {Z : State} {a0 : Array Value} (hw : ∀ d ∈ tables_1, d.before a0 Z = true) {n0 : Nat} {P : Heap → Prop} {F : Nat} {b0 sz : Nat} {rr : Int} {Oz0 : Mo} {O0 : Mo} {v2 v4 : Int} {x : (Int × Int × Mo) ⊕ (Mo ⊕ ((Int × Mo)))} (hf : i_k_insertPending_64 F O0 v2 v4 = some x) (K : Sum.elim (fun s => G_k_insertPending l Z n0 P 4 [some (vR b0), some (vI s.1), some (vI s.2.1), none, none] [] [(b0, 17, s.2.2)] sz 0 0 (QM Z D n0 P (some (vI rr)) [(b0, 17, Oz0)] sz)) (Sum.elim (fun r => G_k_insertPending l Z n0 P 54 [none, none, none, none, none] [] [(b0, 17, r)] sz 0 0 (QM Z D n0 P (some (vI rr)) [(b0, 17, Oz0)] sz)) (fun r => r = (rr, Oz0))) x) :
    G_k_insertPending l Z n0 P 64 [some (vR b0), none, some (vI v2), none, some (vI v4)] [] [(b0, 17, O0)] sz 0 0 (QM Z D n0 P (some (vI rr)) [(b0, 17, Oz0)] sz) := by
  unfold i_k_insertPending_64 at hf
  refine Go.iload (pc2 := 66) d_k_insertPending_64 rfl rfl ?_
  refine Go.istoreN (pc2 := 67) (L2 := [some (vR b0), some (vI v4), some (vI v2), none, some (vI v4)]) d_k_insertPending_66 rfl (Nat.le_of_ble_eq_true rfl) rfl ?_
  refine Go.iinc (pc2 := 70) (L2 := [some (vR b0), some (vI v4), some (vI (w32 (v2 + 1))), none, some (vI v4)]) d_k_insertPending_67 rfl rfl rfl ?_
  refine Go.goto (pc2 := 4) d_k_insertPending_70 (by decide) (by decide) ?_
  cases hf
  exact Go.mask [true, true, true, true, false] K
set_option maxRecDepth 65536 in
set_option maxHeartbeats 4000000 in
theorem tb_k_insertPending_4 {l : Launch} {Z : State} {a0 : Array Value} (hw : ∀ d ∈ tables_1, d.before a0 Z = true) {n0 : Nat} {P : Heap → Prop} {F : Nat} {b0 sz : Nat} {rr : Int} {Oz0 : Mo} {v1 v2 : Int} {O0 : Mo} {x : (Int × Int × Mo) ⊕ (Mo ⊕ ((Int × Mo)))} (hf : b_k_insertPending_4 F v1 v2 O0 = some x) (K : Sum.elim (fun s => G_k_insertPending l Z n0 P 4 [some (vR b0), some (vI s.1), some (vI s.2.1), none, none] [] [(b0, 17, s.2.2)] sz 0 0 (QM Z D n0 P (some (vI rr)) [(b0, 17, Oz0)] sz)) (Sum.elim (fun r => G_k_insertPending l Z n0 P 54 [none, none, none, none, none] [] [(b0, 17, r)] sz 0 0 (QM Z D n0 P (some (vI rr)) [(b0, 17, Oz0)] sz)) (fun r => r = (rr, Oz0))) x) :
    G_k_insertPending l Z n0 P 4 [some (vR b0), some (vI v1), some (vI v2), none, none] [] [(b0, 17, O0)] sz 0 0 (QM Z D n0 P (some (vI rr)) [(b0, 17, Oz0)] sz) := by
  unfold b_k_insertPending_4 at hf
  refine Go.iloadN (pc2 := 5) d_k_insertPending_4 rfl rfl ?_
  refine Go.aloadN (pc2 := 6) d_k_insertPending_5 rfl rfl ?_
  refine Go.getf (pc2 := 9) d_k_insertPending_6 rfl rfl D_C (by exact w_54 hw) (q := 0) rfl (x := O0 0 3) (u := vI (O0 0 3)) (fs_pendLen) rfl rfl ?_
  by_cases hc : v2 < O0 0 3
  · replace hf := ifp hc hf
    refine Go.icmpF (pc2 := 12) d_k_insertPending_9 (Int.not_le.mpr hc) rfl ?_
    refine Go.iloadN (pc2 := 13) d_k_insertPending_12 rfl rfl ?_
    refine Go.bipush (pc2 := 15) d_k_insertPending_13 rfl (by decide) ?_
    by_cases hc : v2 < 12
    · replace hf := ifp hc hf
      refine Go.icmpF (pc2 := 18) d_k_insertPending_15 (Int.not_le.mpr hc) rfl ?_
      refine Go.aloadN (pc2 := 19) d_k_insertPending_18 rfl rfl ?_
      refine Go.geta (pc2 := 22) d_k_insertPending_19 rfl rfl D_C (by exact w_20 hw) (q := 0) rfl (j := 5) rfl (Nat.le_of_ble_eq_true rfl) rfl ?_
      refine Go.iloadN (pc2 := 23) d_k_insertPending_22 rfl rfl ?_
      have hb := okb hf
      replace hf := ifp hb hf
      refine Go.iald (pc2 := 24) d_k_insertPending_23 rfl (q := 0) rfl (j := 5) rfl (Nat.le_of_ble_eq_true rfl) rfl hb (z := O0 6 v2.toNat) rfl ?_
      refine Go.istoreN (pc2 := 25) (L2 := [some (vR b0), some (vI v1), some (vI v2), some (vI (O0 6 v2.toNat)), none]) d_k_insertPending_24 rfl (Nat.le_of_ble_eq_true rfl) rfl ?_
      refine Go.aloadN (pc2 := 26) d_k_insertPending_25 rfl rfl ?_
      refine Go.iloadN (pc2 := 27) d_k_insertPending_26 rfl rfl ?_
      refine Go.iloadN (pc2 := 28) d_k_insertPending_27 rfl rfl ?_
      refine bind_in hf ?_
      clear hf
      intro r_1 h_r_1 hf
      refine Go.callp (pc2 := 31) (as := [vI v1, vI (O0 6 v2.toNat)]) (S := []) (w := (some (vI r_1))) (os2 := [(b0, 17, O0)]) (sz2 := sz) (S2 := [vI r_1]) (rm := R_k_childAt) d_k_insertPending_28 rfl rfl (by exact w_104 hw) (by exact w_106 hw) (by exact w_105 hw) (by exact w_107 hw) rfl (by exact w_2 hw) (by exact w_1 hw) (q := 0) rfl (by decide) pd_k_childAt (by decide) (Nat.le_of_ble_eq_true rfl) (by decide) (by decide) (nc := 0) (ns := 0) rfl rfl rfl (cu2 := 0) rfl (su2 := 0) rfl rfl (Pays.one (q := 0) rfl rfl (fun P2 hP2 => th_k_childAt hw h_r_1)) rfl ?_
      refine Go.istore (pc2 := 33) (L2 := [some (vR b0), some (vI v1), some (vI v2), some (vI (O0 6 v2.toNat)), some (vI r_1)]) d_k_insertPending_31 rfl (Nat.le_of_ble_eq_true rfl) rfl ?_
      refine Go.iload (pc2 := 35) d_k_insertPending_33 rfl rfl ?_
      by_cases hc : r_1 = 0
      · replace hf := ifp hc hf
        refine Go.ifF (pc2 := 38) d_k_insertPending_35 (fun q => q hc) rfl ?_
        refine Go.aloadN (pc2 := 39) d_k_insertPending_38 rfl rfl ?_
        refine Go.iloadN (pc2 := 40) d_k_insertPending_39 rfl rfl ?_
        refine Go.iloadN (pc2 := 41) d_k_insertPending_40 rfl rfl ?_
        refine Go.iloadN (pc2 := 42) d_k_insertPending_41 rfl rfl ?_
        refine Go.iconst (pc2 := 43) d_k_insertPending_42 rfl (by decide) ?_
        refine Go.iadd (pc2 := 44) d_k_insertPending_43 rfl ?_
        refine bind_in hf ?_
        clear hf
        intro r_2 h_r_2 hf
        refine Go.callp (pc2 := 47) (as := [vI v1, vI (O0 6 v2.toNat), vI (w32 (v2 + 1))]) (S := []) (w := (some (vI r_2.1))) (os2 := [(b0, 17, r_2.2)]) (sz2 := sz) (S2 := [vI r_2.1]) (rm := R_k_newNode) d_k_insertPending_44 rfl rfl (by exact w_116 hw) (by exact w_118 hw) (by exact w_117 hw) (by exact w_119 hw) rfl (by exact w_2 hw) (by exact w_1 hw) (q := 0) rfl (by decide) pd_k_newNode (by decide) (Nat.le_of_ble_eq_true rfl) (by decide) (by decide) (nc := 0) (ns := 0) rfl rfl rfl (cu2 := 0) rfl (su2 := 0) rfl rfl (Pays.one (q := 0) rfl rfl (fun P2 hP2 => th_k_newNode hw h_r_2)) rfl ?_
        refine Go.istore (pc2 := 49) (L2 := [some (vR b0), some (vI v1), some (vI v2), some (vI (O0 6 v2.toNat)), some (vI r_2.1)]) d_k_insertPending_47 rfl (Nat.le_of_ble_eq_true rfl) rfl ?_
        refine Go.iload (pc2 := 51) d_k_insertPending_49 rfl rfl ?_
        by_cases hc : r_2.1 < 0
        · replace hf := ifp hc hf
          refine Go.ifF (pc2 := 54) d_k_insertPending_51 (Int.not_le.mpr hc) rfl ?_
          cases hf
          exact Go.mask [false, false, false, false, false] K
        · replace hf := ifn hc hf
          refine Go.ifT (pc2 := 56) d_k_insertPending_51 (Int.not_lt.mp hc) (by decide) (by decide) ?_
          refine Go.aloadN (pc2 := 57) d_k_insertPending_56 rfl rfl ?_
          refine Go.iloadN (pc2 := 58) d_k_insertPending_57 rfl rfl ?_
          refine Go.iloadN (pc2 := 59) d_k_insertPending_58 rfl rfl ?_
          refine Go.iload (pc2 := 61) d_k_insertPending_59 rfl rfl ?_
          refine bind_in hf ?_
          clear hf
          intro r_3 h_r_3 hf
          refine Go.callp (pc2 := 64) (as := [vI v1, vI (O0 6 v2.toNat), vI r_2.1]) (S := []) (w := none) (os2 := [(b0, 17, r_3)]) (sz2 := sz) (S2 := []) (rm := R_k_setChild) d_k_insertPending_61 rfl rfl (by exact w_120 hw) (by exact w_122 hw) (by exact w_121 hw) (by exact w_123 hw) rfl (by exact w_2 hw) (by exact w_1 hw) (q := 0) rfl (by decide) pd_k_setChild (by decide) (Nat.le_of_ble_eq_true rfl) (by decide) (by decide) (nc := 0) (ns := 0) rfl rfl rfl (cu2 := 0) rfl (su2 := 0) rfl rfl (Pays.one (q := 0) rfl rfl (fun P2 hP2 => th_k_setChild hw h_r_3)) rfl ?_
          exact Go.mask [true, false, true, false, true] (ti_k_insertPending_64 hw hf K)
      · replace hf := ifn hc hf
        refine Go.ifT (pc2 := 64) d_k_insertPending_35 hc (by decide) (by decide) ?_
        exact Go.mask [true, false, true, false, true] (ti_k_insertPending_64 hw hf K)
    · replace hf := ifn hc hf
      refine Go.icmpT (pc2 := 73) d_k_insertPending_15 (Int.not_lt.mp hc) (by decide) (by decide) ?_
      refine Go.iloadN (pc2 := 74) d_k_insertPending_73 rfl rfl ?_
      cases hf
      replace K : (v1, O0) = (rr, Oz0) := K
      cases K
      exact Go.reti d_k_insertPending_74 rfl (Nat.le_of_ble_eq_true rfl) (Nat.le_of_ble_eq_true rfl) (fun _ H => ⟨rfl, H⟩)
  · replace hf := ifn hc hf
    refine Go.icmpT (pc2 := 73) d_k_insertPending_9 (Int.not_lt.mp hc) (by decide) (by decide) ?_
    refine Go.iloadN (pc2 := 74) d_k_insertPending_73 rfl rfl ?_
    cases hf
    replace K : (v1, O0) = (rr, Oz0) := K
    cases K
    exact Go.reti d_k_insertPending_74 rfl (Nat.le_of_ble_eq_true rfl) (Nat.le_of_ble_eq_true rfl) (fun _ H => ⟨rfl, H⟩)
set_option maxRecDepth 65536 in
set_option maxHeartbeats 4000000 in
theorem th_k_insertPending {l : Launch} {Z : State} {a0 : Array Value} (hw : ∀ d ∈ tables_1, d.before a0 Z = true) {n0 : Nat} {P : Heap → Prop} {F : Nat} {b0 sz : Nat} {rr : Int} {Oz0 : Mo} {O0 : Mo} (hf : k_insertPending F O0 = some ((rr, Oz0))) :
    Meth l Z D n0 P (⟨"FuzzyLexicon", "insertPending", "()I"⟩ : MethodName) prog_1_method_28_code 5 (some .int) R_k_insertPending [vR b0] [(b0, 17, O0)] sz (QM Z D n0 P (some (vI rr)) [(b0, 17, Oz0)] sz) := by
  refine Meth.of (plainFor_of_name pn_cls) (Nat.le_of_ble_eq_true rfl) ?_
  show G_k_insertPending l Z n0 P 0 [some (vR b0), none, none, none, none] [] [(b0, 17, O0)] sz 0 0 (QM Z D n0 P (some (vI rr)) [(b0, 17, Oz0)] sz)
  unfold k_insertPending at hf
  refine Go.iconst (pc2 := 1) d_k_insertPending_0 rfl (by decide) ?_
  refine Go.istoreN (pc2 := 2) (L2 := [some (vR b0), some (vI 0), none, none, none]) d_k_insertPending_1 rfl (Nat.le_of_ble_eq_true rfl) rfl ?_
  refine Go.iconst (pc2 := 3) d_k_insertPending_2 rfl (by decide) ?_
  refine Go.istoreN (pc2 := 4) (L2 := [some (vR b0), some (vI 0), some (vI 0), none, none]) d_k_insertPending_3 rfl (Nat.le_of_ble_eq_true rfl) rfl ?_
  refine loop_go hf (Gs := fun s => G_k_insertPending l Z n0 P 4 [some (vR b0), some (vI s.1), some (vI s.2.1), none, none] [] [(b0, 17, s.2.2)] sz 0 0 (QM Z D n0 P (some (vI rr)) [(b0, 17, Oz0)] sz)) (Gr := (Sum.elim (fun r => G_k_insertPending l Z n0 P 54 [none, none, none, none, none] [] [(b0, 17, r)] sz 0 0 (QM Z D n0 P (some (vI rr)) [(b0, 17, Oz0)] sz)) (fun r => r = (rr, Oz0)))) (fun s x hx K => tb_k_insertPending_4 hw hx K) ?_
  clear hf
  intro r hf
  rcases r with r_1 | r_2
  · dsimp only [Sum.elim_inl] at hf ⊢
    refine Go.iconst (pc2 := 55) d_k_insertPending_54 rfl (by decide) ?_
    cases hf
    exact Go.reti d_k_insertPending_55 rfl (Nat.le_of_ble_eq_true rfl) (Nat.le_of_ble_eq_true rfl) (fun _ H => ⟨rfl, H⟩)
  · dsimp only [Sum.elim_inr] at hf ⊢
    cases hf
    rfl
set_option maxRecDepth 65536 in
set_option maxHeartbeats 4000000 in
theorem tj_k_commit_65 {l : Launch} {Z : State} {a0 : Array Value} (hw : ∀ d ∈ tables_1, d.before a0 Z = true) {n0 : Nat} {P : Heap → Prop} {F : Nat} {b0 sz : Nat} {rr : Int} {Oz0 : Mo} {O0 : Mo} {v1 : Int} (hf : j_k_commit_65 F O0 v1 = some ((rr, Oz0))) :
    G_k_commit l Z n0 P 65 [some (vR b0), some (vI v1), none] [] [(b0, 17, O0)] sz 0 0 (QM Z D n0 P (some (vI rr)) [(b0, 17, Oz0)] sz) := by
  unfold j_k_commit_65 at hf
  refine Go.aloadN (pc2 := 66) d_k_commit_65 rfl rfl ?_
  refine Go.getf (pc2 := 69) d_k_commit_66 rfl rfl D_C (by exact w_50 hw) (q := 0) rfl (x := O0 0 1) (u := vI (O0 0 1)) (fs_words) rfl rfl ?_
  refine Go.aloadN (pc2 := 70) d_k_commit_69 rfl rfl ?_
  refine Go.getf (pc2 := 73) d_k_commit_70 rfl rfl D_C (by exact w_48 hw) (q := 0) rfl (x := O0 0 0) (u := vI (O0 0 0)) (fs_cap) rfl rfl ?_
  by_cases hc : O0 0 1 < O0 0 0
  · replace hf := ifp hc hf
    refine Go.icmpF (pc2 := 76) d_k_commit_73 (Int.not_le.mpr hc) rfl ?_
    refine Go.aloadN (pc2 := 77) d_k_commit_76 rfl rfl ?_
    refine Go.aloadN (pc2 := 78) d_k_commit_77 rfl rfl ?_
    refine Go.getf (pc2 := 81) d_k_commit_78 rfl rfl D_C (by exact w_54 hw) (q := 0) rfl (x := O0 0 3) (u := vI (O0 0 3)) (fs_pendLen) rfl rfl ?_
    refine Go.callp (pc2 := 84) (as := [vI (O0 0 3)]) (S := []) (w := (some (vI (k_hasRoom O0 (O0 0 3))))) (os2 := [(b0, 17, O0)]) (sz2 := sz) (S2 := [vI (k_hasRoom O0 (O0 0 3))]) (rm := R_k_hasRoom) d_k_commit_81 rfl rfl (by exact w_108 hw) (by exact w_110 hw) (by exact w_109 hw) (by exact w_111 hw) rfl (by exact w_2 hw) (by exact w_1 hw) (q := 0) rfl (by decide) pd_k_hasRoom (by decide) (Nat.le_of_ble_eq_true rfl) (by decide) (by decide) (nc := 0) (ns := 0) rfl rfl rfl (cu2 := 0) rfl (su2 := 0) rfl rfl (Pays.one (q := 0) rfl rfl (fun P2 hP2 => th_k_hasRoom hw rfl)) rfl ?_
    by_cases hc : k_hasRoom O0 (O0 0 3) = 0
    · replace hf := ifp hc hf
      refine Go.ifF (pc2 := 87) d_k_commit_84 (fun q => q hc) rfl ?_
      refine Go.bipush (pc2 := 89) d_k_commit_87 rfl (by decide) ?_
      cases hf
      exact Go.reti d_k_commit_89 rfl (Nat.le_of_ble_eq_true rfl) (Nat.le_of_ble_eq_true rfl) (fun _ H => ⟨rfl, H⟩)
    · replace hf := ifn hc hf
      refine Go.ifT (pc2 := 90) d_k_commit_84 hc (by decide) (by decide) ?_
      refine Go.aloadN (pc2 := 91) d_k_commit_90 rfl rfl ?_
      refine bind_in hf ?_
      clear hf
      intro r h_r hf
      refine Go.callp (pc2 := 94) (as := []) (S := []) (w := (some (vI r.1))) (os2 := [(b0, 17, r.2)]) (sz2 := sz) (S2 := [vI r.1]) (rm := R_k_insertPending) d_k_commit_91 rfl rfl (by exact w_112 hw) (by exact w_114 hw) (by exact w_113 hw) (by exact w_115 hw) rfl (by exact w_2 hw) (by exact w_1 hw) (q := 0) rfl (by decide) pd_k_insertPending (by decide) (Nat.le_of_ble_eq_true rfl) (by decide) (by decide) (nc := 0) (ns := 0) rfl rfl rfl (cu2 := 0) rfl (su2 := 0) rfl rfl (Pays.one (q := 0) rfl rfl (fun P2 hP2 => th_k_insertPending hw h_r)) rfl ?_
      refine Go.istoreN (pc2 := 95) (L2 := [some (vR b0), some (vI v1), some (vI r.1)]) d_k_commit_94 rfl (Nat.le_of_ble_eq_true rfl) rfl ?_
      refine Go.iloadN (pc2 := 96) d_k_commit_95 rfl rfl ?_
      by_cases hc : 0 < r.1
      · replace hf := ifp hc hf
        refine Go.ifT (pc2 := 102) d_k_commit_96 hc (by decide) (by decide) ?_
        refine Go.aloadN (pc2 := 103) d_k_commit_102 rfl rfl ?_
        refine Go.geta (pc2 := 106) d_k_commit_103 rfl rfl D_C (by exact w_12 hw) (q := 0) rfl (j := 1) rfl (Nat.le_of_ble_eq_true rfl) rfl ?_
        refine Go.iloadN (pc2 := 107) d_k_commit_106 rfl rfl ?_
        refine Go.iloadN (pc2 := 108) d_k_commit_107 rfl rfl ?_
        have hb := okb hf
        replace hf := ifp hb hf
        refine Go.iast (pc2 := 109) d_k_commit_108 rfl (q := 0) rfl (j := 1) rfl (Nat.le_of_ble_eq_true rfl) rfl hb (z := v1) (z' := v1) rfl (os2 := [(b0, 17, (upd r.2 2 (r.1.toNat) v1))]) rfl ?_
        refine Go.aloadN (pc2 := 110) d_k_commit_109 rfl rfl ?_
        refine Go.dup (pc2 := 111) d_k_commit_110 rfl rfl ?_
        refine Go.getf (pc2 := 114) d_k_commit_111 rfl rfl D_C (by exact w_50 hw) (q := 0) rfl (x := r.2 0 1) (u := vI (r.2 0 1)) (fs_words) rfl rfl ?_
        refine Go.iconst (pc2 := 115) d_k_commit_114 rfl (by decide) ?_
        refine Go.iadd (pc2 := 116) d_k_commit_115 rfl ?_
        refine Go.putf (pc2 := 119) (cw_ok hw) d_k_commit_116 rfl rfl D_C (by exact w_50 hw) (by exact Or.inl (w_51 hw)) (by exact w_1 hw) (q := 0) rfl (x := w32 ((r.2 0 1) + 1)) (x' := w32 ((r.2 0 1) + 1)) (fs_words) rfl rfl (os2 := [(b0, 17, (upd (upd r.2 2 (r.1.toNat) v1) 0 1 (w32 ((r.2 0 1) + 1))))]) rfl ?_
        refine Go.aloadN (pc2 := 120) d_k_commit_119 rfl rfl ?_
        refine Go.iconst (pc2 := 121) d_k_commit_120 rfl (by decide) ?_
        refine Go.putf (pc2 := 124) (cw_ok hw) d_k_commit_121 rfl rfl D_C (by exact w_54 hw) (by exact Or.inl (w_55 hw)) (by exact w_1 hw) (q := 0) rfl (x := 0) (x' := 0) (fs_pendLen) rfl rfl (os2 := [(b0, 17, (upd (upd (upd r.2 2 (r.1.toNat) v1) 0 1 (w32 ((r.2 0 1) + 1))) 0 3 0))]) rfl ?_
        refine Go.iconst (pc2 := 125) d_k_commit_124 rfl (by decide) ?_
        cases hf
        exact Go.reti d_k_commit_125 rfl (Nat.le_of_ble_eq_true rfl) (Nat.le_of_ble_eq_true rfl) (fun _ H => ⟨rfl, H⟩)
      · replace hf := ifn hc hf
        refine Go.ifF (pc2 := 99) d_k_commit_96 hc rfl ?_
        refine Go.bipush (pc2 := 101) d_k_commit_99 rfl (by decide) ?_
        cases hf
        exact Go.reti d_k_commit_101 rfl (Nat.le_of_ble_eq_true rfl) (Nat.le_of_ble_eq_true rfl) (fun _ H => ⟨rfl, H⟩)
  · replace hf := ifn hc hf
    refine Go.icmpT (pc2 := 87) d_k_commit_73 (Int.not_lt.mp hc) (by decide) (by decide) ?_
    refine Go.bipush (pc2 := 89) d_k_commit_87 rfl (by decide) ?_
    cases hf
    exact Go.reti d_k_commit_89 rfl (Nat.le_of_ble_eq_true rfl) (Nat.le_of_ble_eq_true rfl) (fun _ H => ⟨rfl, H⟩)
set_option maxRecDepth 65536 in
set_option maxHeartbeats 4000000 in
theorem th_k_commit {l : Launch} {Z : State} {a0 : Array Value} (hw : ∀ d ∈ tables_1, d.before a0 Z = true) {n0 : Nat} {P : Heap → Prop} {F : Nat} {b0 sz : Nat} {rr : Int} {Oz0 : Mo} {O0 : Mo} {v1 : Int} (hf : k_commit F O0 v1 = some ((rr, Oz0))) :
    Meth l Z D n0 P (⟨"FuzzyLexicon", "commit", "(I)I"⟩ : MethodName) prog_1_method_6_code 3 (some .int) R_k_commit [vR b0, vI v1] [(b0, 17, O0)] sz (QM Z D n0 P (some (vI rr)) [(b0, 17, Oz0)] sz) := by
  refine Meth.of (plainFor_of_name pn_cls) (Nat.le_of_ble_eq_true rfl) ?_
  show G_k_commit l Z n0 P 0 [some (vR b0), some (vI v1), none] [] [(b0, 17, O0)] sz 0 0 (QM Z D n0 P (some (vI rr)) [(b0, 17, Oz0)] sz)
  unfold k_commit at hf
  refine Go.aloadN (pc2 := 1) d_k_commit_0 rfl rfl ?_
  refine Go.getf (pc2 := 4) d_k_commit_1 rfl rfl D_C (by exact w_54 hw) (q := 0) rfl (x := O0 0 3) (u := vI (O0 0 3)) (fs_pendLen) rfl rfl ?_
  by_cases hc : O0 0 3 = 0
  · replace hf := ifp hc hf
    refine Go.ifF (pc2 := 7) d_k_commit_4 (fun q => q hc) rfl ?_
    refine Go.iconst (pc2 := 8) d_k_commit_7 rfl (by decide) ?_
    cases hf
    exact Go.reti d_k_commit_8 rfl (Nat.le_of_ble_eq_true rfl) (Nat.le_of_ble_eq_true rfl) (fun _ H => ⟨rfl, H⟩)
  · replace hf := ifn hc hf
    refine Go.ifT (pc2 := 9) d_k_commit_4 hc (by decide) (by decide) ?_
    refine Go.iloadN (pc2 := 10) d_k_commit_9 rfl rfl ?_
    refine Go.iconst (pc2 := 11) d_k_commit_10 rfl (by decide) ?_
    by_cases hc : v1 < 1
    · replace hf := ifp hc hf
      refine Go.icmpT (pc2 := 20) d_k_commit_11 hc (by decide) (by decide) ?_
      refine Go.bipush (pc2 := 22) d_k_commit_20 rfl (by decide) ?_
      cases hf
      exact Go.reti d_k_commit_22 rfl (Nat.le_of_ble_eq_true rfl) (Nat.le_of_ble_eq_true rfl) (fun _ H => ⟨rfl, H⟩)
    · replace hf := ifn hc hf
      refine Go.icmpF (pc2 := 14) d_k_commit_11 hc rfl ?_
      refine Go.iloadN (pc2 := 15) d_k_commit_14 rfl rfl ?_
      refine Go.ldc (pc2 := 17) (i := 1000000) d_k_commit_15 rfl rfl (by exact w_99 hw) (by decide) ?_
      by_cases hc : v1 ≤ 1000000
      · replace hf := ifp hc hf
        refine Go.icmpT (pc2 := 23) d_k_commit_17 hc (by decide) (by decide) ?_
        refine Go.aloadN (pc2 := 24) d_k_commit_23 rfl rfl ?_
        refine bind_in hf ?_
        clear hf
        intro r h_r hf
        refine Go.callp (pc2 := 27) (as := []) (S := []) (w := (some (vI r))) (os2 := [(b0, 17, O0)]) (sz2 := sz) (S2 := [vI r]) (rm := R_k_findPending) d_k_commit_24 rfl rfl (by exact w_100 hw) (by exact w_102 hw) (by exact w_101 hw) (by exact w_103 hw) rfl (by exact w_2 hw) (by exact w_1 hw) (q := 0) rfl (by decide) pd_k_findPending (by decide) (Nat.le_of_ble_eq_true rfl) (by decide) (by decide) (nc := 0) (ns := 0) rfl rfl rfl (cu2 := 0) rfl (su2 := 0) rfl rfl (Pays.one (q := 0) rfl rfl (fun P2 hP2 => th_k_findPending hw h_r)) rfl ?_
        refine Go.istoreN (pc2 := 28) (L2 := [some (vR b0), some (vI v1), some (vI r)]) d_k_commit_27 rfl (Nat.le_of_ble_eq_true rfl) rfl ?_
        refine Go.iloadN (pc2 := 29) d_k_commit_28 rfl rfl ?_
        by_cases hc : r ≤ 0
        · replace hf := ifp hc hf
          refine Go.ifT (pc2 := 65) d_k_commit_29 hc (by decide) (by decide) ?_
          exact Go.mask [true, true, false] (tj_k_commit_65 hw hf)
        · replace hf := ifn hc hf
          refine Go.ifF (pc2 := 32) d_k_commit_29 hc rfl ?_
          refine Go.aloadN (pc2 := 33) d_k_commit_32 rfl rfl ?_
          refine Go.geta (pc2 := 36) d_k_commit_33 rfl rfl D_C (by exact w_12 hw) (q := 0) rfl (j := 1) rfl (Nat.le_of_ble_eq_true rfl) rfl ?_
          refine Go.iloadN (pc2 := 37) d_k_commit_36 rfl rfl ?_
          have hb := okb hf
          replace hf := ifp hb hf
          refine Go.iald (pc2 := 38) d_k_commit_37 rfl (q := 0) rfl (j := 1) rfl (Nat.le_of_ble_eq_true rfl) rfl hb (z := O0 2 r.toNat) rfl ?_
          by_cases hc : O0 2 r.toNat ≤ 0
          · replace hf := ifp hc hf
            refine Go.ifT (pc2 := 65) d_k_commit_38 hc (by decide) (by decide) ?_
            exact Go.mask [true, true, false] (tj_k_commit_65 hw hf)
          · replace hf := ifn hc hf
            refine Go.ifF (pc2 := 41) d_k_commit_38 hc rfl ?_
            refine Go.aloadN (pc2 := 42) d_k_commit_41 rfl rfl ?_
            refine Go.geta (pc2 := 45) d_k_commit_42 rfl rfl D_C (by exact w_12 hw) (q := 0) rfl (j := 1) rfl (Nat.le_of_ble_eq_true rfl) rfl ?_
            refine Go.iloadN (pc2 := 46) d_k_commit_45 rfl rfl ?_
            refine Go.aloadN (pc2 := 47) d_k_commit_46 rfl rfl ?_
            refine Go.aloadN (pc2 := 48) d_k_commit_47 rfl rfl ?_
            refine Go.geta (pc2 := 51) d_k_commit_48 rfl rfl D_C (by exact w_12 hw) (q := 0) rfl (j := 1) rfl (Nat.le_of_ble_eq_true rfl) rfl ?_
            refine Go.iloadN (pc2 := 52) d_k_commit_51 rfl rfl ?_
            have hb := okb hf
            replace hf := ifp hb hf
            refine Go.iald (pc2 := 53) d_k_commit_52 rfl (q := 0) rfl (j := 1) rfl (Nat.le_of_ble_eq_true rfl) rfl hb (z := O0 2 r.toNat) rfl ?_
            refine Go.iloadN (pc2 := 54) d_k_commit_53 rfl rfl ?_
            refine Go.callp (pc2 := 57) (as := [vI (O0 2 r.toNat), vI v1]) (S := [vI r, vR (b0 + 1 + 1)]) (w := (some (vI (k_addFreq (O0 2 r.toNat) v1)))) (os2 := [(b0, 17, O0)]) (sz2 := sz) (S2 := [vI (k_addFreq (O0 2 r.toNat) v1), vI r, vR (b0 + 1 + 1)]) (rm := R_k_addFreq) d_k_commit_54 rfl rfl (by exact w_124 hw) (by exact w_126 hw) (by exact w_125 hw) (by exact w_127 hw) rfl (by exact w_2 hw) (by exact w_1 hw) (q := 0) rfl (by decide) pd_k_addFreq (by decide) (Nat.le_of_ble_eq_true rfl) (by decide) (by decide) (nc := 0) (ns := 0) rfl rfl rfl (cu2 := 0) rfl (su2 := 0) rfl rfl (Pays.one (q := 0) rfl rfl (fun P2 hP2 => th_k_addFreq hw rfl)) rfl ?_
            have hb := okb hf
            replace hf := ifp hb hf
            refine Go.iast (pc2 := 58) d_k_commit_57 rfl (q := 0) rfl (j := 1) rfl (Nat.le_of_ble_eq_true rfl) rfl hb (z := k_addFreq (O0 2 r.toNat) v1) (z' := k_addFreq (O0 2 r.toNat) v1) rfl (os2 := [(b0, 17, (upd O0 2 (r.toNat) (k_addFreq (O0 2 r.toNat) v1)))]) rfl ?_
            refine Go.aloadN (pc2 := 59) d_k_commit_58 rfl rfl ?_
            refine Go.iconst (pc2 := 60) d_k_commit_59 rfl (by decide) ?_
            refine Go.putf (pc2 := 63) (cw_ok hw) d_k_commit_60 rfl rfl D_C (by exact w_54 hw) (by exact Or.inl (w_55 hw)) (by exact w_1 hw) (q := 0) rfl (x := 0) (x' := 0) (fs_pendLen) rfl rfl (os2 := [(b0, 17, (upd (upd O0 2 (r.toNat) (k_addFreq (O0 2 r.toNat) v1)) 0 3 0))]) rfl ?_
            refine Go.iconst (pc2 := 64) d_k_commit_63 rfl (by decide) ?_
            cases hf
            exact Go.reti d_k_commit_64 rfl (Nat.le_of_ble_eq_true rfl) (Nat.le_of_ble_eq_true rfl) (fun _ H => ⟨rfl, H⟩)
      · replace hf := ifn hc hf
        refine Go.icmpF (pc2 := 20) d_k_commit_17 hc rfl ?_
        refine Go.bipush (pc2 := 22) d_k_commit_20 rfl (by decide) ?_
        cases hf
        exact Go.reti d_k_commit_22 rfl (Nat.le_of_ble_eq_true rfl) (Nat.le_of_ble_eq_true rfl) (fun _ H => ⟨rfl, H⟩)
set_option maxRecDepth 65536 in
set_option maxHeartbeats 4000000 in
theorem th_k_pendClear {l : Launch} {Z : State} {a0 : Array Value} (hw : ∀ d ∈ tables_1, d.before a0 Z = true) {n0 : Nat} {P : Heap → Prop} {F : Nat} {b0 sz : Nat} {Oz0 : Mo} {O0 : Mo} (hf : k_pendClear F O0 = some Oz0) :
    Meth l Z D n0 P (⟨"FuzzyLexicon", "pendClear", "()V"⟩ : MethodName) prog_1_method_4_code 1 none R_k_pendClear [vR b0] [(b0, 17, O0)] sz (QM Z D n0 P none [(b0, 17, Oz0)] sz) := by
  refine Meth.of (plainFor_of_name pn_cls) (Nat.le_of_ble_eq_true rfl) ?_
  show G_k_pendClear l Z n0 P 0 [some (vR b0)] [] [(b0, 17, O0)] sz 0 0 (QM Z D n0 P none [(b0, 17, Oz0)] sz)
  unfold k_pendClear at hf
  refine Go.aloadN (pc2 := 1) d_k_pendClear_0 rfl rfl ?_
  refine Go.iconst (pc2 := 2) d_k_pendClear_1 rfl (by decide) ?_
  refine Go.putf (pc2 := 5) (cw_ok hw) d_k_pendClear_2 rfl rfl D_C (by exact w_54 hw) (by exact Or.inl (w_55 hw)) (by exact w_1 hw) (q := 0) rfl (x := 0) (x' := 0) (fs_pendLen) rfl rfl (os2 := [(b0, 17, (upd O0 0 3 0))]) rfl ?_
  cases hf
  exact Go.retv d_k_pendClear_5 rfl (Nat.le_of_ble_eq_true rfl) (Nat.le_of_ble_eq_true rfl) (fun _ H => ⟨rfl, H⟩)
set_option maxRecDepth 65536 in
set_option maxHeartbeats 4000000 in
theorem th_k_wordCount {l : Launch} {Z : State} {a0 : Array Value} (hw : ∀ d ∈ tables_1, d.before a0 Z = true) {n0 : Nat} {P : Heap → Prop} {b0 sz : Nat} {rr : Int} {O0 : Mo} (hf : k_wordCount O0 = rr) :
    Meth l Z D n0 P (⟨"FuzzyLexicon", "wordCount", "()I"⟩ : MethodName) prog_1_method_8_code 1 (some .int) R_k_wordCount [vR b0] [(b0, 17, O0)] sz (QM Z D n0 P (some (vI rr)) [(b0, 17, O0)] sz) := by
  refine Meth.of (plainFor_of_name pn_cls) (Nat.le_of_ble_eq_true rfl) ?_
  show G_k_wordCount l Z n0 P 0 [some (vR b0)] [] [(b0, 17, O0)] sz 0 0 (QM Z D n0 P (some (vI rr)) [(b0, 17, O0)] sz)
  unfold k_wordCount at hf
  refine Go.aloadN (pc2 := 1) d_k_wordCount_0 rfl rfl ?_
  refine Go.getf (pc2 := 4) d_k_wordCount_1 rfl rfl D_C (by exact w_50 hw) (q := 0) rfl (x := O0 0 1) (u := vI (O0 0 1)) (fs_words) rfl rfl ?_
  cases hf
  exact Go.reti d_k_wordCount_4 rfl (Nat.le_of_ble_eq_true rfl) (Nat.le_of_ble_eq_true rfl) (fun _ H => ⟨rfl, H⟩)
set_option maxRecDepth 65536 in
set_option maxHeartbeats 4000000 in
theorem th_k_pendingLength {l : Launch} {Z : State} {a0 : Array Value} (hw : ∀ d ∈ tables_1, d.before a0 Z = true) {n0 : Nat} {P : Heap → Prop} {b0 sz : Nat} {rr : Int} {O0 : Mo} (hf : k_pendingLength O0 = rr) :
    Meth l Z D n0 P (⟨"FuzzyLexicon", "pendingLength", "()I"⟩ : MethodName) prog_1_method_5_code 1 (some .int) R_k_pendingLength [vR b0] [(b0, 17, O0)] sz (QM Z D n0 P (some (vI rr)) [(b0, 17, O0)] sz) := by
  refine Meth.of (plainFor_of_name pn_cls) (Nat.le_of_ble_eq_true rfl) ?_
  show G_k_pendingLength l Z n0 P 0 [some (vR b0)] [] [(b0, 17, O0)] sz 0 0 (QM Z D n0 P (some (vI rr)) [(b0, 17, O0)] sz)
  unfold k_pendingLength at hf
  refine Go.aloadN (pc2 := 1) d_k_pendingLength_0 rfl rfl ?_
  refine Go.getf (pc2 := 4) d_k_pendingLength_1 rfl rfl D_C (by exact w_54 hw) (q := 0) rfl (x := O0 0 3) (u := vI (O0 0 3)) (fs_pendLen) rfl rfl ?_
  cases hf
  exact Go.reti d_k_pendingLength_4 rfl (Nat.le_of_ble_eq_true rfl) (Nat.le_of_ble_eq_true rfl) (fun _ H => ⟨rfl, H⟩)
set_option maxRecDepth 65536 in
set_option maxHeartbeats 4000000 in
theorem th_k_pendFreq {l : Launch} {Z : State} {a0 : Array Value} (hw : ∀ d ∈ tables_1, d.before a0 Z = true) {n0 : Nat} {P : Heap → Prop} {F : Nat} {b0 sz : Nat} {rr : Int} {O0 : Mo} (hf : k_pendFreq F O0 = some rr) :
    Meth l Z D n0 P (⟨"FuzzyLexicon", "pendFreq", "()I"⟩ : MethodName) prog_1_method_7_code 2 (some .int) R_k_pendFreq [vR b0] [(b0, 17, O0)] sz (QM Z D n0 P (some (vI rr)) [(b0, 17, O0)] sz) := by
  refine Meth.of (plainFor_of_name pn_cls) (Nat.le_of_ble_eq_true rfl) ?_
  show G_k_pendFreq l Z n0 P 0 [some (vR b0), none] [] [(b0, 17, O0)] sz 0 0 (QM Z D n0 P (some (vI rr)) [(b0, 17, O0)] sz)
  unfold k_pendFreq at hf
  refine Go.aloadN (pc2 := 1) d_k_pendFreq_0 rfl rfl ?_
  refine Go.getf (pc2 := 4) d_k_pendFreq_1 rfl rfl D_C (by exact w_54 hw) (q := 0) rfl (x := O0 0 3) (u := vI (O0 0 3)) (fs_pendLen) rfl rfl ?_
  by_cases hc : O0 0 3 = 0
  · replace hf := ifp hc hf
    refine Go.ifF (pc2 := 7) d_k_pendFreq_4 (fun q => q hc) rfl ?_
    refine Go.iconst (pc2 := 8) d_k_pendFreq_7 rfl (by decide) ?_
    cases hf
    exact Go.reti d_k_pendFreq_8 rfl (Nat.le_of_ble_eq_true rfl) (Nat.le_of_ble_eq_true rfl) (fun _ H => ⟨rfl, H⟩)
  · replace hf := ifn hc hf
    refine Go.ifT (pc2 := 9) d_k_pendFreq_4 hc (by decide) (by decide) ?_
    refine Go.aloadN (pc2 := 10) d_k_pendFreq_9 rfl rfl ?_
    refine bind_in hf ?_
    clear hf
    intro r h_r hf
    refine Go.callp (pc2 := 13) (as := []) (S := []) (w := (some (vI r))) (os2 := [(b0, 17, O0)]) (sz2 := sz) (S2 := [vI r]) (rm := R_k_findPending) d_k_pendFreq_10 rfl rfl (by exact w_100 hw) (by exact w_102 hw) (by exact w_101 hw) (by exact w_103 hw) rfl (by exact w_2 hw) (by exact w_1 hw) (q := 0) rfl (by decide) pd_k_findPending (by decide) (Nat.le_of_ble_eq_true rfl) (by decide) (by decide) (nc := 0) (ns := 0) rfl rfl rfl (cu2 := 0) rfl (su2 := 0) rfl rfl (Pays.one (q := 0) rfl rfl (fun P2 hP2 => th_k_findPending hw h_r)) rfl ?_
    refine Go.istoreN (pc2 := 14) (L2 := [some (vR b0), some (vI r)]) d_k_pendFreq_13 rfl (Nat.le_of_ble_eq_true rfl) rfl ?_
    refine Go.iloadN (pc2 := 15) d_k_pendFreq_14 rfl rfl ?_
    by_cases hc : 0 < r
    · replace hf := ifp hc hf
      refine Go.ifT (pc2 := 20) d_k_pendFreq_15 hc (by decide) (by decide) ?_
      refine Go.aloadN (pc2 := 21) d_k_pendFreq_20 rfl rfl ?_
      refine Go.geta (pc2 := 24) d_k_pendFreq_21 rfl rfl D_C (by exact w_12 hw) (q := 0) rfl (j := 1) rfl (Nat.le_of_ble_eq_true rfl) rfl ?_
      refine Go.iloadN (pc2 := 25) d_k_pendFreq_24 rfl rfl ?_
      have hb := okb hf
      replace hf := ifp hb hf
      refine Go.iald (pc2 := 26) d_k_pendFreq_25 rfl (q := 0) rfl (j := 1) rfl (Nat.le_of_ble_eq_true rfl) rfl hb (z := O0 2 r.toNat) rfl ?_
      cases hf
      exact Go.reti d_k_pendFreq_26 rfl (Nat.le_of_ble_eq_true rfl) (Nat.le_of_ble_eq_true rfl) (fun _ H => ⟨rfl, H⟩)
    · replace hf := ifn hc hf
      refine Go.ifF (pc2 := 18) d_k_pendFreq_15 hc rfl ?_
      refine Go.iconst (pc2 := 19) d_k_pendFreq_18 rfl (by decide) ?_
      cases hf
      exact Go.reti d_k_pendFreq_19 rfl (Nat.le_of_ble_eq_true rfl) (Nat.le_of_ble_eq_true rfl) (fun _ H => ⟨rfl, H⟩)
set_option maxRecDepth 65536 in
set_option maxHeartbeats 4000000 in
theorem tj_u_law_307 {l : Launch} {Z : State} {a0 : Array Value} (hw : ∀ d ∈ tables_1, d.before a0 Z = true) {n0 : Nat} {P : Heap → Prop} (hst : ∀ b, n0 ≤ b → StB D b P) {F : Nat} {rr : Int} {O0 : Mo} {s0 s1 : Int} (hf : j_u_law_307 F O0 s0 s1 = some rr) :
    G_u_law l Z n0 P 307 [none, none, none, none, none, none, none, none, none, none, none, none, none, none] [vI s0, vI s1] [(n0, 17, O0)] ((n0 + 18)) 18 8284 (QL rr) := by
  unfold j_u_law_307 at hf
  by_cases hc : s1 = s0
  · replace hf := ifp hc hf
    refine Go.icmpF (pc2 := 310) at_307 (fun q => q hc) rfl ?_
    refine Go.iconst (pc2 := 311) at_310 rfl (by decide) ?_
    refine Go.goto (pc2 := 315) at_311 (by decide) (by decide) ?_
    cases hf
    exact Go.retz at_315 rfl rfl (Nat.le_of_ble_eq_true rfl) (Nat.le_of_ble_eq_true rfl) (fun _ _ => rfl)
  · replace hf := ifn hc hf
    refine Go.icmpT (pc2 := 314) at_307 hc (by decide) (by decide) ?_
    refine Go.iconst (pc2 := 315) at_314 rfl (by decide) ?_
    cases hf
    exact Go.retz at_315 rfl rfl (Nat.le_of_ble_eq_true rfl) (Nat.le_of_ble_eq_true rfl) (fun _ _ => rfl)
set_option maxRecDepth 65536 in
set_option maxHeartbeats 4000000 in
theorem tj_u_law_273 {l : Launch} {Z : State} {a0 : Array Value} (hw : ∀ d ∈ tables_1, d.before a0 Z = true) {n0 : Nat} {P : Heap → Prop} (hst : ∀ b, n0 ≤ b → StB D b P) {F : Nat} {rr : Int} {O0 : Mo} {v1 v5 v10 v13 s0 s1 : Int} (hf : j_u_law_273 F O0 v1 v5 v10 v13 s0 s1 = some rr) :
    G_u_law l Z n0 P 273 [none, some (vI v1), none, none, some (vR n0), some (vI v5), none, none, none, none, some (vI v10), none, none, some (vI v13)] [vI s0, vI s1] [(n0, 17, O0)] ((n0 + 18)) 18 8284 (QL rr) := by
  unfold j_u_law_273 at hf
  by_cases hc : s1 = s0
  · replace hf := ifp hc hf
    refine Go.icmpT (pc2 := 278) at_273 hc (by decide) (by decide) ?_
    refine Go.aload (pc2 := 280) at_278 rfl rfl ?_
    refine Go.iloadN (pc2 := 281) at_280 rfl rfl ?_
    refine bind_in hf ?_
    clear hf
    intro r h_r hf
    refine Go.callv (pc2 := 284) (as := [vI v1]) (S := []) (w := (some (vI r.1))) (os2 := [(n0, 17, r.2)]) (sz2 := (n0 + 18)) (S2 := [vI r.1]) (rm := R_k_pendChar) at_281 rfl xc (by exact w_65 hw) (by exact w_66 hw) D_C (by exact w_68 hw) (by exact w_67 hw) (by exact w_69 hw) rfl (by exact w_2 hw) (q := 0) rfl (by decide) pd_k_pendChar (by decide) (Nat.le_of_ble_eq_true rfl) (by decide) (by decide) (nc := 0) (ns := 0) rfl rfl rfl (cu2 := 18) rfl (su2 := 8284) rfl rfl (Pays.one (q := 0) rfl rfl (fun P2 hP2 => th_k_pendChar hw h_r)) rfl ?_
    refine Go.iload (pc2 := 286) at_284 rfl rfl ?_
    by_cases hc : r.1 = v5
    · replace hf := ifp hc hf
      refine Go.icmpT (pc2 := 291) at_286 hc (by decide) (by decide) ?_
      refine Go.aload (pc2 := 293) at_291 rfl rfl ?_
      refine bind_in hf ?_
      clear hf
      intro r_1 h_r_1 hf
      refine Go.callv (pc2 := 296) (as := []) (S := []) (w := (some (vI r_1))) (os2 := [(n0, 17, r.2)]) (sz2 := (n0 + 18)) (S2 := [vI r_1]) (rm := R_k_pendFreq) at_293 rfl xc (by exact w_94 hw) (by exact w_95 hw) D_C (by exact w_97 hw) (by exact w_96 hw) (by exact w_98 hw) rfl (by exact w_2 hw) (q := 0) rfl (by decide) pd_k_pendFreq (by decide) (Nat.le_of_ble_eq_true rfl) (by decide) (by decide) (nc := 0) (ns := 0) rfl rfl rfl (cu2 := 18) rfl (su2 := 8284) rfl rfl (Pays.one (q := 0) rfl rfl (fun P2 hP2 => th_k_pendFreq hw h_r_1)) rfl ?_
      refine Go.iload (pc2 := 298) at_296 rfl rfl ?_
      by_cases hc : v13 = 0
      · replace hf := ifp hc hf
        refine Go.ifT (pc2 := 305) at_298 hc (by decide) (by decide) ?_
        refine Go.iload (pc2 := 307) at_305 rfl rfl ?_
        exact Go.mask [true, false, true, true, false, false, true, true, true, true, false, true, true, false] (tj_u_law_307 hw hst hf)
      · replace hf := ifn hc hf
        refine Go.ifF (pc2 := 301) at_298 hc rfl ?_
        refine Go.iconst (pc2 := 302) at_301 rfl (by decide) ?_
        refine Go.goto (pc2 := 307) at_302 (by decide) (by decide) ?_
        exact Go.mask [true, false, true, true, false, false, true, true, true, true, false, true, true, false] (tj_u_law_307 hw hst hf)
    · replace hf := ifn hc hf
      refine Go.icmpF (pc2 := 289) at_286 hc rfl ?_
      refine Go.iconst (pc2 := 290) at_289 rfl (by decide) ?_
      cases hf
      exact Go.retz at_290 rfl rfl (Nat.le_of_ble_eq_true rfl) (Nat.le_of_ble_eq_true rfl) (fun _ _ => rfl)
  · replace hf := ifn hc hf
    refine Go.icmpF (pc2 := 276) at_273 hc rfl ?_
    refine Go.iconst (pc2 := 277) at_276 rfl (by decide) ?_
    cases hf
    exact Go.retz at_277 rfl rfl (Nat.le_of_ble_eq_true rfl) (Nat.le_of_ble_eq_true rfl) (fun _ _ => rfl)
set_option maxRecDepth 65536 in
set_option maxHeartbeats 4000000 in
theorem tj_u_law_256 {l : Launch} {Z : State} {a0 : Array Value} (hw : ∀ d ∈ tables_1, d.before a0 Z = true) {n0 : Nat} {P : Heap → Prop} (hst : ∀ b, n0 ≤ b → StB D b P) {F : Nat} {rr : Int} {O0 : Mo} {v1 v5 v10 s0 : Int} (hf : j_u_law_256 F O0 v1 v5 v10 s0 = some rr) :
    G_u_law l Z n0 P 256 [none, some (vI v1), none, none, some (vR n0), some (vI v5), none, none, none, none, some (vI v10), none, none, none] [vI s0] [(n0, 17, O0)] ((n0 + 18)) 18 8284 (QL rr) := by
  unfold j_u_law_256 at hf
  refine Go.istore (pc2 := 258) (L2 := [none, some (vI v1), none, none, some (vR n0), some (vI v5), none, none, none, none, some (vI v10), none, none, some (vI s0)]) at_256 rfl (Nat.le_of_ble_eq_true rfl) rfl ?_
  refine Go.aload (pc2 := 260) at_258 rfl rfl ?_
  refine Go.callv (pc2 := 263) (as := []) (S := []) (w := (some (vI (k_pendingLength O0)))) (os2 := [(n0, 17, O0)]) (sz2 := (n0 + 18)) (S2 := [vI (k_pendingLength O0)]) (rm := R_k_pendingLength) at_260 rfl xc (by exact w_89 hw) (by exact w_90 hw) D_C (by exact w_92 hw) (by exact w_91 hw) (by exact w_93 hw) rfl (by exact w_2 hw) (q := 0) rfl (by decide) pd_k_pendingLength (by decide) (Nat.le_of_ble_eq_true rfl) (by decide) (by decide) (nc := 0) (ns := 0) rfl rfl rfl (cu2 := 18) rfl (su2 := 8284) rfl rfl (Pays.one (q := 0) rfl rfl (fun P2 hP2 => th_k_pendingLength hw rfl)) rfl ?_
  refine Go.iload (pc2 := 265) at_263 rfl rfl ?_
  by_cases hc : s0 = 0
  · replace hf := ifp hc hf
    refine Go.ifT (pc2 := 272) at_265 hc (by decide) (by decide) ?_
    refine Go.iconst (pc2 := 273) at_272 rfl (by decide) ?_
    exact tj_u_law_273 hw hst hf
  · replace hf := ifn hc hf
    refine Go.ifF (pc2 := 268) at_265 hc rfl ?_
    refine Go.iconst (pc2 := 269) at_268 rfl (by decide) ?_
    refine Go.goto (pc2 := 273) at_269 (by decide) (by decide) ?_
    exact tj_u_law_273 hw hst hf
set_option maxRecDepth 65536 in
set_option maxHeartbeats 4000000 in
theorem tj_u_law_236 {l : Launch} {Z : State} {a0 : Array Value} (hw : ∀ d ∈ tables_1, d.before a0 Z = true) {n0 : Nat} {P : Heap → Prop} (hst : ∀ b, n0 ≤ b → StB D b P) {F : Nat} {rr : Int} {O0 : Mo} {v1 v5 v10 v12 s0 s1 : Int} (hf : j_u_law_236 F O0 v1 v5 v10 v12 s0 s1 = some rr) :
    G_u_law l Z n0 P 236 [none, some (vI v1), none, none, some (vR n0), some (vI v5), none, none, none, none, some (vI v10), none, some (vI v12), none] [vI s0, vI s1] [(n0, 17, O0)] ((n0 + 18)) 18 8284 (QL rr) := by
  unfold j_u_law_236 at hf
  by_cases hc : s1 = s0
  · replace hf := ifp hc hf
    refine Go.icmpT (pc2 := 241) at_236 hc (by decide) (by decide) ?_
    refine Go.iload (pc2 := 243) at_241 rfl rfl ?_
    by_cases hc : v5 = 0
    · replace hf := ifp hc hf
      refine Go.ifT (pc2 := 255) at_243 hc (by decide) (by decide) ?_
      refine Go.iconst (pc2 := 256) at_255 rfl (by decide) ?_
      exact Go.mask [true, true, true, true, true, true, true, true, true, true, true, true, false, true] (tj_u_law_256 hw hst hf)
    · replace hf := ifn hc hf
      refine Go.ifF (pc2 := 246) at_243 hc rfl ?_
      refine Go.iload (pc2 := 248) at_246 rfl rfl ?_
      by_cases hc : v12 < 0
      · replace hf := ifp hc hf
        refine Go.ifF (pc2 := 251) at_248 (Int.not_le.mpr hc) rfl ?_
        refine Go.iconst (pc2 := 252) at_251 rfl (by decide) ?_
        refine Go.goto (pc2 := 256) at_252 (by decide) (by decide) ?_
        exact Go.mask [true, true, true, true, true, true, true, true, true, true, true, true, false, true] (tj_u_law_256 hw hst hf)
      · replace hf := ifn hc hf
        refine Go.ifT (pc2 := 255) at_248 (Int.not_lt.mp hc) (by decide) (by decide) ?_
        refine Go.iconst (pc2 := 256) at_255 rfl (by decide) ?_
        exact Go.mask [true, true, true, true, true, true, true, true, true, true, true, true, false, true] (tj_u_law_256 hw hst hf)
  · replace hf := ifn hc hf
    refine Go.icmpF (pc2 := 239) at_236 hc rfl ?_
    refine Go.iconst (pc2 := 240) at_239 rfl (by decide) ?_
    cases hf
    exact Go.retz at_240 rfl rfl (Nat.le_of_ble_eq_true rfl) (Nat.le_of_ble_eq_true rfl) (fun _ _ => rfl)
set_option maxRecDepth 65536 in
set_option maxHeartbeats 4000000 in
theorem tj_u_law_221 {l : Launch} {Z : State} {a0 : Array Value} (hw : ∀ d ∈ tables_1, d.before a0 Z = true) {n0 : Nat} {P : Heap → Prop} (hst : ∀ b, n0 ≤ b → StB D b P) {F : Nat} {rr : Int} {O0 : Mo} {v1 v5 v10 v12 : Int} (hf : j_u_law_221 F O0 v1 v5 v10 v12 = some rr) :
    G_u_law l Z n0 P 221 [none, some (vI v1), none, none, some (vR n0), some (vI v5), none, none, none, none, some (vI v10), none, some (vI v12), none] [] [(n0, 17, O0)] ((n0 + 18)) 18 8284 (QL rr) := by
  unfold j_u_law_221 at hf
  refine Go.aload (pc2 := 223) at_221 rfl rfl ?_
  refine Go.callv (pc2 := 226) (as := []) (S := []) (w := (some (vI (k_wordCount O0)))) (os2 := [(n0, 17, O0)]) (sz2 := (n0 + 18)) (S2 := [vI (k_wordCount O0)]) (rm := R_k_wordCount) at_223 rfl xc (by exact w_84 hw) (by exact w_85 hw) D_C (by exact w_87 hw) (by exact w_86 hw) (by exact w_88 hw) rfl (by exact w_2 hw) (q := 0) rfl (by decide) pd_k_wordCount (by decide) (Nat.le_of_ble_eq_true rfl) (by decide) (by decide) (nc := 0) (ns := 0) rfl rfl rfl (cu2 := 18) rfl (su2 := 8284) rfl rfl (Pays.one (q := 0) rfl rfl (fun P2 hP2 => th_k_wordCount hw rfl)) rfl ?_
  refine Go.iload (pc2 := 228) at_226 rfl rfl ?_
  by_cases hc : v10 ≤ 0
  · replace hf := ifp hc hf
    refine Go.ifT (pc2 := 235) at_228 hc (by decide) (by decide) ?_
    refine Go.iconst (pc2 := 236) at_235 rfl (by decide) ?_
    exact tj_u_law_236 hw hst hf
  · replace hf := ifn hc hf
    refine Go.ifF (pc2 := 231) at_228 hc rfl ?_
    refine Go.iconst (pc2 := 232) at_231 rfl (by decide) ?_
    refine Go.goto (pc2 := 236) at_232 (by decide) (by decide) ?_
    exact tj_u_law_236 hw hst hf
set_option maxRecDepth 65536 in
set_option maxHeartbeats 4000000 in
theorem tj_u_law_219 {l : Launch} {Z : State} {a0 : Array Value} (hw : ∀ d ∈ tables_1, d.before a0 Z = true) {n0 : Nat} {P : Heap → Prop} (hst : ∀ b, n0 ≤ b → StB D b P) {F : Nat} {rr : Int} {O0 : Mo} {v1 v5 v12 s0 : Int} (hf : j_u_law_219 F O0 v1 v5 v12 s0 = some rr) :
    G_u_law l Z n0 P 219 [none, some (vI v1), none, none, some (vR n0), some (vI v5), none, none, none, none, none, none, some (vI v12), none] [vI s0] [(n0, 17, O0)] ((n0 + 18)) 18 8284 (QL rr) := by
  unfold j_u_law_219 at hf
  refine Go.istore (pc2 := 221) (L2 := [none, some (vI v1), none, none, some (vR n0), some (vI v5), none, none, none, none, some (vI s0), none, some (vI v12), none]) at_219 rfl (Nat.le_of_ble_eq_true rfl) rfl ?_
  exact tj_u_law_221 hw hst hf
set_option maxRecDepth 65536 in
set_option maxHeartbeats 4000000 in
theorem tj_u_law_185 {l : Launch} {Z : State} {a0 : Array Value} (hw : ∀ d ∈ tables_1, d.before a0 Z = true) {n0 : Nat} {P : Heap → Prop} (hst : ∀ b, n0 ≤ b → StB D b P) {F : Nat} {rr : Int} {O0 : Mo} {v1 v3 v5 v10 v11 s0 : Int} (hf : j_u_law_185 F O0 v1 v3 v5 v10 v11 s0 = some rr) :
    G_u_law l Z n0 P 185 [none, some (vI v1), none, some (vI v3), some (vR n0), some (vI v5), none, none, none, none, some (vI v10), some (vI v11), none, none] [vI s0] [(n0, 17, O0)] ((n0 + 18)) 18 8284 (QL rr) := by
  unfold j_u_law_185 at hf
  refine Go.istore (pc2 := 187) (L2 := [none, some (vI v1), none, some (vI v3), some (vR n0), some (vI v5), none, none, none, none, some (vI v10), some (vI v11), some (vI s0), none]) at_185 rfl (Nat.le_of_ble_eq_true rfl) rfl ?_
  refine Go.iload (pc2 := 189) at_187 rfl rfl ?_
  refine Go.iload (pc2 := 191) at_189 rfl rfl ?_
  by_cases hc : v11 = s0
  · replace hf := ifp hc hf
    refine Go.icmpT (pc2 := 196) at_191 hc (by decide) (by decide) ?_
    refine Go.iload (pc2 := 198) at_196 rfl rfl ?_
    by_cases hc : s0 ≤ 0
    · replace hf := ifp hc hf
      refine Go.ifT (pc2 := 221) at_198 hc (by decide) (by decide) ?_
      exact Go.mask [true, true, true, false, true, true, true, true, true, true, true, false, true, true] (tj_u_law_221 hw hst hf)
    · replace hf := ifn hc hf
      refine Go.ifF (pc2 := 201) at_198 hc rfl ?_
      refine Go.iload (pc2 := 203) at_201 rfl rfl ?_
      refine Go.iloadN (pc2 := 204) at_203 rfl rfl ?_
      refine Go.iadd (pc2 := 205) at_204 rfl ?_
      refine Go.ldc (pc2 := 207) (i := 1000000) at_205 rfl xc (by exact w_64 hw) (by decide) ?_
      by_cases hc : w32 (v10 + v3) ≤ 1000000
      · replace hf := ifp hc hf
        refine Go.icmpT (pc2 := 215) at_207 hc (by decide) (by decide) ?_
        refine Go.iload (pc2 := 217) at_215 rfl rfl ?_
        refine Go.iloadN (pc2 := 218) at_217 rfl rfl ?_
        refine Go.iadd (pc2 := 219) at_218 rfl ?_
        exact Go.mask [true, true, true, false, true, true, true, true, true, true, false, false, true, true] (tj_u_law_219 hw hst hf)
      · replace hf := ifn hc hf
        refine Go.icmpF (pc2 := 210) at_207 hc rfl ?_
        refine Go.ldc (pc2 := 212) (i := 1000000) at_210 rfl xc (by exact w_64 hw) (by decide) ?_
        refine Go.goto (pc2 := 219) at_212 (by decide) (by decide) ?_
        exact Go.mask [true, true, true, false, true, true, true, true, true, true, false, false, true, true] (tj_u_law_219 hw hst hf)
  · replace hf := ifn hc hf
    refine Go.icmpF (pc2 := 194) at_191 hc rfl ?_
    refine Go.iconst (pc2 := 195) at_194 rfl (by decide) ?_
    cases hf
    exact Go.retz at_195 rfl rfl (Nat.le_of_ble_eq_true rfl) (Nat.le_of_ble_eq_true rfl) (fun _ _ => rfl)
set_option maxRecDepth 65536 in
set_option maxHeartbeats 4000000 in
theorem tj_u_law_128 {l : Launch} {Z : State} {a0 : Array Value} (hw : ∀ d ∈ tables_1, d.before a0 Z = true) {n0 : Nat} {P : Heap → Prop} (hst : ∀ b, n0 ≤ b → StB D b P) {F : Nat} {rr : Int} {O0 : Mo} {v1 v3 v5 v7 s0 : Int} (hf : j_u_law_128 F O0 v1 v3 v5 v7 s0 = some rr) :
    G_u_law l Z n0 P 128 [none, some (vI v1), none, some (vI v3), some (vR n0), some (vI v5), none, some (vI v7), none, none, none, none, none, none] [vI s0] [(n0, 17, O0)] ((n0 + 18)) 18 8284 (QL rr) := by
  unfold j_u_law_128 at hf
  refine Go.istore (pc2 := 130) (L2 := [none, some (vI v1), none, some (vI v3), some (vR n0), some (vI v5), none, some (vI v7), none, none, some (vI s0), none, none, none]) at_128 rfl (Nat.le_of_ble_eq_true rfl) rfl ?_
  refine Go.aload (pc2 := 132) at_130 rfl rfl ?_
  refine bind_in hf ?_
  clear hf
  intro r h_r hf
  refine Go.callv (pc2 := 135) (as := []) (S := []) (w := none) (os2 := [(n0, 17, r)]) (sz2 := (n0 + 18)) (S2 := []) (rm := R_k_pendClear) at_132 rfl xc (by exact w_79 hw) (by exact w_80 hw) D_C (by exact w_82 hw) (by exact w_81 hw) (by exact w_83 hw) rfl (by exact w_2 hw) (q := 0) rfl (by decide) pd_k_pendClear (by decide) (Nat.le_of_ble_eq_true rfl) (by decide) (by decide) (nc := 0) (ns := 0) rfl rfl rfl (cu2 := 18) rfl (su2 := 8284) rfl rfl (Pays.one (q := 0) rfl rfl (fun P2 hP2 => th_k_pendClear hw h_r)) rfl ?_
  refine Go.aload (pc2 := 137) at_135 rfl rfl ?_
  refine Go.iloadN (pc2 := 138) at_137 rfl rfl ?_
  refine bind_in hf ?_
  clear hf
  intro r_1 h_r_1 hf
  refine Go.callv (pc2 := 141) (as := [vI v1]) (S := []) (w := (some (vI r_1.1))) (os2 := [(n0, 17, r_1.2)]) (sz2 := (n0 + 18)) (S2 := [vI r_1.1]) (rm := R_k_pendChar) at_138 rfl xc (by exact w_65 hw) (by exact w_66 hw) D_C (by exact w_68 hw) (by exact w_67 hw) (by exact w_69 hw) rfl (by exact w_2 hw) (q := 0) rfl (by decide) pd_k_pendChar (by decide) (Nat.le_of_ble_eq_true rfl) (by decide) (by decide) (nc := 0) (ns := 0) rfl rfl rfl (cu2 := 18) rfl (su2 := 8284) rfl rfl (Pays.one (q := 0) rfl rfl (fun P2 hP2 => th_k_pendChar hw h_r_1)) rfl ?_
  refine Go.iload (pc2 := 143) at_141 rfl rfl ?_
  by_cases hc : r_1.1 = v5
  · replace hf := ifp hc hf
    refine Go.icmpT (pc2 := 148) at_143 hc (by decide) (by decide) ?_
    refine Go.aload (pc2 := 150) at_148 rfl rfl ?_
    refine Go.iloadN (pc2 := 151) at_150 rfl rfl ?_
    refine bind_in hf ?_
    clear hf
    intro r_2 h_r_2 hf
    refine Go.callv (pc2 := 154) (as := [vI v3]) (S := []) (w := (some (vI r_2.1))) (os2 := [(n0, 17, r_2.2)]) (sz2 := (n0 + 18)) (S2 := [vI r_2.1]) (rm := R_k_commit) at_151 rfl xc (by exact w_74 hw) (by exact w_75 hw) D_C (by exact w_77 hw) (by exact w_76 hw) (by exact w_78 hw) rfl (by exact w_2 hw) (q := 0) rfl (by decide) pd_k_commit (by decide) (Nat.le_of_ble_eq_true rfl) (by decide) (by decide) (nc := 0) (ns := 0) rfl rfl rfl (cu2 := 18) rfl (su2 := 8284) rfl rfl (Pays.one (q := 0) rfl rfl (fun P2 hP2 => th_k_commit hw h_r_2)) rfl ?_
    refine Go.istore (pc2 := 156) (L2 := [none, some (vI v1), none, some (vI v3), some (vR n0), some (vI v5), none, some (vI v7), none, none, some (vI s0), some (vI r_2.1), none, none]) at_154 rfl (Nat.le_of_ble_eq_true rfl) rfl ?_
    refine Go.iload (pc2 := 158) at_156 rfl rfl ?_
    by_cases hc : v5 = 0
    · replace hf := ifp hc hf
      refine Go.ifF (pc2 := 161) at_158 (fun q => q hc) rfl ?_
      refine Go.iconst (pc2 := 162) at_161 rfl (by decide) ?_
      refine Go.goto (pc2 := 185) at_162 (by decide) (by decide) ?_
      exact Go.mask [true, true, true, true, true, true, true, false, true, true, true, true, true, true] (tj_u_law_185 hw hst hf)
    · replace hf := ifn hc hf
      refine Go.ifT (pc2 := 165) at_158 hc (by decide) (by decide) ?_
      refine Go.iload (pc2 := 167) at_165 rfl rfl ?_
      by_cases hc : v7 = 0
      · replace hf := ifp hc hf
        refine Go.ifF (pc2 := 170) at_167 (fun q => q hc) rfl ?_
        refine Go.bipush (pc2 := 172) at_170 rfl (by decide) ?_
        refine Go.goto (pc2 := 185) at_172 (by decide) (by decide) ?_
        exact Go.mask [true, true, true, true, true, true, true, false, true, true, true, true, true, true] (tj_u_law_185 hw hst hf)
      · replace hf := ifn hc hf
        refine Go.ifT (pc2 := 175) at_167 hc (by decide) (by decide) ?_
        refine Go.iload (pc2 := 177) at_175 rfl rfl ?_
        by_cases hc : s0 ≤ 0
        · replace hf := ifp hc hf
          refine Go.ifT (pc2 := 184) at_177 hc (by decide) (by decide) ?_
          refine Go.iconst (pc2 := 185) at_184 rfl (by decide) ?_
          exact Go.mask [true, true, true, true, true, true, true, false, true, true, true, true, true, true] (tj_u_law_185 hw hst hf)
        · replace hf := ifn hc hf
          refine Go.ifF (pc2 := 180) at_177 hc rfl ?_
          refine Go.iconst (pc2 := 181) at_180 rfl (by decide) ?_
          refine Go.goto (pc2 := 185) at_181 (by decide) (by decide) ?_
          exact Go.mask [true, true, true, true, true, true, true, false, true, true, true, true, true, true] (tj_u_law_185 hw hst hf)
  · replace hf := ifn hc hf
    refine Go.icmpF (pc2 := 146) at_143 hc rfl ?_
    refine Go.iconst (pc2 := 147) at_146 rfl (by decide) ?_
    cases hf
    exact Go.retz at_147 rfl rfl (Nat.le_of_ble_eq_true rfl) (Nat.le_of_ble_eq_true rfl) (fun _ _ => rfl)
set_option maxRecDepth 65536 in
set_option maxHeartbeats 4000000 in
theorem tj_u_law_106 {l : Launch} {Z : State} {a0 : Array Value} (hw : ∀ d ∈ tables_1, d.before a0 Z = true) {n0 : Nat} {P : Heap → Prop} (hst : ∀ b, n0 ≤ b → StB D b P) {F : Nat} {rr : Int} {O0 : Mo} {v1 v2 v3 v5 v7 v8 s0 : Int} (hf : j_u_law_106 F O0 v1 v2 v3 v5 v7 v8 s0 = some rr) :
    G_u_law l Z n0 P 106 [none, some (vI v1), some (vI v2), some (vI v3), some (vR n0), some (vI v5), none, some (vI v7), some (vI v8), none, none, none, none, none] [vI s0] [(n0, 17, O0)] ((n0 + 18)) 18 8284 (QL rr) := by
  unfold j_u_law_106 at hf
  refine Go.istore (pc2 := 108) (L2 := [none, some (vI v1), some (vI v2), some (vI v3), some (vR n0), some (vI v5), none, some (vI v7), some (vI v8), some (vI s0), none, none, none, none]) at_106 rfl (Nat.le_of_ble_eq_true rfl) rfl ?_
  refine Go.iload (pc2 := 110) at_108 rfl rfl ?_
  refine Go.iload (pc2 := 112) at_110 rfl rfl ?_
  by_cases hc : v8 = s0
  · replace hf := ifp hc hf
    refine Go.icmpT (pc2 := 117) at_112 hc (by decide) (by decide) ?_
    refine Go.iload (pc2 := 119) at_117 rfl rfl ?_
    refine Go.iconst (pc2 := 120) at_119 rfl (by decide) ?_
    by_cases hc : s0 = 1
    · replace hf := ifp hc hf
      refine Go.icmpF (pc2 := 123) at_120 (fun q => q hc) rfl ?_
      refine Go.iloadN (pc2 := 124) at_123 rfl rfl ?_
      refine Go.goto (pc2 := 128) at_124 (by decide) (by decide) ?_
      exact Go.mask [true, true, false, true, true, true, true, true, false, false, true, true, true, true] (tj_u_law_128 hw hst hf)
    · replace hf := ifn hc hf
      refine Go.icmpT (pc2 := 127) at_120 hc (by decide) (by decide) ?_
      refine Go.iconst (pc2 := 128) at_127 rfl (by decide) ?_
      exact Go.mask [true, true, false, true, true, true, true, true, false, false, true, true, true, true] (tj_u_law_128 hw hst hf)
  · replace hf := ifn hc hf
    refine Go.icmpF (pc2 := 115) at_112 hc rfl ?_
    refine Go.iconst (pc2 := 116) at_115 rfl (by decide) ?_
    cases hf
    exact Go.retz at_116 rfl rfl (Nat.le_of_ble_eq_true rfl) (Nat.le_of_ble_eq_true rfl) (fun _ _ => rfl)
set_option maxRecDepth 65536 in
set_option maxHeartbeats 4000000 in
theorem tj_u_law_63 {l : Launch} {Z : State} {a0 : Array Value} (hw : ∀ d ∈ tables_1, d.before a0 Z = true) {n0 : Nat} {P : Heap → Prop} (hst : ∀ b, n0 ≤ b → StB D b P) {F : Nat} {rr : Int} {O0 : Mo} {v1 v2 v3 v5 v6 s0 : Int} (hf : j_u_law_63 F O0 v1 v2 v3 v5 v6 s0 = some rr) :
    G_u_law l Z n0 P 63 [none, some (vI v1), some (vI v2), some (vI v3), some (vR n0), some (vI v5), some (vI v6), none, none, none, none, none, none, none] [vI s0] [(n0, 17, O0)] ((n0 + 18)) 18 8284 (QL rr) := by
  unfold j_u_law_63 at hf
  refine Go.istore (pc2 := 65) (L2 := [none, some (vI v1), some (vI v2), some (vI v3), some (vR n0), some (vI v5), some (vI v6), some (vI s0), none, none, none, none, none, none]) at_63 rfl (Nat.le_of_ble_eq_true rfl) rfl ?_
  refine Go.aload (pc2 := 67) at_65 rfl rfl ?_
  refine Go.iloadN (pc2 := 68) at_67 rfl rfl ?_
  refine bind_in hf ?_
  clear hf
  intro r h_r hf
  refine Go.callv (pc2 := 71) (as := [vI v1]) (S := []) (w := (some (vI r.1))) (os2 := [(n0, 17, r.2)]) (sz2 := (n0 + 18)) (S2 := [vI r.1]) (rm := R_k_pendChar) at_68 rfl xc (by exact w_65 hw) (by exact w_66 hw) D_C (by exact w_68 hw) (by exact w_67 hw) (by exact w_69 hw) rfl (by exact w_2 hw) (q := 0) rfl (by decide) pd_k_pendChar (by decide) (Nat.le_of_ble_eq_true rfl) (by decide) (by decide) (nc := 0) (ns := 0) rfl rfl rfl (cu2 := 18) rfl (su2 := 8284) rfl rfl (Pays.one (q := 0) rfl rfl (fun P2 hP2 => th_k_pendChar hw h_r)) rfl ?_
  refine Go.iload (pc2 := 73) at_71 rfl rfl ?_
  by_cases hc : r.1 = v5
  · replace hf := ifp hc hf
    refine Go.icmpT (pc2 := 78) at_73 hc (by decide) (by decide) ?_
    refine Go.aload (pc2 := 80) at_78 rfl rfl ?_
    refine Go.iloadN (pc2 := 81) at_80 rfl rfl ?_
    refine bind_in hf ?_
    clear hf
    intro r_1 h_r_1 hf
    refine Go.callv (pc2 := 84) (as := [vI v2]) (S := []) (w := (some (vI r_1.1))) (os2 := [(n0, 17, r_1.2)]) (sz2 := (n0 + 18)) (S2 := [vI r_1.1]) (rm := R_k_commit) at_81 rfl xc (by exact w_74 hw) (by exact w_75 hw) D_C (by exact w_77 hw) (by exact w_76 hw) (by exact w_78 hw) rfl (by exact w_2 hw) (q := 0) rfl (by decide) pd_k_commit (by decide) (Nat.le_of_ble_eq_true rfl) (by decide) (by decide) (nc := 0) (ns := 0) rfl rfl rfl (cu2 := 18) rfl (su2 := 8284) rfl rfl (Pays.one (q := 0) rfl rfl (fun P2 hP2 => th_k_commit hw h_r_1)) rfl ?_
    refine Go.istore (pc2 := 86) (L2 := [none, some (vI v1), some (vI v2), some (vI v3), some (vR n0), some (vI v5), some (vI v6), some (vI s0), some (vI r_1.1), none, none, none, none, none]) at_84 rfl (Nat.le_of_ble_eq_true rfl) rfl ?_
    refine Go.iload (pc2 := 88) at_86 rfl rfl ?_
    by_cases hc : v5 = 0
    · replace hf := ifp hc hf
      refine Go.ifF (pc2 := 91) at_88 (fun q => q hc) rfl ?_
      refine Go.iconst (pc2 := 92) at_91 rfl (by decide) ?_
      refine Go.goto (pc2 := 106) at_92 (by decide) (by decide) ?_
      exact Go.mask [true, true, true, true, true, true, false, true, true, true, true, true, true, true] (tj_u_law_106 hw hst hf)
    · replace hf := ifn hc hf
      refine Go.ifT (pc2 := 95) at_88 hc (by decide) (by decide) ?_
      refine Go.iload (pc2 := 97) at_95 rfl rfl ?_
      by_cases hc : v6 = 0
      · replace hf := ifp hc hf
        refine Go.ifF (pc2 := 100) at_97 (fun q => q hc) rfl ?_
        refine Go.bipush (pc2 := 102) at_100 rfl (by decide) ?_
        refine Go.goto (pc2 := 106) at_102 (by decide) (by decide) ?_
        exact Go.mask [true, true, true, true, true, true, false, true, true, true, true, true, true, true] (tj_u_law_106 hw hst hf)
      · replace hf := ifn hc hf
        refine Go.ifT (pc2 := 105) at_97 hc (by decide) (by decide) ?_
        refine Go.iconst (pc2 := 106) at_105 rfl (by decide) ?_
        exact Go.mask [true, true, true, true, true, true, false, true, true, true, true, true, true, true] (tj_u_law_106 hw hst hf)
  · replace hf := ifn hc hf
    refine Go.icmpF (pc2 := 76) at_73 hc rfl ?_
    refine Go.iconst (pc2 := 77) at_76 rfl (by decide) ?_
    cases hf
    exact Go.retz at_77 rfl rfl (Nat.le_of_ble_eq_true rfl) (Nat.le_of_ble_eq_true rfl) (fun _ _ => rfl)
set_option maxRecDepth 65536 in
set_option maxHeartbeats 4000000 in
theorem tj_u_law_45 {l : Launch} {Z : State} {a0 : Array Value} (hw : ∀ d ∈ tables_1, d.before a0 Z = true) {n0 : Nat} {P : Heap → Prop} (hst : ∀ b, n0 ≤ b → StB D b P) {F : Nat} {rr : Int} {O0 : Mo} {v1 v2 v3 v5 s0 : Int} (hf : j_u_law_45 F O0 v1 v2 v3 v5 s0 = some rr) :
    G_u_law l Z n0 P 45 [none, some (vI v1), some (vI v2), some (vI v3), some (vR n0), some (vI v5), none, none, none, none, none, none, none, none] [vI s0] [(n0, 17, O0)] ((n0 + 18)) 18 8284 (QL rr) := by
  unfold j_u_law_45 at hf
  refine Go.istore (pc2 := 47) (L2 := [none, some (vI v1), some (vI v2), some (vI v3), some (vR n0), some (vI v5), some (vI s0), none, none, none, none, none, none, none]) at_45 rfl (Nat.le_of_ble_eq_true rfl) rfl ?_
  refine Go.iloadN (pc2 := 48) at_47 rfl rfl ?_
  refine Go.iconst (pc2 := 49) at_48 rfl (by decide) ?_
  by_cases hc : v3 < 1
  · replace hf := ifp hc hf
    refine Go.icmpT (pc2 := 62) at_49 hc (by decide) (by decide) ?_
    refine Go.iconst (pc2 := 63) at_62 rfl (by decide) ?_
    exact tj_u_law_63 hw hst hf
  · replace hf := ifn hc hf
    refine Go.icmpF (pc2 := 52) at_49 hc rfl ?_
    refine Go.iloadN (pc2 := 53) at_52 rfl rfl ?_
    refine Go.ldc (pc2 := 55) (i := 1000000) at_53 rfl xc (by exact w_64 hw) (by decide) ?_
    by_cases hc : 1000000 < v3
    · replace hf := ifp hc hf
      refine Go.icmpT (pc2 := 62) at_55 hc (by decide) (by decide) ?_
      refine Go.iconst (pc2 := 63) at_62 rfl (by decide) ?_
      exact tj_u_law_63 hw hst hf
    · replace hf := ifn hc hf
      refine Go.icmpF (pc2 := 58) at_55 hc rfl ?_
      refine Go.iconst (pc2 := 59) at_58 rfl (by decide) ?_
      refine Go.goto (pc2 := 63) at_59 (by decide) (by decide) ?_
      exact tj_u_law_63 hw hst hf
set_option maxRecDepth 65536 in
set_option maxHeartbeats 4000000 in
theorem tj_u_law_27 {l : Launch} {Z : State} {a0 : Array Value} (hw : ∀ d ∈ tables_1, d.before a0 Z = true) {n0 : Nat} {P : Heap → Prop} (hst : ∀ b, n0 ≤ b → StB D b P) {F : Nat} {rr : Int} {O0 : Mo} {v1 v2 v3 s0 : Int} (hf : j_u_law_27 F O0 v1 v2 v3 s0 = some rr) :
    G_u_law l Z n0 P 27 [none, some (vI v1), some (vI v2), some (vI v3), some (vR n0), none, none, none, none, none, none, none, none, none] [vI s0] [(n0, 17, O0)] ((n0 + 18)) 18 8284 (QL rr) := by
  unfold j_u_law_27 at hf
  refine Go.istore (pc2 := 29) (L2 := [none, some (vI v1), some (vI v2), some (vI v3), some (vR n0), some (vI s0), none, none, none, none, none, none, none, none]) at_27 rfl (Nat.le_of_ble_eq_true rfl) rfl ?_
  refine Go.iloadN (pc2 := 30) at_29 rfl rfl ?_
  refine Go.iconst (pc2 := 31) at_30 rfl (by decide) ?_
  by_cases hc : v2 < 1
  · replace hf := ifp hc hf
    refine Go.icmpT (pc2 := 44) at_31 hc (by decide) (by decide) ?_
    refine Go.iconst (pc2 := 45) at_44 rfl (by decide) ?_
    exact tj_u_law_45 hw hst hf
  · replace hf := ifn hc hf
    refine Go.icmpF (pc2 := 34) at_31 hc rfl ?_
    refine Go.iloadN (pc2 := 35) at_34 rfl rfl ?_
    refine Go.ldc (pc2 := 37) (i := 1000000) at_35 rfl xc (by exact w_64 hw) (by decide) ?_
    by_cases hc : 1000000 < v2
    · replace hf := ifp hc hf
      refine Go.icmpT (pc2 := 44) at_37 hc (by decide) (by decide) ?_
      refine Go.iconst (pc2 := 45) at_44 rfl (by decide) ?_
      exact tj_u_law_45 hw hst hf
    · replace hf := ifn hc hf
      refine Go.icmpF (pc2 := 40) at_37 hc rfl ?_
      refine Go.iconst (pc2 := 41) at_40 rfl (by decide) ?_
      refine Go.goto (pc2 := 45) at_41 (by decide) (by decide) ?_
      exact tj_u_law_45 hw hst hf
set_option maxRecDepth 65536 in
set_option maxHeartbeats 4000000 in
theorem th_u_law {l : Launch} {Z : State} {a0 : Array Value} (hw : ∀ d ∈ tables_1, d.before a0 Z = true) {n0 : Nat} {P : Heap → Prop} (hst : ∀ b, n0 ≤ b → StB D b P) {F : Nat} {rr : Int} {v0 v1 v2 v3 : Int} (hf : u_law F v0 v1 v2 v3 = some rr) :
    Meth l Z D n0 P x code maxLocals ret room_1 [vI v0, vI v1, vI v2, vI v3] [] n0 (QL rr) := by
  refine Meth.of (plainFor_of_name pn_law) (Nat.le_of_ble_eq_true rfl) ?_
  show G_u_law l Z n0 P 0 [some (vI v0), some (vI v1), some (vI v2), some (vI v3), none, none, none, none, none, none, none, none, none, none] [] [] n0 0 0 (QL rr)
  unfold u_law at hf
  refine Go.newo (pc2 := 3) (cw_ok hw) at_0 rfl xc D_C (by exact w_0 hw) (by exact w_1 hw) (by exact w_2 hw) (fun o h => nomatch h) hst (by decide) (by decide) (os2 := [(n0, 0, zM)]) rfl (sz2 := (n0 + 1)) rfl (cu2 := 1) rfl (su2 := 25) rfl ?_
  refine Go.dup (pc2 := 4) at_3 rfl rfl ?_
  refine Go.iloadN (pc2 := 5) at_4 rfl rfl ?_
  refine bind_in hf ?_
  clear hf
  intro r h_r hf
  refine Go.callc (pc2 := 8) (as := [vI v0]) (S := [vR n0]) (w := none) (os2 := [(n0, 17, r)]) (sz2 := (n0 + 18)) (S2 := [vR n0]) (rm := R_k_ctor) at_5 rfl rfl rfl xc (by exact w_3 hw) (by exact w_4 hw) (by exact w_5 hw) rfl (by exact w_2 hw) (by decide) pd_k_ctor (by decide) (Nat.le_of_ble_eq_true rfl) (by decide) (by decide) (nc := 17) (ns := 8259) rfl rfl rfl (cu2 := 18) rfl (su2 := 8284) rfl rfl (Pays.one (q := 0) rfl rfl (fun P2 hP2 => th_k_ctor hw h_r)) rfl ?_
  refine Go.astore (pc2 := 10) (L2 := [some (vI v0), some (vI v1), some (vI v2), some (vI v3), some (vR n0), none, none, none, none, none, none, none, none, none]) at_8 rfl (Nat.le_of_ble_eq_true rfl) rfl ?_
  refine Go.iloadN (pc2 := 11) at_10 rfl rfl ?_
  refine Go.bipush (pc2 := 13) at_11 rfl (by decide) ?_
  by_cases hc : v1 < 97
  · replace hf := ifp hc hf
    refine Go.icmpT (pc2 := 26) at_13 hc (by decide) (by decide) ?_
    refine Go.iconst (pc2 := 27) at_26 rfl (by decide) ?_
    exact Go.mask [false, true, true, true, true, true, true, true, true, true, true, true, true, true] (tj_u_law_27 hw hst hf)
  · replace hf := ifn hc hf
    refine Go.icmpF (pc2 := 16) at_13 hc rfl ?_
    refine Go.iloadN (pc2 := 17) at_16 rfl rfl ?_
    refine Go.bipush (pc2 := 19) at_17 rfl (by decide) ?_
    by_cases hc : 122 < v1
    · replace hf := ifp hc hf
      refine Go.icmpT (pc2 := 26) at_19 hc (by decide) (by decide) ?_
      refine Go.iconst (pc2 := 27) at_26 rfl (by decide) ?_
      exact Go.mask [false, true, true, true, true, true, true, true, true, true, true, true, true, true] (tj_u_law_27 hw hst hf)
    · replace hf := ifn hc hf
      refine Go.icmpF (pc2 := 22) at_19 hc rfl ?_
      refine Go.iconst (pc2 := 23) at_22 rfl (by decide) ?_
      refine Go.goto (pc2 := 27) at_23 (by decide) (by decide) ?_
      exact Go.mask [false, true, true, true, true, true, true, true, true, true, true, true, true, true] (tj_u_law_27 hw hst hf)
set_option maxRecDepth 65536 in
set_option maxHeartbeats 4000000 in
theorem comes_1 {Post : Tables → Env → Array Value → State → Outcome → State → Prop} (hpost : ∀ tb e args s v u, (limb_1_1.after args s (.returned v) u = true ∧ limb_1_2.after args s (.returned v) u = true ∧ True) → FrameEnd s (.returned v) u (Jvm.fieldLocs frame_1_writes args s ++ Jvm.arrayLocs frame_1_arrays args s ++ Jvm.staticLocs frame_1_statics s) 48 16640 → Post tb e args s (.returned v) u) :
    ArmFor flags0 classFile x code maxLocals ret World_1 tables_1 room_1 Calls_1 rest_1 Pre_1 Post := by
  intro l hfl _ _ p e ha hc hk s m args below hf hA hF happ hP
  obtain ⟨hcalls, hrest, hpre⟩ := hP
  obtain ⟨-, -, -, hnamed, -, -, -, hat⟩ := (Spec.applies_iff hf).mp happ
  obtain ⟨hg, hn⟩ := and_e (Cond.before_iff.mp (show (Jvm.Cond.and given_1 narrow_1).before args s = true from hpre))
  obtain ⟨g6, g7⟩ := and_e hg
  have hw := fun d (hd : d ∈ tables_1) => atoms_spec (ws := Jvm.Cond.code x code maxLocals ret :: tables_1) hat d (List.mem_cons_of_mem _ hd)
  obtain ⟨w0, w1, w2, w3, rfl⟩ : ∃ w0 w1 w2 w3 : Value, args = #[w0, w1, w2, w3] := by
    have hs : args.size = 4 := by simpa [Cond.value, given_1] using g6
    obtain ⟨L⟩ := args
    match L, hs with
    | [w0, w1, w2, w3], _ => exact ⟨w0, w1, w2, w3, rfl⟩
  obtain ⟨q0, g7'⟩ := and_e g7
  obtain ⟨i0, e0⟩ := is_v q0
  obtain rfl : w0 = (.int i0) := Option.some.inj e0
  obtain ⟨q1, g7'⟩ := and_e g7'
  obtain ⟨i1, e1⟩ := is_v q1
  obtain rfl : w1 = (.int i1) := Option.some.inj e1
  obtain ⟨q2, g7'⟩ := and_e g7'
  obtain ⟨i2, e2⟩ := is_v q2
  obtain rfl : w2 = (.int i2) := Option.some.inj e2
  obtain ⟨i3, e3⟩ := is_v g7'
  obtain rfl : w3 = (.int i3) := Option.some.inj e3
  have hlaw := u_law_ok (r32t i0) (r32t i1) (r32t i2) (r32t i3)
  have M := th_u_law (l := l) (Z := s) hw (n0 := s.heap.size) (P := fun _ => True) (fun _ _ _ _ _ _ _ _ _ _ _ => trivial) hlaw
  obtain ⟨n, o, h1, h2, h3, _, L, rfl, ⟨_, rfl, rfl, N, -⟩, hq⟩ := M ((okS_cons (r32t i0) (okS_cons (r32t i1) (okS_cons (r32t i2) (okS_cons (r32t i3) (fun u hu => nomatch hu)))))) s.heap ⟨rfl, Nat.le_refl _, fun q b k O e => by simp at e, fun q q2 b k O b2 k2 O2 e => by simp at e, fun _ _ _ _ => trivial, trivial⟩ tables_1 p e ha hc hk s m _ below hf ((Spec.applies_iff_loose hf).mp happ).1 ⟨by simp only [List.map_cons, List.map_nil, Jvm.Own.rv, of32], State.Warmed39.refl s, rfl⟩ trivial
  refine ⟨n, _, h1, h2, h3, hpost _ _ _ _ _ _ ⟨Cond.after_iff.mpr rfl, Cond.after_iff.mpr (eq_i res_at (Term.int_eval (1)) rfl), trivial⟩ ⟨hq.1, hq.2.1, (hq.2.2.sift fun y hy => Or.inr (N y hy)).mono (by decide) (by decide)⟩⟩
theorem main_1_1 : Claimed_1_1 := comes_1 fun _ _ _ _ _ _ h hF => ⟨h.1, hF⟩
theorem main_1_2 : Claimed_1_2 := comes_1 fun _ _ _ _ _ _ h hF => ⟨h.2.1, hF⟩

end Jvm.Pilot.@@N@@
namespace Jvm.Pilot.@@N@@
open Jvm Jvm.ClassFile Sem Op Lib Jvm.Free Jvm.Stand Jvm.Pilot.@@N@@.Jvm.D
/-! MADE BY PROGRAM (witnessworld.py) out of the Statement's table words and the real class files: 9 classes; the members and pool entries that the words name. The judged class is class 1, her method 1. -/
namespace start1
open Jvm.ClassFile
def u (s : String) : CpInfo := .utf8 (stringToUtf16 s)
/-- a pool by its gaps: so many unusable entries, then the entry; so many at the end -/
def gap : Nat → List CpInfo → List CpInfo
  | 0, r => r
  | n + 1, r => .unusable :: gap n r
def poolList (es : List (Nat × CpInfo)) (last : Nat) : List CpInfo := es.foldr (fun e r => gap e.1 (e.2 :: r)) (gap last [])
def pool (es : List (Nat × CpInfo)) (last : Nat) : Array CpInfo := ⟨poolList es last⟩
def fileOf (pool : Array CpInfo) (this : Nat) (attrs : Array Attribute := #[]) (ms : Array MethodInfo := #[]) (fl : Nat := 33) (sup : Nat := 0) (ifs : Array Nat := #[]) (fds : Array FieldInfo := #[]) : ClassFile where
  minorVersion := 0
  majorVersion := 65
  constantPool := pool
  accessFlags := fl
  thisClass := this
  superClass := sup
  interfaces := ifs
  fields := fds
  methods := ms
  attributes := attrs
def plain (name : String) (sup : Option ClassId) : Class where
  name := name
  kind := .ordinary
  loader := none
  accessFlags := 33
  super := sup
  interfaces := #[]
  cf := none
  fields := #[]
  methods := #[]
  instanceTypes := #[]
  staticTypes := #[]
  resolved := #[]
  callSites := []
  init := .initialized
  statics := none
  mirror := none

def pool0 : Array CpInfo := pool [(5, u "<init>"), (0, u "()V"), (1, .class_ 10), (1, u "java/lang/Object")] 113

def k0c0 : Code := { maxStack := 0, maxLocals := 1, code := object_method_1_code, exceptionTable := #[], attributes := #[] }
def k0m0 : Method := { name := "<init>", desc := "()V", sig := { parameters := [], returnType := none }, accessFlags := 1, code := some k0c0 }
/-- java/lang/Object -/
def k0 : Class := { plain "java/lang/Object" none with
  accessFlags := 33
  interfaces := #[]
  cf := some (fileOf pool0 8 #[] #[{ accessFlags := 1, nameIndex := 5, descriptorIndex := 6, attributes := #[] }] 33 0 #[] #[])
  fields := #[]
  methods := #[k0m0]
  instanceTypes := #[]
  staticTypes := #[]
  resolved := Array.replicate 124 none
  statics := none }

def pool1 : Array CpInfo := pool [(2, .class_ 4), (1, u "java/lang/Object"), (0, u "<init>"), (0, u "()V"), (0, .class_ 8), (0, u "FuzzyLexicon"), (0, .methodref 7 10), (0, .nameAndType 5 11), (0, u "(I)V"), (0, .integer 1000000), (0, .methodref 7 14), (0, .nameAndType 15 16), (0, u "pendChar"), (0, u "(I)Z"), (0, .methodref 7 18), (0, .nameAndType 19 20), (0, u "commit"), (0, u "(I)I"), (0, .methodref 7 22), (0, .nameAndType 23 6), (0, u "pendClear"), (0, .methodref 7 25), (0, .nameAndType 26 27), (0, u "wordCount"), (0, u "()I"), (0, .methodref 7 29), (0, .nameAndType 30 27), (0, u "pendingLength"), (0, .methodref 7 32), (0, .nameAndType 33 27), (0, u "pendFreq"), (0, .class_ 35), (0, u "FuzzyLexiconL2"), (2, u "law"), (0, u "(IIII)Z")] 3

def k1m0 : Method := { name := "<init>", desc := "()V", sig := { parameters := [], returnType := none }, accessFlags := 1, code := none }
def k1c1 : Code := { maxStack := 3, maxLocals := 14, code := code, exceptionTable := #[], attributes := #[] }
def k1m1 : Method := { name := "law", desc := "(IIII)Z", sig := { parameters := [.int, .int, .int, .int], returnType := some .boolean }, accessFlags := 9, code := some k1c1 }
/-- FuzzyLexiconL2 -/
def k1 : Class := { plain "FuzzyLexiconL2" (some 0) with
  accessFlags := 49
  interfaces := #[]
  cf := some (fileOf pool1 34 #[] #[{ accessFlags := 1, nameIndex := 5, descriptorIndex := 6, attributes := #[] }, { accessFlags := 9, nameIndex := 38, descriptorIndex := 39, attributes := #[] }] 49 2 #[] #[])
  fields := #[]
  methods := #[k1m0, k1m1]
  instanceTypes := #[]
  staticTypes := #[]
  resolved := Array.replicate 43 none
  statics := none }

def pool2 : Array CpInfo := pool [(1, .methodref 2 3), (0, .class_ 4), (0, .nameAndType 5 6), (0, u "java/lang/Object"), (0, u "<init>"), (0, u "()V"), (0, .fieldref 8 9), (0, .class_ 10), (0, .nameAndType 11 12), (0, u "FuzzyLexicon"), (0, u "childSlot"), (0, u "[I"), (0, .fieldref 8 14), (0, .nameAndType 15 12), (0, u "nodeFreq"), (0, .fieldref 8 17), (0, .nameAndType 18 12), (0, u "nodeParent"), (0, .fieldref 8 20), (0, .nameAndType 21 12), (0, u "nodeLetter"), (0, .fieldref 8 23), (0, .nameAndType 24 12), (0, u "nodeDepth"), (0, .fieldref 8 26), (0, .nameAndType 27 12), (0, u "pend"), (0, .fieldref 8 29), (0, .nameAndType 30 12), (0, u "query"), (0, .fieldref 8 32), (0, .nameAndType 33 12), (0, u "rows"), (0, .fieldref 8 35), (0, .nameAndType 36 12), (0, u "stackNode"), (0, .fieldref 8 38), (0, .nameAndType 39 12), (0, u "stackNext"), (0, .fieldref 8 41), (0, .nameAndType 42 12), (0, u "candNode"), (0, .fieldref 8 44), (0, .nameAndType 45 12), (0, u "candDist"), (0, .fieldref 8 47), (0, .nameAndType 48 12), (0, u "candFreq"), (0, .fieldref 8 50), (0, .nameAndType 51 12), (0, u "resWord"), (0, .fieldref 8 53), (0, .nameAndType 54 12), (0, u "resLen"), (0, .fieldref 8 56), (0, .nameAndType 57 12), (0, u "resDist"), (0, .fieldref 8 59), (0, .nameAndType 60 12), (0, u "resFreq"), (0, .methodref 8 62), (0, .nameAndType 63 64), (0, u "clamp"), (0, u "(III)I"), (0, .fieldref 8 66), (0, .nameAndType 67 68), (0, u "cap"), (0, u "I"), (0, .fieldref 8 70), (0, .nameAndType 71 68), (0, u "words"), (0, .fieldref 8 73), (0, .nameAndType 74 68), (0, u "nodeCount"), (0, .fieldref 8 76), (0, .nameAndType 77 68), (0, u "pendLen"), (0, .fieldref 8 79), (0, .nameAndType 80 68), (0, u "queryLen"), (0, .fieldref 8 82), (0, .nameAndType 83 68), (0, u "resCount"), (0, .fieldref 8 85), (0, .nameAndType 86 68), (0, u "candCount"), (0, .fieldref 8 88), (0, .nameAndType 89 68), (0, u "searchK"), (0, .methodref 8 91), (0, .nameAndType 92 93), (0, u "isLetter"), (0, u "(I)Z"), (0, .integer 1000000), (0, .methodref 8 96), (0, .nameAndType 97 98), (0, u "findPending"), (0, u "()I"), (0, .methodref 8 100), (0, .nameAndType 101 102), (0, u "addFreq"), (0, u "(II)I"), (0, .methodref 8 104), (0, .nameAndType 105 93), (0, u "hasRoom"), (0, .methodref 8 107), (0, .nameAndType 108 98), (0, u "insertPending"), (6, u "(I)V"), (3, .methodref 8 120), (0, .nameAndType 121 102), (0, u "childAt"), (0, .methodref 8 123), (0, .nameAndType 124 64), (0, u "newNode"), (0, .methodref 8 126), (0, .nameAndType 127 128), (0, u "setChild"), (0, u "(III)V"), (6, u "(I)I"), (26, u "MAX_WORDS"), (2, u "MAX_LEN"), (1, u "MAX_K"), (1, u "MAX_FREQ"), (0, u "COMMIT_NEW"), (1, u "COMMIT_ADDED"), (1, u "ERR_EMPTY"), (1, u "ERR_FREQ"), (1, u "ERR_FULL"), (1, u "ERR_K"), (3, u "pendChar"), (1, u "pendClear"), (0, u "pendingLength"), (0, u "commit"), (0, u "pendFreq"), (0, u "wordCount")] 11

def k2c0 : Code := { maxStack := 5, maxLocals := 2, code := prog_1_method_1_code, exceptionTable := #[], attributes := #[] }
def k2m0 : Method := { name := "<init>", desc := "(I)V", sig := { parameters := [.int], returnType := none }, accessFlags := 1, code := some k2c0 }
def k2c1 : Code := { maxStack := 4, maxLocals := 2, code := prog_1_method_3_code, exceptionTable := #[], attributes := #[] }
def k2m1 : Method := { name := "pendChar", desc := "(I)Z", sig := { parameters := [.int], returnType := some .boolean }, accessFlags := 1, code := some k2c1 }
def k2c2 : Code := { maxStack := 2, maxLocals := 1, code := prog_1_method_4_code, exceptionTable := #[], attributes := #[] }
def k2m2 : Method := { name := "pendClear", desc := "()V", sig := { parameters := [], returnType := none }, accessFlags := 1, code := some k2c2 }
def k2c3 : Code := { maxStack := 1, maxLocals := 1, code := prog_1_method_5_code, exceptionTable := #[], attributes := #[] }
def k2m3 : Method := { name := "pendingLength", desc := "()I", sig := { parameters := [], returnType := some .int }, accessFlags := 1, code := some k2c3 }
def k2c4 : Code := { maxStack := 5, maxLocals := 3, code := prog_1_method_6_code, exceptionTable := #[], attributes := #[] }
def k2m4 : Method := { name := "commit", desc := "(I)I", sig := { parameters := [.int], returnType := some .int }, accessFlags := 1, code := some k2c4 }
def k2c5 : Code := { maxStack := 2, maxLocals := 2, code := prog_1_method_7_code, exceptionTable := #[], attributes := #[] }
def k2m5 : Method := { name := "pendFreq", desc := "()I", sig := { parameters := [], returnType := some .int }, accessFlags := 1, code := some k2c5 }
def k2c6 : Code := { maxStack := 1, maxLocals := 1, code := prog_1_method_8_code, exceptionTable := #[], attributes := #[] }
def k2m6 : Method := { name := "wordCount", desc := "()I", sig := { parameters := [], returnType := some .int }, accessFlags := 1, code := some k2c6 }
def k2c7 : Code := { maxStack := 2, maxLocals := 2, code := prog_1_method_18_code, exceptionTable := #[], attributes := #[] }
def k2m7 : Method := { name := "isLetter", desc := "(I)Z", sig := { parameters := [.int], returnType := some .boolean }, accessFlags := 2, code := some k2c7 }
def k2c8 : Code := { maxStack := 2, maxLocals := 4, code := prog_1_method_19_code, exceptionTable := #[], attributes := #[] }
def k2m8 : Method := { name := "clamp", desc := "(III)I", sig := { parameters := [.int, .int, .int], returnType := some .int }, accessFlags := 2, code := some k2c8 }
def k2c9 : Code := { maxStack := 2, maxLocals := 4, code := prog_1_method_21_code, exceptionTable := #[], attributes := #[] }
def k2m9 : Method := { name := "addFreq", desc := "(II)I", sig := { parameters := [.int, .int], returnType := some .int }, accessFlags := 2, code := some k2c9 }
def k2c10 : Code := { maxStack := 3, maxLocals := 3, code := prog_1_method_23_code, exceptionTable := #[], attributes := #[] }
def k2m10 : Method := { name := "childAt", desc := "(II)I", sig := { parameters := [.int, .int], returnType := some .int }, accessFlags := 2, code := some k2c10 }
def k2c11 : Code := { maxStack := 3, maxLocals := 4, code := prog_1_method_24_code, exceptionTable := #[], attributes := #[] }
def k2m11 : Method := { name := "setChild", desc := "(III)V", sig := { parameters := [.int, .int, .int], returnType := none }, accessFlags := 2, code := some k2c11 }
def k2c12 : Code := { maxStack := 2, maxLocals := 2, code := prog_1_method_25_code, exceptionTable := #[], attributes := #[] }
def k2m12 : Method := { name := "hasRoom", desc := "(I)Z", sig := { parameters := [.int], returnType := some .boolean }, accessFlags := 2, code := some k2c12 }
def k2c13 : Code := { maxStack := 3, maxLocals := 5, code := prog_1_method_26_code, exceptionTable := #[], attributes := #[] }
def k2m13 : Method := { name := "newNode", desc := "(III)I", sig := { parameters := [.int, .int, .int], returnType := some .int }, accessFlags := 2, code := some k2c13 }
def k2c14 : Code := { maxStack := 4, maxLocals := 4, code := prog_1_method_27_code, exceptionTable := #[], attributes := #[] }
def k2m14 : Method := { name := "findPending", desc := "()I", sig := { parameters := [], returnType := some .int }, accessFlags := 2, code := some k2c14 }
def k2c15 : Code := { maxStack := 5, maxLocals := 5, code := prog_1_method_28_code, exceptionTable := #[], attributes := #[] }
def k2m15 : Method := { name := "insertPending", desc := "()I", sig := { parameters := [], returnType := some .int }, accessFlags := 2, code := some k2c15 }
/-- FuzzyLexicon -/
def k2 : Class := { plain "FuzzyLexicon" (some 0) with
  accessFlags := 49
  interfaces := #[]
  cf := some (fileOf pool2 8 #[] #[{ accessFlags := 1, nameIndex := 5, descriptorIndex := 115, attributes := #[] }, { accessFlags := 1, nameIndex := 184, descriptorIndex := 93, attributes := #[] }, { accessFlags := 1, nameIndex := 186, descriptorIndex := 6, attributes := #[] }, { accessFlags := 1, nameIndex := 187, descriptorIndex := 98, attributes := #[] }, { accessFlags := 1, nameIndex := 188, descriptorIndex := 135, attributes := #[] }, { accessFlags := 1, nameIndex := 189, descriptorIndex := 98, attributes := #[] }, { accessFlags := 1, nameIndex := 190, descriptorIndex := 98, attributes := #[] }, { accessFlags := 2, nameIndex := 92, descriptorIndex := 93, attributes := #[] }, { accessFlags := 2, nameIndex := 63, descriptorIndex := 64, attributes := #[] }, { accessFlags := 2, nameIndex := 101, descriptorIndex := 102, attributes := #[] }, { accessFlags := 2, nameIndex := 121, descriptorIndex := 102, attributes := #[] }, { accessFlags := 2, nameIndex := 127, descriptorIndex := 128, attributes := #[] }, { accessFlags := 2, nameIndex := 105, descriptorIndex := 93, attributes := #[] }, { accessFlags := 2, nameIndex := 124, descriptorIndex := 64, attributes := #[] }, { accessFlags := 2, nameIndex := 97, descriptorIndex := 98, attributes := #[] }, { accessFlags := 2, nameIndex := 108, descriptorIndex := 98, attributes := #[] }] 49 2 #[] #[{ accessFlags := 25, nameIndex := 162, descriptorIndex := 68, attributes := #[] }, { accessFlags := 25, nameIndex := 165, descriptorIndex := 68, attributes := #[] }, { accessFlags := 25, nameIndex := 167, descriptorIndex := 68, attributes := #[] }, { accessFlags := 25, nameIndex := 169, descriptorIndex := 68, attributes := #[] }, { accessFlags := 25, nameIndex := 170, descriptorIndex := 68, attributes := #[] }, { accessFlags := 25, nameIndex := 172, descriptorIndex := 68, attributes := #[] }, { accessFlags := 25, nameIndex := 174, descriptorIndex := 68, attributes := #[] }, { accessFlags := 25, nameIndex := 176, descriptorIndex := 68, attributes := #[] }, { accessFlags := 25, nameIndex := 178, descriptorIndex := 68, attributes := #[] }, { accessFlags := 25, nameIndex := 180, descriptorIndex := 68, attributes := #[] }, { accessFlags := 2, nameIndex := 67, descriptorIndex := 68, attributes := #[] }, { accessFlags := 2, nameIndex := 71, descriptorIndex := 68, attributes := #[] }, { accessFlags := 2, nameIndex := 74, descriptorIndex := 68, attributes := #[] }, { accessFlags := 18, nameIndex := 11, descriptorIndex := 12, attributes := #[] }, { accessFlags := 18, nameIndex := 15, descriptorIndex := 12, attributes := #[] }, { accessFlags := 18, nameIndex := 18, descriptorIndex := 12, attributes := #[] }, { accessFlags := 18, nameIndex := 21, descriptorIndex := 12, attributes := #[] }, { accessFlags := 18, nameIndex := 24, descriptorIndex := 12, attributes := #[] }, { accessFlags := 18, nameIndex := 27, descriptorIndex := 12, attributes := #[] }, { accessFlags := 2, nameIndex := 77, descriptorIndex := 68, attributes := #[] }, { accessFlags := 18, nameIndex := 30, descriptorIndex := 12, attributes := #[] }, { accessFlags := 2, nameIndex := 80, descriptorIndex := 68, attributes := #[] }, { accessFlags := 18, nameIndex := 33, descriptorIndex := 12, attributes := #[] }, { accessFlags := 18, nameIndex := 36, descriptorIndex := 12, attributes := #[] }, { accessFlags := 18, nameIndex := 39, descriptorIndex := 12, attributes := #[] }, { accessFlags := 18, nameIndex := 42, descriptorIndex := 12, attributes := #[] }, { accessFlags := 18, nameIndex := 45, descriptorIndex := 12, attributes := #[] }, { accessFlags := 18, nameIndex := 48, descriptorIndex := 12, attributes := #[] }, { accessFlags := 2, nameIndex := 86, descriptorIndex := 68, attributes := #[] }, { accessFlags := 2, nameIndex := 89, descriptorIndex := 68, attributes := #[] }, { accessFlags := 18, nameIndex := 51, descriptorIndex := 12, attributes := #[] }, { accessFlags := 18, nameIndex := 54, descriptorIndex := 12, attributes := #[] }, { accessFlags := 18, nameIndex := 57, descriptorIndex := 12, attributes := #[] }, { accessFlags := 18, nameIndex := 60, descriptorIndex := 12, attributes := #[] }, { accessFlags := 2, nameIndex := 83, descriptorIndex := 68, attributes := #[] }])
  fields := #[{ name := "MAX_WORDS", type := .int, accessFlags := 25, slot := 0, constantValue := 0 }, { name := "MAX_LEN", type := .int, accessFlags := 25, slot := 1, constantValue := 0 }, { name := "MAX_K", type := .int, accessFlags := 25, slot := 2, constantValue := 0 }, { name := "MAX_FREQ", type := .int, accessFlags := 25, slot := 3, constantValue := 0 }, { name := "COMMIT_NEW", type := .int, accessFlags := 25, slot := 4, constantValue := 0 }, { name := "COMMIT_ADDED", type := .int, accessFlags := 25, slot := 5, constantValue := 0 }, { name := "ERR_EMPTY", type := .int, accessFlags := 25, slot := 6, constantValue := 0 }, { name := "ERR_FREQ", type := .int, accessFlags := 25, slot := 7, constantValue := 0 }, { name := "ERR_FULL", type := .int, accessFlags := 25, slot := 8, constantValue := 0 }, { name := "ERR_K", type := .int, accessFlags := 25, slot := 9, constantValue := 0 }, { name := "cap", type := .int, accessFlags := 2, slot := 0, constantValue := 0 }, { name := "words", type := .int, accessFlags := 2, slot := 1, constantValue := 0 }, { name := "nodeCount", type := .int, accessFlags := 2, slot := 2, constantValue := 0 }, { name := "childSlot", type := (.array .int), accessFlags := 18, slot := 3, constantValue := 0 }, { name := "nodeFreq", type := (.array .int), accessFlags := 18, slot := 4, constantValue := 0 }, { name := "nodeParent", type := (.array .int), accessFlags := 18, slot := 5, constantValue := 0 }, { name := "nodeLetter", type := (.array .int), accessFlags := 18, slot := 6, constantValue := 0 }, { name := "nodeDepth", type := (.array .int), accessFlags := 18, slot := 7, constantValue := 0 }, { name := "pend", type := (.array .int), accessFlags := 18, slot := 8, constantValue := 0 }, { name := "pendLen", type := .int, accessFlags := 2, slot := 9, constantValue := 0 }, { name := "query", type := (.array .int), accessFlags := 18, slot := 10, constantValue := 0 }, { name := "queryLen", type := .int, accessFlags := 2, slot := 11, constantValue := 0 }, { name := "rows", type := (.array .int), accessFlags := 18, slot := 12, constantValue := 0 }, { name := "stackNode", type := (.array .int), accessFlags := 18, slot := 13, constantValue := 0 }, { name := "stackNext", type := (.array .int), accessFlags := 18, slot := 14, constantValue := 0 }, { name := "candNode", type := (.array .int), accessFlags := 18, slot := 15, constantValue := 0 }, { name := "candDist", type := (.array .int), accessFlags := 18, slot := 16, constantValue := 0 }, { name := "candFreq", type := (.array .int), accessFlags := 18, slot := 17, constantValue := 0 }, { name := "candCount", type := .int, accessFlags := 2, slot := 18, constantValue := 0 }, { name := "searchK", type := .int, accessFlags := 2, slot := 19, constantValue := 0 }, { name := "resWord", type := (.array .int), accessFlags := 18, slot := 20, constantValue := 0 }, { name := "resLen", type := (.array .int), accessFlags := 18, slot := 21, constantValue := 0 }, { name := "resDist", type := (.array .int), accessFlags := 18, slot := 22, constantValue := 0 }, { name := "resFreq", type := (.array .int), accessFlags := 18, slot := 23, constantValue := 0 }, { name := "resCount", type := .int, accessFlags := 2, slot := 24, constantValue := 0 }]
  methods := #[k2m0, k2m1, k2m2, k2m3, k2m4, k2m5, k2m6, k2m7, k2m8, k2m9, k2m10, k2m11, k2m12, k2m13, k2m14, k2m15]
  instanceTypes := #[.int, .int, .int, (.array .int), (.array .int), (.array .int), (.array .int), (.array .int), (.array .int), .int, (.array .int), .int, (.array .int), (.array .int), (.array .int), (.array .int), (.array .int), (.array .int), .int, .int, (.array .int), (.array .int), (.array .int), (.array .int), .int]
  staticTypes := #[.int, .int, .int, .int, .int, .int, .int, .int, .int, .int]
  resolved := Array.replicate 202 none
  statics := none }

def pool3 : Array CpInfo := pool [(1, u "java/lang/Cloneable"), (0, .class_ 1), (0, u "java/lang/Object"), (0, .class_ 3)] 3

/-- java/lang/Cloneable -/
def k3 : Class := { plain "java/lang/Cloneable" (some 0) with
  accessFlags := 1537
  interfaces := #[]
  cf := some (fileOf pool3 2 #[] #[] 1537 4 #[] #[])
  fields := #[]
  methods := #[]
  instanceTypes := #[]
  staticTypes := #[]
  resolved := Array.replicate 8 none
  statics := none }

def pool4 : Array CpInfo := pool [(1, u "java/io/Serializable"), (0, .class_ 1), (0, u "java/lang/Object"), (0, .class_ 3)] 3

/-- java/io/Serializable -/
def k4 : Class := { plain "java/io/Serializable" (some 0) with
  accessFlags := 1537
  interfaces := #[]
  cf := some (fileOf pool4 2 #[] #[] 1537 4 #[] #[])
  fields := #[]
  methods := #[]
  instanceTypes := #[]
  staticTypes := #[]
  resolved := Array.replicate 8 none
  statics := none }

/-- the primitive byte -/
def k5 : Class := { plain "byte" none with kind := .primitive 'B', accessFlags := 0x411 }
/-- [B -/
def k6 : Class := { plain "[B" (some 0) with kind := .array 5 .byte, interfaces := #[3, 4], accessFlags := 1041 }

/-- the primitive int -/
def k7 : Class := { plain "int" none with kind := .primitive 'I', accessFlags := 0x411 }
/-- [I -/
def k8 : Class := { plain "[I" (some 0) with kind := .array 7 .int, interfaces := #[3, 4], accessFlags := 1041 }

def heap : Heap := #[]
def classes : Array Class := #[k0, k1, k2, k3, k4, k5, k6, k7, k8]
def interned : List (Array UInt16 × Addr) := []
def slotsUsed : Nat := 0
def theMethod : MethodId := ⟨1, 1⟩
def args0 : Array Value := #[.int 5, .int 5, .int 5, .int 5]
def aboutOver (below : List Frame) : State where
  vm := { classes := classes, interned := interned.toArray }
  heap := heap
  slotsUsed := slotsUsed
  threads := #[{ frames := .invoking theMethod args0 :: below }]
def below0 : List Frame := [.native { method := ⟨0, 0⟩, args := #[] }]
def about1 : State := aboutOver below0
def p0 : Program := .bare "" "" ""
def e0 : Env := launch0.env 0 0 0
theorem w_frames : about1.frames = Frame.invoking theMethod args0 :: below0 := rfl
set_option maxRecDepth 65536 in
theorem w_args : argsFit about1.vm theMethod args0 = true := by decide +kernel
set_option maxRecDepth 65536 in
theorem w_heap : heapFits about1 = true := by decide +kernel
set_option maxRecDepth 65536 in
theorem w_runnable : about1.curStatus? = some .runnable := by decide +kernel
set_option maxRecDepth 65536 in
theorem w_alone : about1.alone = true := by decide +kernel
set_option maxRecDepth 65536 in
theorem w_named : about1.methodNamed? x = some theMethod := by decide +kernel
set_option maxRecDepth 65536 in
theorem w_hears : about1.hears theMethod below0 = true := by decide +kernel
set_option maxRecDepth 65536 in
theorem w_ripe : about1.ripe theMethod args0 below0 = true := by decide +kernel
theorem w_running : about1.status = .running := rfl
set_option maxRecDepth 65536 in
theorem w_room : about1.hasRoom e0.platform room_1 = true :=
  launch0.hasRoom_least _ room_1 (by decide +kernel) (by decide +kernel) (by decide +kernel) (by decide +kernel) (by decide +kernel) (by decide +kernel)
theorem allAtoms_all (ts : List Jvm.Cond) (a : Array Jvm.Value) (st : Jvm.State) : (allAtoms ts).before a st = ts.all (fun c => c.before a st) := by
  induction ts with
  | nil => rfl
  | cons c t ih =>
    show (Jvm.Cond.and c (allAtoms t)).before a st = _
    rw [Jvm.Cond.before_and, ih, List.all_cons]
def words1 : List Jvm.Cond := Jvm.Cond.code x code maxLocals ret :: tables_1
/-- a 'code' word, met by the world's own term for the bytes: nothing is compared byte by byte -/
theorem code_word {y : MethodName} {bytes : ByteArray} {mx : Nat} {rt : Option FieldType} {a : Array Value} {s : State} {m : MethodId} {meth : Method} {c : Code} (h1 : s.methodNamed? y = some m) (h2 : s.vm.method? m = some meth) (h3 : meth.code = some c) (h4 : c.code = bytes)
    (h5 : (c.maxLocals == mx && c.exceptionTable.isEmpty && decide (c.maxStack ≤ mostOperands) && decide (meth.sig.returnType = rt) && !meth.locks && decide (parseMethodDescriptor y.desc = some meth.sig)) = true) : (Jvm.Cond.code y bytes mx rt).before a s = true := by
  simp only [Bool.and_eq_true, beq_iff_eq, Bool.not_eq_true', decide_eq_true_eq] at h5
  obtain ⟨⟨⟨⟨⟨g1, g2⟩, g3⟩, g4⟩, g5⟩, g6⟩ := h5
  simp [Cond.before, Cond.holds, Cond.value, h1, h2, h3, h4, g1, g2, g3, g4, g5, g6]
def isCode : Jvm.Cond → Bool
  | .code _ _ _ _ => true
  | _ => false
theorem all_split {L : List Jvm.Cond} {P : Jvm.Cond → Bool} (h1 : L.all (fun c => isCode c || P c) = true) (h2 : ∀ c ∈ L.filter isCode, P c = true) : L.all P = true := by
  refine List.all_eq_true.mpr fun c hc => ?_
  have h := List.all_eq_true.mp h1 c hc
  rcases Bool.eq_false_or_eq_true (isCode c) with hi | hi
  · exact h2 c (List.mem_filter.mpr ⟨hc, hi⟩)
  · simpa [hi] using h
set_option maxRecDepth 65536 in
theorem w_c0 : (Jvm.Cond.code x code maxLocals ret).before args0 about1 = true := code_word (m := ⟨1, 1⟩) (meth := k1m1) (c := k1c1) (by decide +kernel) rfl rfl rfl (by decide +kernel)
set_option maxRecDepth 65536 in
theorem w_c1 : (Jvm.Cond.code ({ cls := "FuzzyLexicon", name := "<init>", desc := "(I)V" } : Jvm.MethodName) prog_1_method_1_code (2 : Nat) (Option.none : Option Jvm.ClassFile.FieldType)).before args0 about1 = true := code_word (m := ⟨2, 0⟩) (meth := k2m0) (c := k2c0) (by decide +kernel) rfl rfl rfl (by decide +kernel)
set_option maxRecDepth 65536 in
theorem w_c2 : (Jvm.Cond.code ({ cls := "java/lang/Object", name := "<init>", desc := "()V" } : Jvm.MethodName) object_method_1_code (1 : Nat) (Option.none : Option Jvm.ClassFile.FieldType)).before args0 about1 = true := code_word (m := ⟨0, 0⟩) (meth := k0m0) (c := k0c0) (by decide +kernel) rfl rfl rfl (by decide +kernel)
set_option maxRecDepth 65536 in
theorem w_c3 : (Jvm.Cond.code ({ cls := "FuzzyLexicon", name := "clamp", desc := "(III)I" } : Jvm.MethodName) prog_1_method_19_code (4 : Nat) (Option.some Jvm.ClassFile.FieldType.int)).before args0 about1 = true := code_word (m := ⟨2, 8⟩) (meth := k2m8) (c := k2c8) (by decide +kernel) rfl rfl rfl (by decide +kernel)
set_option maxRecDepth 65536 in
theorem w_c4 : (Jvm.Cond.code ({ cls := "FuzzyLexicon", name := "pendChar", desc := "(I)Z" } : Jvm.MethodName) prog_1_method_3_code (2 : Nat) (Option.some Jvm.ClassFile.FieldType.boolean)).before args0 about1 = true := code_word (m := ⟨2, 1⟩) (meth := k2m1) (c := k2c1) (by decide +kernel) rfl rfl rfl (by decide +kernel)
set_option maxRecDepth 65536 in
theorem w_c5 : (Jvm.Cond.code ({ cls := "FuzzyLexicon", name := "isLetter", desc := "(I)Z" } : Jvm.MethodName) prog_1_method_18_code (2 : Nat) (Option.some Jvm.ClassFile.FieldType.boolean)).before args0 about1 = true := code_word (m := ⟨2, 7⟩) (meth := k2m7) (c := k2c7) (by decide +kernel) rfl rfl rfl (by decide +kernel)
set_option maxRecDepth 65536 in
theorem w_c6 : (Jvm.Cond.code ({ cls := "FuzzyLexicon", name := "commit", desc := "(I)I" } : Jvm.MethodName) prog_1_method_6_code (3 : Nat) (Option.some Jvm.ClassFile.FieldType.int)).before args0 about1 = true := code_word (m := ⟨2, 4⟩) (meth := k2m4) (c := k2c4) (by decide +kernel) rfl rfl rfl (by decide +kernel)
set_option maxRecDepth 65536 in
theorem w_c7 : (Jvm.Cond.code ({ cls := "FuzzyLexicon", name := "pendClear", desc := "()V" } : Jvm.MethodName) prog_1_method_4_code (1 : Nat) (Option.none : Option Jvm.ClassFile.FieldType)).before args0 about1 = true := code_word (m := ⟨2, 2⟩) (meth := k2m2) (c := k2c2) (by decide +kernel) rfl rfl rfl (by decide +kernel)
set_option maxRecDepth 65536 in
theorem w_c8 : (Jvm.Cond.code ({ cls := "FuzzyLexicon", name := "wordCount", desc := "()I" } : Jvm.MethodName) prog_1_method_8_code (1 : Nat) (Option.some Jvm.ClassFile.FieldType.int)).before args0 about1 = true := code_word (m := ⟨2, 6⟩) (meth := k2m6) (c := k2c6) (by decide +kernel) rfl rfl rfl (by decide +kernel)
set_option maxRecDepth 65536 in
theorem w_c9 : (Jvm.Cond.code ({ cls := "FuzzyLexicon", name := "pendingLength", desc := "()I" } : Jvm.MethodName) prog_1_method_5_code (1 : Nat) (Option.some Jvm.ClassFile.FieldType.int)).before args0 about1 = true := code_word (m := ⟨2, 3⟩) (meth := k2m3) (c := k2c3) (by decide +kernel) rfl rfl rfl (by decide +kernel)
set_option maxRecDepth 65536 in
theorem w_c10 : (Jvm.Cond.code ({ cls := "FuzzyLexicon", name := "pendFreq", desc := "()I" } : Jvm.MethodName) prog_1_method_7_code (2 : Nat) (Option.some Jvm.ClassFile.FieldType.int)).before args0 about1 = true := code_word (m := ⟨2, 5⟩) (meth := k2m5) (c := k2c5) (by decide +kernel) rfl rfl rfl (by decide +kernel)
set_option maxRecDepth 65536 in
theorem w_c11 : (Jvm.Cond.code ({ cls := "FuzzyLexicon", name := "findPending", desc := "()I" } : Jvm.MethodName) prog_1_method_27_code (4 : Nat) (Option.some Jvm.ClassFile.FieldType.int)).before args0 about1 = true := code_word (m := ⟨2, 14⟩) (meth := k2m14) (c := k2c14) (by decide +kernel) rfl rfl rfl (by decide +kernel)
set_option maxRecDepth 65536 in
theorem w_c12 : (Jvm.Cond.code ({ cls := "FuzzyLexicon", name := "childAt", desc := "(II)I" } : Jvm.MethodName) prog_1_method_23_code (3 : Nat) (Option.some Jvm.ClassFile.FieldType.int)).before args0 about1 = true := code_word (m := ⟨2, 10⟩) (meth := k2m10) (c := k2c10) (by decide +kernel) rfl rfl rfl (by decide +kernel)
set_option maxRecDepth 65536 in
theorem w_c13 : (Jvm.Cond.code ({ cls := "FuzzyLexicon", name := "hasRoom", desc := "(I)Z" } : Jvm.MethodName) prog_1_method_25_code (2 : Nat) (Option.some Jvm.ClassFile.FieldType.boolean)).before args0 about1 = true := code_word (m := ⟨2, 12⟩) (meth := k2m12) (c := k2c12) (by decide +kernel) rfl rfl rfl (by decide +kernel)
set_option maxRecDepth 65536 in
theorem w_c14 : (Jvm.Cond.code ({ cls := "FuzzyLexicon", name := "insertPending", desc := "()I" } : Jvm.MethodName) prog_1_method_28_code (5 : Nat) (Option.some Jvm.ClassFile.FieldType.int)).before args0 about1 = true := code_word (m := ⟨2, 15⟩) (meth := k2m15) (c := k2c15) (by decide +kernel) rfl rfl rfl (by decide +kernel)
set_option maxRecDepth 65536 in
theorem w_c15 : (Jvm.Cond.code ({ cls := "FuzzyLexicon", name := "newNode", desc := "(III)I" } : Jvm.MethodName) prog_1_method_26_code (5 : Nat) (Option.some Jvm.ClassFile.FieldType.int)).before args0 about1 = true := code_word (m := ⟨2, 13⟩) (meth := k2m13) (c := k2c13) (by decide +kernel) rfl rfl rfl (by decide +kernel)
set_option maxRecDepth 65536 in
theorem w_c16 : (Jvm.Cond.code ({ cls := "FuzzyLexicon", name := "setChild", desc := "(III)V" } : Jvm.MethodName) prog_1_method_24_code (4 : Nat) (Option.none : Option Jvm.ClassFile.FieldType)).before args0 about1 = true := code_word (m := ⟨2, 11⟩) (meth := k2m11) (c := k2c11) (by decide +kernel) rfl rfl rfl (by decide +kernel)
set_option maxRecDepth 65536 in
theorem w_c17 : (Jvm.Cond.code ({ cls := "FuzzyLexicon", name := "addFreq", desc := "(II)I" } : Jvm.MethodName) prog_1_method_21_code (4 : Nat) (Option.some Jvm.ClassFile.FieldType.int)).before args0 about1 = true := code_word (m := ⟨2, 9⟩) (meth := k2m9) (c := k2c9) (by decide +kernel) rfl rfl rfl (by decide +kernel)
def codes1 : List Jvm.Cond := [Jvm.Cond.code x code maxLocals ret, Jvm.Cond.code ({ cls := "FuzzyLexicon", name := "<init>", desc := "(I)V" } : Jvm.MethodName) prog_1_method_1_code (2 : Nat) (Option.none : Option Jvm.ClassFile.FieldType), Jvm.Cond.code ({ cls := "java/lang/Object", name := "<init>", desc := "()V" } : Jvm.MethodName) object_method_1_code (1 : Nat) (Option.none : Option Jvm.ClassFile.FieldType), Jvm.Cond.code ({ cls := "FuzzyLexicon", name := "clamp", desc := "(III)I" } : Jvm.MethodName) prog_1_method_19_code (4 : Nat) (Option.some Jvm.ClassFile.FieldType.int), Jvm.Cond.code ({ cls := "FuzzyLexicon", name := "pendChar", desc := "(I)Z" } : Jvm.MethodName) prog_1_method_3_code (2 : Nat) (Option.some Jvm.ClassFile.FieldType.boolean), Jvm.Cond.code ({ cls := "FuzzyLexicon", name := "isLetter", desc := "(I)Z" } : Jvm.MethodName) prog_1_method_18_code (2 : Nat) (Option.some Jvm.ClassFile.FieldType.boolean), Jvm.Cond.code ({ cls := "FuzzyLexicon", name := "commit", desc := "(I)I" } : Jvm.MethodName) prog_1_method_6_code (3 : Nat) (Option.some Jvm.ClassFile.FieldType.int), Jvm.Cond.code ({ cls := "FuzzyLexicon", name := "pendClear", desc := "()V" } : Jvm.MethodName) prog_1_method_4_code (1 : Nat) (Option.none : Option Jvm.ClassFile.FieldType), Jvm.Cond.code ({ cls := "FuzzyLexicon", name := "wordCount", desc := "()I" } : Jvm.MethodName) prog_1_method_8_code (1 : Nat) (Option.some Jvm.ClassFile.FieldType.int), Jvm.Cond.code ({ cls := "FuzzyLexicon", name := "pendingLength", desc := "()I" } : Jvm.MethodName) prog_1_method_5_code (1 : Nat) (Option.some Jvm.ClassFile.FieldType.int), Jvm.Cond.code ({ cls := "FuzzyLexicon", name := "pendFreq", desc := "()I" } : Jvm.MethodName) prog_1_method_7_code (2 : Nat) (Option.some Jvm.ClassFile.FieldType.int), Jvm.Cond.code ({ cls := "FuzzyLexicon", name := "findPending", desc := "()I" } : Jvm.MethodName) prog_1_method_27_code (4 : Nat) (Option.some Jvm.ClassFile.FieldType.int), Jvm.Cond.code ({ cls := "FuzzyLexicon", name := "childAt", desc := "(II)I" } : Jvm.MethodName) prog_1_method_23_code (3 : Nat) (Option.some Jvm.ClassFile.FieldType.int), Jvm.Cond.code ({ cls := "FuzzyLexicon", name := "hasRoom", desc := "(I)Z" } : Jvm.MethodName) prog_1_method_25_code (2 : Nat) (Option.some Jvm.ClassFile.FieldType.boolean), Jvm.Cond.code ({ cls := "FuzzyLexicon", name := "insertPending", desc := "()I" } : Jvm.MethodName) prog_1_method_28_code (5 : Nat) (Option.some Jvm.ClassFile.FieldType.int), Jvm.Cond.code ({ cls := "FuzzyLexicon", name := "newNode", desc := "(III)I" } : Jvm.MethodName) prog_1_method_26_code (5 : Nat) (Option.some Jvm.ClassFile.FieldType.int), Jvm.Cond.code ({ cls := "FuzzyLexicon", name := "setChild", desc := "(III)V" } : Jvm.MethodName) prog_1_method_24_code (4 : Nat) (Option.none : Option Jvm.ClassFile.FieldType), Jvm.Cond.code ({ cls := "FuzzyLexicon", name := "addFreq", desc := "(II)I" } : Jvm.MethodName) prog_1_method_21_code (4 : Nat) (Option.some Jvm.ClassFile.FieldType.int)]
set_option maxRecDepth 65536 in
theorem codes_eq : words1.filter isCode = codes1 := rfl
theorem w_codes : ∀ c ∈ words1.filter isCode, c.before args0 about1 = true := by
  rw [codes_eq]
  intro c hc
  simp only [codes1, List.mem_cons, List.not_mem_nil, or_false] at hc
  rcases hc with rfl | rfl | rfl | rfl | rfl | rfl | rfl | rfl | rfl | rfl | rfl | rfl | rfl | rfl | rfl | rfl | rfl | rfl
  · exact w_c0
  · exact w_c1
  · exact w_c2
  · exact w_c3
  · exact w_c4
  · exact w_c5
  · exact w_c6
  · exact w_c7
  · exact w_c8
  · exact w_c9
  · exact w_c10
  · exact w_c11
  · exact w_c12
  · exact w_c13
  · exact w_c14
  · exact w_c15
  · exact w_c16
  · exact w_c17
set_option maxRecDepth 65536 in
theorem w_t1 : (words1.take 24).all (fun c => isCode c || c.before args0 about1) = true := by decide +kernel
set_option maxRecDepth 65536 in
theorem w_t2 : ((words1.drop 24).take 24).all (fun c => isCode c || c.before args0 about1) = true := by decide +kernel
set_option maxRecDepth 65536 in
theorem w_t3 : (((words1.drop 24).drop 24).take 24).all (fun c => isCode c || c.before args0 about1) = true := by decide +kernel
set_option maxRecDepth 65536 in
theorem w_t4 : ((((words1.drop 24).drop 24).drop 24).take 24).all (fun c => isCode c || c.before args0 about1) = true := by decide +kernel
set_option maxRecDepth 65536 in
theorem w_t5 : (((((words1.drop 24).drop 24).drop 24).drop 24).take 24).all (fun c => isCode c || c.before args0 about1) = true := by decide +kernel
set_option maxRecDepth 65536 in
theorem w_t6 : (((((words1.drop 24).drop 24).drop 24).drop 24).drop 24).all (fun c => isCode c || c.before args0 about1) = true := by decide +kernel
theorem w_tables : (allAtoms (Jvm.Cond.code x code maxLocals ret :: tables_1)).before args0 about1 = true := by
  rw [allAtoms_all]
  show words1.all (fun c => c.before args0 about1) = true
  refine all_split ?_ w_codes
  rw [← List.take_append_drop 24 words1, List.all_append, w_t1, ← List.take_append_drop 24 (words1.drop 24), List.all_append, w_t2, ← List.take_append_drop 24 ((words1.drop 24).drop 24), List.all_append, w_t3, ← List.take_append_drop 24 (((words1.drop 24).drop 24).drop 24), List.all_append, w_t4, ← List.take_append_drop 24 ((((words1.drop 24).drop 24).drop 24).drop 24), List.all_append, w_t5, w_t6]
  rfl
set_option maxRecDepth 65536 in
theorem w_case : (Jvm.Cond.and given_1 narrow_1).before args0 about1 = true := by decide +kernel
theorem w_applies : (headSpec (Jvm.Cond.code x code maxLocals ret :: tables_1) room_1).applies x e0.platform about1 = true :=
  (Spec.applies_iff w_frames).mpr ⟨w_running, w_runnable, w_alone, w_named, w_hears, w_ripe, w_room, w_tables⟩
theorem atStart : AtStart classFile x code maxLocals ret World_1 tables_1 room_1 Calls_1 rest_1 Pre_1 launch0 p0 e0 about1 theMethod args0 below0 :=
  ⟨lists_1, trivial, launch0.admits_env _ _ _, launch0.least_env, fairChoices_fair.cas, fairChoices_fair.clock, w_frames, w_args, w_heap, w_applies, trivial, trivial, w_case⟩
end start1
theorem witness_1 : WitnessClaimed_1 := ⟨start1.p0, start1.e0, start1.about1, start1.theMethod, start1.args0, start1.below0, start1.atStart⟩
end Jvm.Pilot.@@N@@
