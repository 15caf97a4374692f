/- Texts of this claim, joined: each says ahead what it shows. Conditions: those of each contract. -/
import Derived.Test.YtdmpneafeadbbaaGreatDoorTab
import Derived.Test.YtdmpneafeadbbaaGreatDoorMachF
/- The types of data that the laws reach. Printed by a program. Conditions: none. -/
namespace Go.Proofs.YtdmpneafeadbbaaGreatDoor
open Go Go.Abs
theorem mix : Tryz.prog.follows .mixedOrders = true := by kernel_rfl
namespace L
def t2 : Ty := .int .i64
def t3 : Ty := .int .i64
def t4 : Ty := .bool
def t5 : Ty := .int .u8
def t9 : Ty := .str
def t22 : Ty := .int .u64
def t24 : Ty := .pair t5 (.pair t2 (.pair t22 (.pair t9 (.unit))))
def t25 : Ty := .int .i64
def t91 : Ty := .arr 32 t5
def t93 : Ty := .pair t9 (.pair t91 (.unit))
def t39 : Ty := .slice t93
def t41 : Ty := .pair t39 (.unit)
def t95 : Ty := .pair t9 (.pair t24 (.pair t22 (.pair t91 (.unit))))
def t42 : Ty := .slice t95
def t44 : Ty := .pair t42 (.unit)
def t45 : Ty := .slice t91
def t47 : Ty := .pair t3 (.pair t41 (.pair t44 (.pair t45 (.unit))))
def t55 : Ty := .slice t9
def t59 : Ty := .arr 8 t5
def t61 : Ty := .slice t5
def t90 : Ty := .arr 32 t5
def t115 : Ty := .int .u64
def t120 : Ty := .int .u32
def t152 : Ty := .arr 24 t5
end L
end Go.Proofs.YtdmpneafeadbbaaGreatDoor
/- Function 33, as a function of data: its own run; its contract. Printed by a program. Conditions: none. -/
set_option maxRecDepth 100000
set_option linter.unusedVariables false
namespace Go.Proofs.YtdmpneafeadbbaaGreatDoor
open Go Go.Abs
namespace L
noncomputable def r33_j5 (n : Nat) (x0_j5 : List UInt8) (x1_j5 : Int) (x2_j5 : Bool) : Option ((List UInt8 × Int × Unit) × Unit × Unit ⊕ Unit × Unit × Unit ⊕ Bool × Unit) :=
  iff x2_j5 (Option.some (Sum.inr (Sum.inr (Bool.false, PUnit.unit))))
  (Option.some (Sum.inl ((x0_j5, wrapQ Go.IntKind.i64 (Int.add x1_j5 (Int.ofNat 1)), PUnit.unit), PUnit.unit, PUnit.unit)))
noncomputable def r33_l2 (n : Nat) (x0_l2 : List UInt8) (x1_l2 : Int) : Option ((List UInt8 × Int × Unit) × Unit × Unit ⊕ Unit × Unit × Unit ⊕ Bool × Unit) :=
  iff (!leQ (Int.ofNat (lenQ x0_l2)) x1_l2)
  (andThen
    (andThen (inRange x1_l2 (lenQ x0_l2)) fun (j3 : Nat) =>
      andThen (nthQ j3 x0_l2) fun (y4 : UInt8) =>
        iff (!leQ (Int.ofNat 32) (Int.ofNat y4.toNat))
          (Option.some (Sum.inl ((x0_l2, x1_l2, Bool.true, PUnit.unit), PUnit.unit, PUnit.unit)))
          (andThen (inRange x1_l2 (lenQ x0_l2)) fun (j5 : Nat) =>
            andThen (nthQ j5 x0_l2) fun (y6 : UInt8) =>
              Option.some (Sum.inl ((x0_l2, x1_l2, !leQ (Int.ofNat y6.toNat) (Int.ofNat 126), PUnit.unit), PUnit.unit, PUnit.unit))))
    (sumK fun (x : (List UInt8 × Int × Bool × Unit) × Unit × Unit) =>
      r33_j5 n (Prod.fst (Prod.fst x)) (Prod.fst (Prod.snd (Prod.fst x))) (Prod.fst (Prod.snd (Prod.snd (Prod.fst x))))))
  (Option.some (Sum.inr (Sum.inl (PUnit.unit, PUnit.unit, PUnit.unit))))
noncomputable def r33_j6 (n : Nat) : Option (Bool × Unit) :=
  Option.some (Bool.true, PUnit.unit)
noncomputable def r33c (n : Nat) (x0 : List UInt8) : Option (Bool × Unit) :=
  andThen
  (iterF (fun (x : (List UInt8 × Int × Unit) × Unit × Unit) => r33_l2 n (Prod.fst (Prod.fst x)) (Prod.fst (Prod.snd (Prod.fst x)))) n
    ((x0, Int.ofNat 0, PUnit.unit), PUnit.unit, PUnit.unit))
  (sumK fun (x : Unit × Unit × Unit) => r33_j6 n)
noncomputable def r33 (n : Nat) (a : ElL [t9]) : Option (ElL [t4]) := r33c n (a.1)
noncomputable def r33p : Plan := ⟨[(2, Cut.mk [(0, Shp.d Ty.str), (3, Shp.d (Ty.int Go.IntKind.i64))] [] [] 0)], [(6, Cut.mk [] [] [] 0), (5, Cut.mk [(0, Shp.d Ty.str), (3, Shp.d (Ty.int Go.IntKind.i64)), (19, Shp.d Ty.bool)] [] [] 0)], []⟩
noncomputable def r33k (n : Nat) : Con := ⟨33, [t9], [t4], r33 n, false, none⟩
theorem r33_ok (n : Nat) : SpecSim Tryz.prog noG 33 (Con.spec (r33k n)) :=
  lift_ok (tab := []) (fn := Tryz.f33) r33p n mix Tb.tys (fun _ h => by cases h) Tryz.func33 rfl (by kernel_rfl) (fun h => by cases h) (fun ⟨x0, _⟩ => by kernel_rfl)
end L
end Go.Proofs.YtdmpneafeadbbaaGreatDoor
/- Function 102, as a function of data: its own run; its contract. Printed by a program. Conditions: none. -/
set_option maxRecDepth 100000
set_option linter.unusedVariables false
namespace Go.Proofs.YtdmpneafeadbbaaGreatDoor
open Go Go.Abs
namespace L
noncomputable def r102c (n : Nat) (x0 : Int) : Option (Int × Unit) :=
  Option.some
  (wrapQ Go.IntKind.i64 (wrapQ Go.IntKind.u64 (Int.tdiv (Int.tmod x0 (Int.ofNat 9223372036854775808)) (Int.ofNat 4503599627370496))),
    PUnit.unit)
noncomputable def r102 (n : Nat) (a : ElL [t22]) : Option (ElL [t3]) := r102c n (a.1)
noncomputable def r102p : Plan := ⟨[], [], []⟩
noncomputable def r102k (n : Nat) : Con := ⟨102, [t22], [t3], r102 n, false, none⟩
theorem r102_ok (n : Nat) : SpecSim Tryz.prog noG 102 (Con.spec (r102k n)) :=
  lift_ok (tab := []) (fn := Tryz.f102) r102p n mix Tb.tys (fun _ h => by cases h) Tryz.func102 rfl (by kernel_rfl) (fun h => by cases h) (fun ⟨x0, _⟩ => by kernel_rfl)
end L
end Go.Proofs.YtdmpneafeadbbaaGreatDoor
/- Function 103, as a function of data: its own run; its contract. Printed by a program. Conditions: none. -/
set_option maxRecDepth 100000
set_option linter.unusedVariables false
namespace Go.Proofs.YtdmpneafeadbbaaGreatDoor
open Go Go.Abs
namespace L
noncomputable def r103c (n : Nat) (x0 : Int) : Option (Int × Unit) :=
  Option.some (Int.tmod x0 (Int.ofNat 4503599627370496), PUnit.unit)
noncomputable def r103 (n : Nat) (a : ElL [t22]) : Option (ElL [t22]) := r103c n (a.1)
noncomputable def r103p : Plan := ⟨[], [], []⟩
noncomputable def r103k (n : Nat) : Con := ⟨103, [t22], [t22], r103 n, false, none⟩
theorem r103_ok (n : Nat) : SpecSim Tryz.prog noG 103 (Con.spec (r103k n)) :=
  lift_ok (tab := []) (fn := Tryz.f103) r103p n mix Tb.tys (fun _ h => by cases h) Tryz.func103 rfl (by kernel_rfl) (fun h => by cases h) (fun ⟨x0, _⟩ => by kernel_rfl)
end L
end Go.Proofs.YtdmpneafeadbbaaGreatDoor
/- Function 70, as a function of data: its own run; its contract. Printed by a program. Conditions: none. -/
set_option maxRecDepth 100000
set_option linter.unusedVariables false
namespace Go.Proofs.YtdmpneafeadbbaaGreatDoor
open Go Go.Abs
namespace L
noncomputable def r70_j3 (n : Nat) (x0_j3 : Int) (x1_j3 : Int) (x2_j3 : Bool) : Option (Int × Unit) :=
  iff x2_j3 (Option.some (Int.ofNat 1, PUnit.unit))
  (iff (eqQ x0_j3 (Int.ofNat 0)) (Option.some (Int.ofNat 2, PUnit.unit))
    (iff (!leQ (Int.ofNat 2047) x0_j3) (Option.some (Int.ofNat 3, PUnit.unit))
      (iff (eqQ x1_j3 (Int.ofNat 0)) (Option.some (Int.ofNat 4, PUnit.unit)) (Option.some (Int.ofNat 5, PUnit.unit)))))
noncomputable def r70c (n : Nat) (x0 : Int) : Option (Int × Unit) :=
  andThen
  (iff
    (eqQ
      (wrapQ Go.IntKind.i64
        (wrapQ Go.IntKind.u64 (Int.tdiv (Int.tmod x0 (Int.ofNat 9223372036854775808)) (Int.ofNat 4503599627370496))))
      (Int.ofNat 0))
    (Option.some
      (Sum.inl
        ((wrapQ Go.IntKind.i64
              (wrapQ Go.IntKind.u64 (Int.tdiv (Int.tmod x0 (Int.ofNat 9223372036854775808)) (Int.ofNat 4503599627370496))),
            Int.tmod x0 (Int.ofNat 4503599627370496), eqQ (Int.tmod x0 (Int.ofNat 4503599627370496)) (Int.ofNat 0), PUnit.unit),
          PUnit.unit, PUnit.unit)))
    (Option.some
      (Sum.inl
        ((wrapQ Go.IntKind.i64
              (wrapQ Go.IntKind.u64 (Int.tdiv (Int.tmod x0 (Int.ofNat 9223372036854775808)) (Int.ofNat 4503599627370496))),
            Int.tmod x0 (Int.ofNat 4503599627370496), Bool.false, PUnit.unit),
          PUnit.unit, PUnit.unit))))
  (sumK fun (x : (Int × Int × Bool × Unit) × Unit × Unit) =>
    r70_j3 n (Prod.fst (Prod.fst x)) (Prod.fst (Prod.snd (Prod.fst x))) (Prod.fst (Prod.snd (Prod.snd (Prod.fst x)))))
noncomputable def r70 (n : Nat) (a : ElL [t22]) : Option (ElL [t5]) := r70c n (a.1)
noncomputable def r70p : Plan := ⟨[], [(3, Cut.mk [(3, Shp.d (Ty.int Go.IntKind.i64)), (4, Shp.d (Ty.int Go.IntKind.u64)), (14, Shp.d Ty.bool)]
  [] [] 0)], []⟩
noncomputable def r70k (n : Nat) : Con := ⟨70, [t22], [t5], r70 n, false, none⟩
theorem r70_ok (n : Nat) : SpecSim Tryz.prog noG 70 (Con.spec (r70k n)) :=
  lift_ok (tab := [r103k n, r102k n]) (fn := Tryz.f70) r70p n mix Tb.tys (Cons.all (.cons (r103_ok n) (.cons (r102_ok n) .nil))) Tryz.func70 rfl (by kernel_rfl) (fun h => by cases h) (fun ⟨x0, _⟩ => by kernel_rfl)
end L
end Go.Proofs.YtdmpneafeadbbaaGreatDoor
/- Function 32, as a function of data: its own run; its contract. Printed by a program. Conditions: none. -/
set_option maxRecDepth 100000
set_option linter.unusedVariables false
namespace Go.Proofs.YtdmpneafeadbbaaGreatDoor
open Go Go.Abs
namespace L
noncomputable def r32c (n : Nat) (x0 : Int) : Option (Int × Unit) :=
  andThen (r70 n (x0, PUnit.unit))
  fun (y1 : ElL (Con.B (r70k n))) =>
  iff (eqQ y1.1 (Int.ofNat 5)) (Option.some (Int.ofNat 9221120237041090560, PUnit.unit)) (Option.some (x0, PUnit.unit))
noncomputable def r32 (n : Nat) (a : ElL [t22]) : Option (ElL [t22]) := r32c n (a.1)
noncomputable def r32p : Plan := ⟨[], [], []⟩
noncomputable def r32k (n : Nat) : Con := ⟨32, [t22], [t22], r32 n, false, none⟩
theorem r32_ok (n : Nat) : SpecSim Tryz.prog noG 32 (Con.spec (r32k n)) :=
  lift_ok (tab := [r70k n]) (fn := Tryz.f32) r32p n mix Tb.tys (Cons.all (.cons (r70_ok n) .nil)) Tryz.func32 rfl (by kernel_rfl) (fun h => by cases h) (fun ⟨x0, _⟩ => by kernel_rfl)
end L
end Go.Proofs.YtdmpneafeadbbaaGreatDoor
/- Function 11, as a function of data: its own run; its contract. Printed by a program. Conditions: none. -/
set_option maxRecDepth 100000
set_option linter.unusedVariables false
namespace Go.Proofs.YtdmpneafeadbbaaGreatDoor
open Go Go.Abs
namespace L
noncomputable def r11_j4 (n : Nat) (x0_j4 : Bool) : Option (Unit × Unit × Unit ⊕ Int × Unit) :=
  iff x0_j4 (Option.some (Sum.inr (Int.ofNat 0, PUnit.unit))) (Option.some (Sum.inl (PUnit.unit, PUnit.unit, PUnit.unit)))
noncomputable def r11_j7 (n : Nat) (x0_j7 : Bool) : Option (Unit × Unit × Unit ⊕ Int × Unit) :=
  iff x0_j7 (Option.some (Sum.inr (Int.ofNat 0, PUnit.unit))) (Option.some (Sum.inl (PUnit.unit, PUnit.unit, PUnit.unit)))
noncomputable def r11_j10 (n : Nat) (x0_j10 : Bool) : Option (Unit × Unit × Unit ⊕ Int × Unit) :=
  iff x0_j10 (Option.some (Sum.inr (Int.ofNat 0, PUnit.unit))) (Option.some (Sum.inl (PUnit.unit, PUnit.unit, PUnit.unit)))
noncomputable def r11_j11 (n : Nat) : Option (Int × Unit) :=
  Option.some (Int.ofNat 8, PUnit.unit)
noncomputable def r11c (n : Nat) (x0 : El t24) : Option (Int × Unit) :=
  andThen
  (iff (eqQ x0.1 (Int.ofNat 1))
    (andThen
      (iff (eqQ x0.2.2.1 (Int.ofNat 0)) (Option.some (Sum.inl ((sameBytes x0.2.2.2.1 [], PUnit.unit), PUnit.unit, PUnit.unit)))
        (Option.some (Sum.inl ((Bool.false, PUnit.unit), PUnit.unit, PUnit.unit))))
      (sumK fun (x : (Bool × Unit) × Unit × Unit) => r11_j4 n (Prod.fst (Prod.fst x))))
    (iff (eqQ x0.1 (Int.ofNat 2))
      (andThen
        (iff (eqQ x0.2.1 (Int.ofNat 0))
          (iff (sameBytes x0.2.2.2.1 [])
            (andThen (r32 n (x0.2.2.1, PUnit.unit))
              fun (y2 : ElL (Con.B (r32k n))) =>
              Option.some (Sum.inl ((eqQ y2.1 x0.2.2.1, PUnit.unit), PUnit.unit, PUnit.unit)))
            (Option.some (Sum.inl ((Bool.false, PUnit.unit), PUnit.unit, PUnit.unit))))
          (Option.some (Sum.inl ((Bool.false, PUnit.unit), PUnit.unit, PUnit.unit))))
        (sumK fun (x : (Bool × Unit) × Unit × Unit) => r11_j7 n (Prod.fst (Prod.fst x))))
      (iff (eqQ x0.1 (Int.ofNat 3))
        (andThen
          (iff (eqQ x0.2.1 (Int.ofNat 0))
            (iff (eqQ x0.2.2.1 (Int.ofNat 0))
              (iff (leQ (Int.ofNat (lenQ x0.2.2.2.1)) (Int.ofNat 30))
                (andThen (r33 n (x0.2.2.2.1, PUnit.unit))
                  fun (y4 : ElL (Con.B (r33k n))) =>
                  Option.some (Sum.inl ((y4.1, PUnit.unit), PUnit.unit, PUnit.unit)))
                (Option.some (Sum.inl ((Bool.false, PUnit.unit), PUnit.unit, PUnit.unit))))
              (Option.some (Sum.inl ((Bool.false, PUnit.unit), PUnit.unit, PUnit.unit))))
            (Option.some (Sum.inl ((Bool.false, PUnit.unit), PUnit.unit, PUnit.unit))))
          (sumK fun (x : (Bool × Unit) × Unit × Unit) => r11_j10 n (Prod.fst (Prod.fst x))))
        (Option.some (Sum.inl (PUnit.unit, PUnit.unit, PUnit.unit))))))
  (sumK fun (x : Unit × Unit × Unit) => r11_j11 n)
noncomputable def r11 (n : Nat) (a : ElL [t24]) : Option (ElL [t3]) := r11c n (a.1)
noncomputable def r11p : Plan := ⟨[], [(11, Cut.mk [] [] [] 0), (4, Cut.mk [(14, Shp.d Ty.bool)] [] [] 0), (7, Cut.mk [(32, Shp.d Ty.bool)] [] [] 0), (10, Cut.mk [(53, Shp.d Ty.bool)] [] [] 0)], []⟩
noncomputable def r11k (n : Nat) : Con := ⟨11, [t24], [t3], r11 n, false, none⟩
theorem r11_ok (n : Nat) : SpecSim Tryz.prog noG 11 (Con.spec (r11k n)) :=
  lift_ok (tab := [r33k n, r32k n]) (fn := Tryz.f11) r11p n mix Tb.tys (Cons.all (.cons (r33_ok n) (.cons (r32_ok n) .nil))) Tryz.func11 rfl (by kernel_rfl) (fun h => by cases h) (fun ⟨x0, _⟩ => by kernel_rfl)
end L
end Go.Proofs.YtdmpneafeadbbaaGreatDoor
/- Function 63, as a function of data: its own run; its contract. Printed by a program. Conditions: none. -/
set_option maxRecDepth 100000
set_option linter.unusedVariables false
namespace Go.Proofs.YtdmpneafeadbbaaGreatDoor
open Go Go.Abs
namespace L
noncomputable def r63_l3 (n : Nat) (x0_l3 : Int) (x1_l3 : List UInt8) : Option ((Int × List UInt8 × Unit) × Unit × Unit ⊕ (List UInt8 × Unit) × Unit × Unit ⊕ List UInt8 × Unit) :=
  iff (!leQ x0_l3 (Int.ofNat 0))
  (iff
    (Nat.ble
      (Nat.add
        (lenQ (toB [wrapQ Go.IntKind.u8 (wrapQ Go.IntKind.u64 (Int.add (Int.ofNat 48) (Int.tmod x0_l3 (Int.ofNat 10))))]))
        (lenQ x1_l3))
      1000000000)
    (Option.some
      (Sum.inl
        ((wrapQ Go.IntKind.u64 (Int.tdiv x0_l3 (Int.ofNat 10)),
            appU
              (toB [wrapQ Go.IntKind.u8 (wrapQ Go.IntKind.u64 (Int.add (Int.ofNat 48) (Int.tmod x0_l3 (Int.ofNat 10))))]) x1_l3,
            PUnit.unit),
          PUnit.unit, PUnit.unit)))
    Option.none)
  (Option.some (Sum.inr (Sum.inl ((x1_l3, PUnit.unit), PUnit.unit, PUnit.unit))))
noncomputable def r63_j6 (n : Nat) (x0_j6 : List UInt8) : Option (List UInt8 × Unit) :=
  Option.some (x0_j6, PUnit.unit)
noncomputable def r63c (n : Nat) (x0 : Int) : Option (List UInt8 × Unit) :=
  andThen
  (iterF (fun (x : (Int × List UInt8 × Unit) × Unit × Unit) => r63_l3 n (Prod.fst (Prod.fst x)) (Prod.fst (Prod.snd (Prod.fst x)))) n
    ((wrapQ Go.IntKind.u64 (Int.tdiv x0 (Int.ofNat 10)),
        toB [wrapQ Go.IntKind.u8 (wrapQ Go.IntKind.u64 (Int.add (Int.ofNat 48) (Int.tmod x0 (Int.ofNat 10))))], PUnit.unit),
      PUnit.unit, PUnit.unit))
  (sumK fun (x : (List UInt8 × Unit) × Unit × Unit) => r63_j6 n (Prod.fst (Prod.fst x)))
noncomputable def r63 (n : Nat) (a : ElL [t22]) : Option (ElL [t9]) := r63c n (a.1)
noncomputable def r63p : Plan := ⟨[(3, Cut.mk [(0, Shp.d (Ty.int Go.IntKind.u64)), (3, Shp.d Ty.str)] [] [] 0)], [(6, Cut.mk [(3, Shp.d Ty.str)] [] [] 0)], []⟩
noncomputable def r63k (n : Nat) : Con := ⟨63, [t22], [t9], r63 n, false, none⟩
theorem r63_ok (n : Nat) : SpecSim Tryz.prog noG 63 (Con.spec (r63k n)) :=
  lift_ok (tab := []) (fn := Tryz.f63) r63p n mix Tb.tys (fun _ h => by cases h) Tryz.func63 rfl (by kernel_rfl) (fun h => by cases h) (fun ⟨x0, _⟩ => by kernel_rfl)
end L
end Go.Proofs.YtdmpneafeadbbaaGreatDoor
/- Function 65, as a function of data: its own run; its contract. Printed by a program. Conditions: none. -/
set_option maxRecDepth 100000
set_option linter.unusedVariables false
namespace Go.Proofs.YtdmpneafeadbbaaGreatDoor
open Go Go.Abs
namespace L
noncomputable def r65_j4 (n : Nat) (x0_j4 : Int) (x1_j4 : Int) (x2_j4 : Option (List Int)) : Option ((Int × Unit × Int × Unit) × (Option (List Int) × Unit) × Unit ⊕ (Unit × Unit) × (Option (List Int) × Unit) × Unit ⊕ List Int × Unit) :=
  iff
  (Nat.beq 1 1 && eqBl Bool.true Bool.true &&
    (eqBl (noO x2_j4) (noO (iff (noO x2_j4) Option.none (Option.some (rowsO x2_j4)))) &&
      (noO (iff (noO x2_j4) Option.none (Option.some (rowsO x2_j4))) ||
        Nat.beq (List.length (rowsO x2_j4))
          (List.length (rowsO (iff (noO x2_j4) Option.none (Option.some (rowsO x2_j4))))))))
  (Option.some
    (Sum.inl
      ((x0_j4, PUnit.unit, wrapQ Go.IntKind.i64 (Int.sub x1_j4 (Int.ofNat 1)), PUnit.unit),
        (iff (noO x2_j4) Option.none (Option.some (rowsO x2_j4)), PUnit.unit), PUnit.unit)))
  Option.none
noncomputable def r65_l3 (n : Nat) (x0_l3 : Int) (x1_l3 : Int) (x2_l3 : Option (List Int)) : Option ((Int × Unit × Int × Unit) × (Option (List Int) × Unit) × Unit ⊕ (Unit × Unit) × (Option (List Int) × Unit) × Unit ⊕ List Int × Unit) :=
  iff (leQ (Int.ofNat 0) x1_l3)
  (andThen
    (andThen (shAmt Go.IntKind.u64 (wrapQ Go.IntKind.i64 (Int.mul (Int.ofNat 8) x1_l3))) fun (j4 : Nat) =>
      iff (noO x2_l3)
        (Option.some
          (Sum.inl
            ((x0_l3, PUnit.unit, x1_l3, PUnit.unit),
              (Option.some [wrapQ Go.IntKind.u8 (Int.fdiv x0_l3 (Int.ofNat (Nat.pow 2 j4)))], PUnit.unit), PUnit.unit)))
        (iff
          (!noO x2_l3 &&
            (Nat.beq 1 1 && Nat.beq (Nat.add (Nat.mul (List.length (rowsO x2_l3)) 1) 0) (Nat.mul (List.length (rowsO x2_l3)) 1)))
          (iff (Nat.ble (Nat.mul (addN (List.length (rowsO x2_l3)) 1) 2) 1000000000 && Bool.true && Bool.true)
            (iff
              (Nat.beq 1 1 &&
                (!noO
                      (Option.some
                        (appE (Prod.fst (Prod.snd (0, t5, Bool.true))) (rowsO x2_l3)
                          [wrapQ Go.IntKind.u8 (Int.fdiv x0_l3 (Int.ofNat (Nat.pow 2 j4)))])) &&
                  Nat.beq (addN (List.length (rowsO x2_l3)) 1)
                    (List.length
                      (rowsO
                        (Option.some
                          (appE (Prod.fst (Prod.snd (0, t5, Bool.true))) (rowsO x2_l3)
                            [wrapQ Go.IntKind.u8 (Int.fdiv x0_l3 (Int.ofNat (Nat.pow 2 j4)))]))))))
              (Option.some
                (Sum.inl
                  ((x0_l3, PUnit.unit, x1_l3, PUnit.unit),
                    (Option.some
                        (appE (Prod.fst (Prod.snd (0, t5, Bool.true))) (rowsO x2_l3)
                          [wrapQ Go.IntKind.u8 (Int.fdiv x0_l3 (Int.ofNat (Nat.pow 2 j4)))]),
                      PUnit.unit),
                    PUnit.unit)))
              Option.none)
            Option.none)
          Option.none))
    (sumK fun (x : (Int × Unit × Int × Unit) × (Option (List Int) × Unit) × Unit) =>
      r65_j4 n (Prod.fst (Prod.fst x)) (Prod.fst (Prod.snd (Prod.snd (Prod.fst x)))) (Prod.fst (Prod.fst (Prod.snd x)))))
  (andThen
    (iff
      (Nat.beq 1 1 && eqBl Bool.true Bool.true &&
        (eqBl (noO x2_l3) (noO (iff (noO x2_l3) Option.none (Option.some (rowsO x2_l3)))) &&
          (noO (iff (noO x2_l3) Option.none (Option.some (rowsO x2_l3))) ||
            Nat.beq (List.length (rowsO x2_l3))
              (List.length (rowsO (iff (noO x2_l3) Option.none (Option.some (rowsO x2_l3))))))))
      (Option.some
        (Sum.inl ((PUnit.unit, PUnit.unit), (iff (noO x2_l3) Option.none (Option.some (rowsO x2_l3)), PUnit.unit), PUnit.unit)))
      Option.none)
    fun (r : (Unit × Unit) × (Option (List Int) × Unit) × Unit ⊕ List Int × Unit) => Option.some (Sum.inr r))
noncomputable def r65_j6 (n : Nat) (x0_j6 : Option (List Int)) : Option (List Int × Unit) :=
  iff
  (eqBl Bool.true Bool.true &&
    (noO x0_j6 || !noO x0_j6 && Nat.beq (List.length (rowsO x0_j6)) (List.length (rowsO x0_j6))))
  (Option.some (iff (noO x0_j6) [] (rowsO x0_j6), PUnit.unit)) Option.none
noncomputable def r65c (n : Nat) (x0 : Int) : Option (List Int × Unit) :=
  andThen
  (iterF
    (fun (x : (Int × Unit × Int × Unit) × (Option (List Int) × Unit) × Unit) =>
      r65_l3 n (Prod.fst (Prod.fst x)) (Prod.fst (Prod.snd (Prod.snd (Prod.fst x)))) (Prod.fst (Prod.fst (Prod.snd x))))
    n ((x0, PUnit.unit, Int.ofNat 7, PUnit.unit), (Option.none, PUnit.unit), PUnit.unit))
  (sumK fun (x : (Unit × Unit) × (Option (List Int) × Unit) × Unit) => r65_j6 n (Prod.fst (Prod.fst (Prod.snd x))))
noncomputable def r65 (n : Nat) (a : ElL [t22]) : Option (ElL [t61]) := r65c n (a.1)
noncomputable def r65p : Plan := ⟨[(3, Cut.mk [(0, Shp.d (Ty.int Go.IntKind.u64)), (3, Shp.own 0), (4, Shp.d (Ty.int Go.IntKind.i64))]
  [(0, t5, Bool.true)] [] 1)], [(6, Cut.mk [(3, Shp.own 0)] [(0, t5, Bool.true)] [] 1), (4, Cut.mk [(0, Shp.d (Ty.int Go.IntKind.u64)), (3, Shp.own 0), (4, Shp.d (Ty.int Go.IntKind.i64))]
  [(0, t5, Bool.true)] [] 1)], []⟩
noncomputable def r65k (n : Nat) : Con := ⟨65, [t22], [t61], r65 n, false, none⟩
theorem r65_ok (n : Nat) : SpecSim Tryz.prog noG 65 (Con.spec (r65k n)) :=
  lift_ok (tab := []) (fn := Tryz.f65) r65p n mix Tb.tys (fun _ h => by cases h) Tryz.func65 rfl (by kernel_rfl) (fun h => by cases h) (fun ⟨x0, _⟩ => by kernel_rfl)
end L
end Go.Proofs.YtdmpneafeadbbaaGreatDoor
/- Function 64, as a function of data: its own run; its contract. Printed by a program. Conditions: none. -/
set_option maxRecDepth 100000
set_option linter.unusedVariables false
namespace Go.Proofs.YtdmpneafeadbbaaGreatDoor
open Go Go.Abs
namespace L
noncomputable def r64_l3 (n : Nat) (x0_l3 : List Int) (x1_l3 : List UInt8) (x2_l3 : Int) : Option ((List Int × List UInt8 × Int × Unit) × Unit × Unit ⊕ (List UInt8 × Unit) × Unit × Unit ⊕ List UInt8 × Unit) :=
  iff (!leQ (Int.ofNat (List.length x0_l3)) x2_l3)
  (andThen (inRange x2_l3 (List.length x0_l3)) fun (j4 : Nat) =>
    andThen (nthQ j4 x0_l3) fun (y5 : Int) =>
      andThen (inRange (wrapQ Go.IntKind.u8 (Int.tdiv y5 (Int.ofNat 16))) 16) fun (j6 : Nat) =>
        andThen
          (nthQ j6
            [UInt8.ofNat 48, UInt8.ofNat 49, UInt8.ofNat 50, UInt8.ofNat 51, UInt8.ofNat 52, UInt8.ofNat 53, UInt8.ofNat 54, UInt8.ofNat 55,
              UInt8.ofNat 56, UInt8.ofNat 57, UInt8.ofNat 97, UInt8.ofNat 98, UInt8.ofNat 99, UInt8.ofNat 100, UInt8.ofNat 101, UInt8.ofNat 102])
          fun (y7 : UInt8) =>
          andThen (inRange x2_l3 (List.length x0_l3)) fun (j8 : Nat) =>
            andThen (nthQ j8 x0_l3) fun (y9 : Int) =>
              andThen (inRange (Int.tmod y9 (Int.ofNat 16)) 16) fun (j10 : Nat) =>
                andThen
                  (nthQ j10
                    [UInt8.ofNat 48, UInt8.ofNat 49, UInt8.ofNat 50, UInt8.ofNat 51, UInt8.ofNat 52, UInt8.ofNat 53, UInt8.ofNat 54, UInt8.ofNat 55,
                      UInt8.ofNat 56, UInt8.ofNat 57, UInt8.ofNat 97, UInt8.ofNat 98, UInt8.ofNat 99, UInt8.ofNat 100, UInt8.ofNat 101,
                      UInt8.ofNat 102])
                  fun (y11 : UInt8) =>
                  iff (Nat.ble (Nat.add (lenQ x1_l3) (lenQ (toB [Int.ofNat y7.toNat, Int.ofNat y11.toNat]))) 1000000000)
                    (Option.some
                      (Sum.inl
                        ((x0_l3, appU x1_l3 (toB [Int.ofNat y7.toNat, Int.ofNat y11.toNat]),
                            wrapQ Go.IntKind.i64 (Int.add x2_l3 (Int.ofNat 1)), PUnit.unit),
                          PUnit.unit, PUnit.unit)))
                    Option.none)
  (Option.some (Sum.inr (Sum.inl ((x1_l3, PUnit.unit), PUnit.unit, PUnit.unit))))
noncomputable def r64_j6 (n : Nat) (x0_j6 : List UInt8) : Option (List UInt8 × Unit) :=
  Option.some (x0_j6, PUnit.unit)
noncomputable def r64c (n : Nat) (x0 : List Int) : Option (List UInt8 × Unit) :=
  andThen
  (iterF
    (fun (x : (List Int × List UInt8 × Int × Unit) × Unit × Unit) =>
      r64_l3 n (Prod.fst (Prod.fst x)) (Prod.fst (Prod.snd (Prod.fst x))) (Prod.fst (Prod.snd (Prod.snd (Prod.fst x)))))
    n ((x0, [], Int.ofNat 0, PUnit.unit), PUnit.unit, PUnit.unit))
  (sumK fun (x : (List UInt8 × Unit) × Unit × Unit) => r64_j6 n (Prod.fst (Prod.fst x)))
noncomputable def r64 (n : Nat) (a : ElL [t61]) : Option (ElL [t9]) := r64c n (a.1)
noncomputable def r64p : Plan := ⟨[(3, Cut.mk
  [(0, Shp.d (Ty.slice t5)), (3, Shp.d Ty.str),
    (4, Shp.d (Ty.int Go.IntKind.i64))]
  [] [] 0)], [(6, Cut.mk [(3, Shp.d Ty.str)] [] [] 0)], []⟩
noncomputable def r64k (n : Nat) : Con := ⟨64, [t61], [t9], r64 n, false, none⟩
theorem r64_ok (n : Nat) : SpecSim Tryz.prog noG 64 (Con.spec (r64k n)) :=
  lift_ok (tab := []) (fn := Tryz.f64) r64p n mix Tb.tys (fun _ h => by cases h) Tryz.func64 rfl (by kernel_rfl) (fun h => by cases h) (fun ⟨x0, _⟩ => by kernel_rfl)
end L
end Go.Proofs.YtdmpneafeadbbaaGreatDoor
/- Function 69, as a function of data: its own run; its contract. Printed by a program. Conditions: none. -/
set_option maxRecDepth 100000
set_option linter.unusedVariables false
namespace Go.Proofs.YtdmpneafeadbbaaGreatDoor
open Go Go.Abs
namespace L
noncomputable def r69_j4 (n : Nat) (x0_j4 : Int) (x1_j4 : Bool) : Option (Int × Unit) :=
  iff x1_j4
  (Option.some
    (wrapQ Go.IntKind.i64 (Int.add (wrapQ Go.IntKind.i64 (wrapQ Go.IntKind.u8 (Int.sub x0_j4 (Int.ofNat 97)))) (Int.ofNat 10)),
      PUnit.unit))
  (Option.some (Int.ofNat 16, PUnit.unit))
noncomputable def r69_j2 (n : Nat) (x0_j2 : Int) (x1_j2 : Bool) : Option (Int × Unit) :=
  iff x1_j2 (Option.some (wrapQ Go.IntKind.i64 (wrapQ Go.IntKind.u8 (Int.sub x0_j2 (Int.ofNat 48))), PUnit.unit))
  (andThen
    (iff (leQ (Int.ofNat 97) x0_j2)
      (Option.some (Sum.inl ((x0_j2, leQ x0_j2 (Int.ofNat 102), PUnit.unit), PUnit.unit, PUnit.unit)))
      (Option.some (Sum.inl ((x0_j2, Bool.false, PUnit.unit), PUnit.unit, PUnit.unit))))
    (sumK fun (x : (Int × Bool × Unit) × Unit × Unit) => r69_j4 n (Prod.fst (Prod.fst x)) (Prod.fst (Prod.snd (Prod.fst x)))))
noncomputable def r69c (n : Nat) (x0 : Int) : Option (Int × Unit) :=
  andThen
  (iff (leQ (Int.ofNat 48) x0) (Option.some (Sum.inl ((x0, leQ x0 (Int.ofNat 57), PUnit.unit), PUnit.unit, PUnit.unit)))
    (Option.some (Sum.inl ((x0, Bool.false, PUnit.unit), PUnit.unit, PUnit.unit))))
  (sumK fun (x : (Int × Bool × Unit) × Unit × Unit) => r69_j2 n (Prod.fst (Prod.fst x)) (Prod.fst (Prod.snd (Prod.fst x))))
noncomputable def r69 (n : Nat) (a : ElL [t5]) : Option (ElL [t3]) := r69c n (a.1)
noncomputable def r69p : Plan := ⟨[], [(2, Cut.mk [(0, Shp.d (Ty.int Go.IntKind.u8)), (8, Shp.d Ty.bool)] [] [] 0), (4, Cut.mk [(0, Shp.d (Ty.int Go.IntKind.u8)), (17, Shp.d Ty.bool)] [] [] 0)], []⟩
noncomputable def r69k (n : Nat) : Con := ⟨69, [t5], [t3], r69 n, false, none⟩
theorem r69_ok (n : Nat) : SpecSim Tryz.prog noG 69 (Con.spec (r69k n)) :=
  lift_ok (tab := []) (fn := Tryz.f69) r69p n mix Tb.tys (fun _ h => by cases h) Tryz.func69 rfl (by kernel_rfl) (fun h => by cases h) (fun ⟨x0, _⟩ => by kernel_rfl)
end L
end Go.Proofs.YtdmpneafeadbbaaGreatDoor
/- Function 30, as a function of data: its own run; its contract. Printed by a program. Conditions: none. -/
set_option maxRecDepth 100000
set_option linter.unusedVariables false
namespace Go.Proofs.YtdmpneafeadbbaaGreatDoor
open Go Go.Abs
namespace L
noncomputable def r30_j6 (n : Nat) (x0_j6 : List UInt8) (x1_j6 : List UInt8) (x2_j6 : Int) (x3_j6 : Bool) : Option
  ((List UInt8 × List UInt8 × Int × Unit) × Unit × Unit ⊕
    (List UInt8 × List UInt8 × Int × Unit) × Unit × Unit ⊕
      (List UInt8 × List UInt8 × Int × Unit) × Unit × Unit ⊕ (List UInt8 × Unit) × Unit × Unit ⊕ List UInt8 × Unit) :=
  iff x3_j6
  (andThen (inRange (wrapQ Go.IntKind.i64 (Int.add x2_j6 (Int.ofNat 1))) (lenQ x0_j6)) fun (j10 : Nat) =>
    andThen (nthQ j10 x0_j6) fun (y11 : UInt8) =>
      iff (eqQ (Int.ofNat y11.toNat) (Int.ofNat 115))
        (iff (Nat.ble (Nat.add (lenQ x1_j6) 1) 1000000000)
          (Option.some
            (Sum.inr
              (Sum.inl
                ((x0_j6, appU x1_j6 [UInt8.ofNat 32], wrapQ Go.IntKind.i64 (Int.add x2_j6 (Int.ofNat 1)), PUnit.unit), PUnit.unit,
                  PUnit.unit))))
          Option.none)
        (Option.some (Sum.inl ((x0_j6, x1_j6, wrapQ Go.IntKind.i64 (Int.add x2_j6 (Int.ofNat 1)), PUnit.unit), PUnit.unit, PUnit.unit))))
  (Option.some (Sum.inl ((x0_j6, x1_j6, x2_j6, PUnit.unit), PUnit.unit, PUnit.unit)))
noncomputable def r30_j9 (n : Nat) (x0_j9 : List UInt8) (x1_j9 : List UInt8) (x2_j9 : Int) : Option
  ((List UInt8 × List UInt8 × Int × Unit) × Unit × Unit ⊕
    (List UInt8 × List UInt8 × Int × Unit) × Unit × Unit ⊕ (List UInt8 × Unit) × Unit × Unit ⊕ List UInt8 × Unit) :=
  andThen (upTo (wrapQ Go.IntKind.i64 (Int.add x2_j9 (Int.ofNat 1))) (lenQ x0_j9)) fun (j15 : Nat) =>
  andThen (upTo x2_j9 j15) fun (j16 : Nat) =>
    iff (Nat.ble (Nat.add (lenQ x1_j9) (lenQ (cutL j16 j15 x0_j9))) 1000000000)
      (Option.some (Sum.inl ((x0_j9, appU x1_j9 (cutL j16 j15 x0_j9), x2_j9, PUnit.unit), PUnit.unit, PUnit.unit))) Option.none
noncomputable def r30_j4 (n : Nat) (x0_j4 : List UInt8) (x1_j4 : List UInt8) (x2_j4 : Int) : Option ((List UInt8 × List UInt8 × Int × Unit) × Unit × Unit ⊕ (List UInt8 × Unit) × Unit × Unit ⊕ List UInt8 × Unit) :=
  Option.some (Sum.inl ((x0_j4, x1_j4, wrapQ Go.IntKind.i64 (Int.add x2_j4 (Int.ofNat 1)), PUnit.unit), PUnit.unit, PUnit.unit))
noncomputable def r30_l3 (n : Nat) (x0_l3 : List UInt8) (x1_l3 : List UInt8) (x2_l3 : Int) : Option ((List UInt8 × List UInt8 × Int × Unit) × Unit × Unit ⊕ (List UInt8 × Unit) × Unit × Unit ⊕ List UInt8 × Unit) :=
  iff (!leQ (Int.ofNat (lenQ x0_l3)) x2_l3)
  (andThen
    (andThen
      (andThen
        (andThen (inRange x2_l3 (lenQ x0_l3)) fun (j4 : Nat) =>
          andThen (nthQ j4 x0_l3) fun (y5 : UInt8) =>
            iff (eqQ (Int.ofNat y5.toNat) (Int.ofNat 92))
              (Option.some
                (Sum.inl
                  ((x0_l3, x1_l3, x2_l3, !leQ (Int.ofNat (lenQ x0_l3)) (wrapQ Go.IntKind.i64 (Int.add x2_l3 (Int.ofNat 1))),
                      PUnit.unit),
                    PUnit.unit, PUnit.unit)))
              (Option.some (Sum.inl ((x0_l3, x1_l3, x2_l3, Bool.false, PUnit.unit), PUnit.unit, PUnit.unit))))
        (sumK fun (x : (List UInt8 × List UInt8 × Int × Bool × Unit) × Unit × Unit) =>
          r30_j6 n (Prod.fst (Prod.fst x)) (Prod.fst (Prod.snd (Prod.fst x))) (Prod.fst (Prod.snd (Prod.snd (Prod.fst x))))
            (Prod.fst (Prod.snd (Prod.snd (Prod.snd (Prod.fst x)))))))
      (sumK fun (x : (List UInt8 × List UInt8 × Int × Unit) × Unit × Unit) =>
        r30_j9 n (Prod.fst (Prod.fst x)) (Prod.fst (Prod.snd (Prod.fst x))) (Prod.fst (Prod.snd (Prod.snd (Prod.fst x))))))
    (sumK fun (x : (List UInt8 × List UInt8 × Int × Unit) × Unit × Unit) =>
      r30_j4 n (Prod.fst (Prod.fst x)) (Prod.fst (Prod.snd (Prod.fst x))) (Prod.fst (Prod.snd (Prod.snd (Prod.fst x))))))
  (Option.some (Sum.inr (Sum.inl ((x1_l3, PUnit.unit), PUnit.unit, PUnit.unit))))
noncomputable def r30_j10 (n : Nat) (x0_j10 : List UInt8) : Option (List UInt8 × Unit) :=
  Option.some (x0_j10, PUnit.unit)
noncomputable def r30c (n : Nat) (x0 : List UInt8) : Option (List UInt8 × Unit) :=
  andThen
  (iterF
    (fun (x : (List UInt8 × List UInt8 × Int × Unit) × Unit × Unit) =>
      r30_l3 n (Prod.fst (Prod.fst x)) (Prod.fst (Prod.snd (Prod.fst x))) (Prod.fst (Prod.snd (Prod.snd (Prod.fst x)))))
    n ((x0, [], Int.ofNat 0, PUnit.unit), PUnit.unit, PUnit.unit))
  (sumK fun (x : (List UInt8 × Unit) × Unit × Unit) => r30_j10 n (Prod.fst (Prod.fst x)))
noncomputable def r30 (n : Nat) (a : ElL [t9]) : Option (ElL [t9]) := r30c n (a.1)
noncomputable def r30p : Plan := ⟨[(3, Cut.mk [(0, Shp.d Ty.str), (3, Shp.d Ty.str), (4, Shp.d (Ty.int Go.IntKind.i64))] [] [] 0)], [(10, Cut.mk [(3, Shp.d Ty.str)] [] [] 0), (4, Cut.mk [(0, Shp.d Ty.str), (3, Shp.d Ty.str), (4, Shp.d (Ty.int Go.IntKind.i64))] [] [] 0), (9, Cut.mk [(0, Shp.d Ty.str), (3, Shp.d Ty.str), (4, Shp.d (Ty.int Go.IntKind.i64))] [] [] 0), (6, Cut.mk
  [(0, Shp.d Ty.str), (3, Shp.d Ty.str), (4, Shp.d (Ty.int Go.IntKind.i64)),
    (21, Shp.d Ty.bool)]
  [] [] 0)], []⟩
noncomputable def r30k (n : Nat) : Con := ⟨30, [t9], [t9], r30 n, false, none⟩
theorem r30_ok (n : Nat) : SpecSim Tryz.prog noG 30 (Con.spec (r30k n)) :=
  lift_ok (tab := []) (fn := Tryz.f30) r30p n mix Tb.tys (fun _ h => by cases h) Tryz.func30 rfl (by kernel_rfl) (fun h => by cases h) (fun ⟨x0, _⟩ => by kernel_rfl)
end L
end Go.Proofs.YtdmpneafeadbbaaGreatDoor
/- Function 24, as a function of data: its own run; its contract. Printed by a program. Conditions: none. -/
set_option maxRecDepth 100000
set_option linter.unusedVariables false
namespace Go.Proofs.YtdmpneafeadbbaaGreatDoor
open Go Go.Abs
namespace L
noncomputable def r24_j11 (n : Nat) (x0_j11 : List UInt8) (x1_j11 : Int) (x2_j11 : El t24) : Option
  ((Unit × List UInt8 × Int × Unit) × Unit × El t24 × Unit ⊕
    (List UInt8 × Unit) × Unit × Unit ⊕ List UInt8 × Unit) :=
  Option.some (Sum.inl ((PUnit.unit, x0_j11, wrapQ Go.IntKind.i64 (Int.add x1_j11 (Int.ofNat 1)), PUnit.unit), PUnit.unit, x2_j11, PUnit.unit))
noncomputable def r24_l10 (n : Nat) (x0_l10 : List UInt8) (x1_l10 : Int) (x2_l10 : El t24) : Option
  ((Unit × List UInt8 × Int × Unit) × Unit × El t24 × Unit ⊕
    (List UInt8 × Unit) × Unit × Unit ⊕ List UInt8 × Unit) :=
  iff (!leQ (Int.ofNat (lenQ x2_l10.2.2.2.1)) x1_l10)
  (andThen
    (andThen (inRange x1_l10 (lenQ x2_l10.2.2.2.1)) fun (j8 : Nat) =>
      andThen (nthQ j8 x2_l10.2.2.2.1) fun (y9 : UInt8) =>
        iff (eqQ (Int.ofNat y9.toNat) (Int.ofNat 32))
          (iff (Nat.ble (Nat.add (lenQ x0_l10) 2) 1000000000)
            (Option.some
              (Sum.inl ((PUnit.unit, appU x0_l10 [UInt8.ofNat 92, UInt8.ofNat 115], x1_l10, PUnit.unit), PUnit.unit, x2_l10, PUnit.unit)))
            Option.none)
          (iff (eqQ (Int.ofNat y9.toNat) (Int.ofNat 92))
            (iff (Nat.ble (Nat.add (lenQ x0_l10) 2) 1000000000)
              (Option.some
                (Sum.inl ((PUnit.unit, appU x0_l10 [UInt8.ofNat 92, UInt8.ofNat 92], x1_l10, PUnit.unit), PUnit.unit, x2_l10, PUnit.unit)))
              Option.none)
            (andThen (upTo (wrapQ Go.IntKind.i64 (Int.add x1_l10 (Int.ofNat 1))) (lenQ x2_l10.2.2.2.1)) fun (j10 : Nat) =>
              andThen (upTo x1_l10 j10) fun (j11 : Nat) =>
                iff (Nat.ble (Nat.add (lenQ x0_l10) (lenQ (cutL j11 j10 x2_l10.2.2.2.1))) 1000000000)
                  (Option.some
                    (Sum.inl
                      ((PUnit.unit, appU x0_l10 (cutL j11 j10 x2_l10.2.2.2.1), x1_l10, PUnit.unit), PUnit.unit, x2_l10, PUnit.unit)))
                  Option.none)))
    (sumK fun (x : (Unit × List UInt8 × Int × Unit) × Unit × El t24 × Unit) =>
      r24_j11 n (Prod.fst (Prod.snd (Prod.fst x))) (Prod.fst (Prod.snd (Prod.snd (Prod.fst x)))) (Prod.fst (Prod.snd (Prod.snd x)))))
  (Option.some (Sum.inr (Sum.inl ((x0_l10, PUnit.unit), PUnit.unit, PUnit.unit))))
noncomputable def r24_j18 (n : Nat) (x0_j18 : List UInt8) : Option (List UInt8 × Unit) :=
  Option.some (x0_j18, PUnit.unit)
noncomputable def r24c (n : Nat) (x0 : El t24) : Option (List UInt8 × Unit) :=
  iff (eqQ x0.1 (Int.ofNat 1))
  (iff (!leQ (Int.ofNat 0) x0.2.1)
    (andThen
      (r63 n (wrapQ Go.IntKind.u64 (Int.neg (wrapQ Go.IntKind.u64 x0.2.1)), PUnit.unit))
      fun (y1 : ElL (Con.B (r63k n))) =>
      iff (Nat.ble (Nat.add 2 (lenQ y1.1)) 1000000000) (Option.some (appU [UInt8.ofNat 110, UInt8.ofNat 45] y1.1, PUnit.unit))
        Option.none)
    (andThen (r63 n (wrapQ Go.IntKind.u64 x0.2.1, PUnit.unit))
      fun (y2 : ElL (Con.B (r63k n))) =>
      iff (Nat.ble (Nat.add 1 (lenQ y2.1)) 1000000000) (Option.some (appU [UInt8.ofNat 110] y2.1, PUnit.unit)) Option.none))
  (iff (eqQ x0.1 (Int.ofNat 2))
    (andThen (r65 n (x0.2.2.1, PUnit.unit))
      fun (y3 : ElL (Con.B (r65k n))) =>
      andThen (r64 n (y3.1, PUnit.unit))
        fun (y4 : ElL (Con.B (r64k n))) =>
        iff (Nat.ble (Nat.add 1 (lenQ y4.1)) 1000000000) (Option.some (appU [UInt8.ofNat 102] y4.1, PUnit.unit)) Option.none)
    (andThen
      (iterF
        (fun (x : (Unit × List UInt8 × Int × Unit) × Unit × El t24 × Unit) =>
          r24_l10 n (Prod.fst (Prod.snd (Prod.fst x))) (Prod.fst (Prod.snd (Prod.snd (Prod.fst x)))) (Prod.fst (Prod.snd (Prod.snd x))))
        n ((PUnit.unit, [UInt8.ofNat 116], Int.ofNat 0, PUnit.unit), PUnit.unit, x0, PUnit.unit))
      (sumK fun (x : (List UInt8 × Unit) × Unit × Unit) => r24_j18 n (Prod.fst (Prod.fst x)))))
noncomputable def r24 (n : Nat) (a : ElL [t24]) : Option (ElL [t9]) := r24c n (a.1)
noncomputable def r24p : Plan := ⟨[(10, Cut.mk [(1, Shp.at 0 0), (3, Shp.d Ty.str), (4, Shp.d (Ty.int Go.IntKind.i64))] []
  [(0, Shp.d t24)] 1)], [(18, Cut.mk [(3, Shp.d Ty.str)] [] [] 0), (11, Cut.mk [(1, Shp.at 0 0), (3, Shp.d Ty.str), (4, Shp.d (Ty.int Go.IntKind.i64))] []
  [(0, Shp.d t24)] 1)], []⟩
noncomputable def r24k (n : Nat) : Con := ⟨24, [t24], [t9], r24 n, false, none⟩
theorem r24_ok (n : Nat) : SpecSim Tryz.prog noG 24 (Con.spec (r24k n)) :=
  lift_ok (tab := [r64k n, r65k n, r63k n]) (fn := Tryz.f24) r24p n mix Tb.tys (Cons.all (.cons (r64_ok n) (.cons (r65_ok n) (.cons (r63_ok n) .nil)))) Tryz.func24 rfl (by kernel_rfl) (fun h => by cases h) (fun ⟨x0, _⟩ => by kernel_rfl)
end L
end Go.Proofs.YtdmpneafeadbbaaGreatDoor
/- Function 7, as a function of data: its own run; its contract. Printed by a program. Conditions: none. -/
set_option maxRecDepth 100000
set_option linter.unusedVariables false
namespace Go.Proofs.YtdmpneafeadbbaaGreatDoor
open Go Go.Abs
namespace L
noncomputable def r7c (n : Nat) (x0 : El t24) : Option (List UInt8 × Int × Unit) :=
  andThen (r11 n (x0, PUnit.unit))
  fun (y1 : ElL (Con.B (r11k n))) =>
  iff (!eqQ y1.1 (Int.ofNat 0)) (Option.some ([], Int.ofNat 8, PUnit.unit))
    (andThen (r24 n (x0, PUnit.unit))
      fun (y2 : ElL (Con.B (r24k n))) => Option.some (y2.1, Int.ofNat 0, PUnit.unit))
noncomputable def r7 (n : Nat) (a : ElL [t24]) : Option (ElL [t9, t3]) := r7c n (a.1)
noncomputable def r7p : Plan := ⟨[], [], []⟩
noncomputable def r7k (n : Nat) : Con := ⟨7, [t24], [t9, t3], r7 n, false, none⟩
theorem r7_ok (n : Nat) : SpecSim Tryz.prog noG 7 (Con.spec (r7k n)) :=
  lift_ok (tab := [r24k n, r11k n]) (fn := Tryz.f7) r7p n mix Tb.tys (Cons.all (.cons (r24_ok n) (.cons (r11_ok n) .nil))) Tryz.func7 rfl (by kernel_rfl) (fun h => by cases h) (fun ⟨x0, _⟩ => by kernel_rfl)
end L
end Go.Proofs.YtdmpneafeadbbaaGreatDoor
/- Function 28, as a function of data: its own run; its contract. Printed by a program. Conditions: none. -/
set_option maxRecDepth 100000
set_option linter.unusedVariables false
namespace Go.Proofs.YtdmpneafeadbbaaGreatDoor
open Go Go.Abs
namespace L
noncomputable def r28_j8 (n : Nat) (x0_j8 : List UInt8) (x1_j8 : Int) (x2_j8 : Int) (x3_j8 : Int) (x4_j8 : Bool) : Option ((List UInt8 × Int × Int × Int × Unit) × Unit × Unit ⊕ (Int × Int × Unit) × Unit × Unit ⊕ Int × Bool × Unit) :=
  iff x4_j8 (Option.some (Sum.inr (Sum.inr (Int.ofNat 0, Bool.false, PUnit.unit))))
  (andThen (inRange x3_j8 (lenQ x0_j8)) fun (j20 : Nat) =>
    andThen (nthQ j20 x0_j8) fun (y21 : UInt8) =>
      Option.some
        (Sum.inl
          ((x0_j8, x1_j8,
              wrapQ Go.IntKind.u64
                (Int.add (wrapQ Go.IntKind.u64 (Int.mul (Int.ofNat 10) x2_j8))
                  (wrapQ Go.IntKind.u64 (wrapQ Go.IntKind.u8 (Int.sub (Int.ofNat y21.toNat) (Int.ofNat 48))))),
              wrapQ Go.IntKind.i64 (Int.add x3_j8 (Int.ofNat 1)), PUnit.unit),
            PUnit.unit, PUnit.unit)))
noncomputable def r28_l5 (n : Nat) (x0_l5 : List UInt8) (x1_l5 : Int) (x2_l5 : Int) (x3_l5 : Int) : Option ((List UInt8 × Int × Int × Int × Unit) × Unit × Unit ⊕ (Int × Int × Unit) × Unit × Unit ⊕ Int × Bool × Unit) :=
  iff (!leQ (Int.ofNat (lenQ x0_l5)) x3_l5)
  (andThen
    (andThen (inRange x3_l5 (lenQ x0_l5)) fun (j11 : Nat) =>
      andThen (nthQ j11 x0_l5) fun (y12 : UInt8) =>
        iff (!leQ (Int.ofNat 48) (Int.ofNat y12.toNat))
          (Option.some (Sum.inl ((x0_l5, x1_l5, x2_l5, x3_l5, Bool.true, PUnit.unit), PUnit.unit, PUnit.unit)))
          (andThen (inRange x3_l5 (lenQ x0_l5)) fun (j13 : Nat) =>
            andThen (nthQ j13 x0_l5) fun (y14 : UInt8) =>
              Option.some
                (Sum.inl ((x0_l5, x1_l5, x2_l5, x3_l5, !leQ (Int.ofNat y14.toNat) (Int.ofNat 57), PUnit.unit), PUnit.unit, PUnit.unit))))
    (sumK fun (x : (List UInt8 × Int × Int × Int × Bool × Unit) × Unit × Unit) =>
      r28_j8 n (Prod.fst (Prod.fst x)) (Prod.fst (Prod.snd (Prod.fst x))) (Prod.fst (Prod.snd (Prod.snd (Prod.fst x))))
        (Prod.fst (Prod.snd (Prod.snd (Prod.snd (Prod.fst x))))) (Prod.fst (Prod.snd (Prod.snd (Prod.snd (Prod.snd (Prod.fst x))))))))
  (Option.some (Sum.inr (Sum.inl ((x1_l5, x2_l5, PUnit.unit), PUnit.unit, PUnit.unit))))
noncomputable def r28_j10 (n : Nat) (x0_j10 : Int) (x1_j10 : Int) : Option (Int × Bool × Unit) :=
  Option.some (x1_j10, leQ x1_j10 x0_j10, PUnit.unit)
noncomputable def r28_j2 (n : Nat) (x0_j2 : List UInt8) (x1_j2 : Int) (x2_j2 : Bool) : Option (Int × Bool × Unit) :=
  iff x2_j2 (Option.some (Int.ofNat 0, Bool.false, PUnit.unit))
  (andThen
    (iterF
      (fun (x : (List UInt8 × Int × Int × Int × Unit) × Unit × Unit) =>
        r28_l5 n (Prod.fst (Prod.fst x)) (Prod.fst (Prod.snd (Prod.fst x))) (Prod.fst (Prod.snd (Prod.snd (Prod.fst x))))
          (Prod.fst (Prod.snd (Prod.snd (Prod.snd (Prod.fst x))))))
      n ((x0_j2, x1_j2, Int.ofNat 0, Int.ofNat 0, PUnit.unit), PUnit.unit, PUnit.unit))
    (sumK fun (x : (Int × Int × Unit) × Unit × Unit) => r28_j10 n (Prod.fst (Prod.fst x)) (Prod.fst (Prod.snd (Prod.fst x)))))
noncomputable def r28c (n : Nat) (x0 : List UInt8) (x1 : Int) : Option (Int × Bool × Unit) :=
  andThen
  (iff (!leQ (Int.ofNat 1) (Int.ofNat (lenQ x0)))
    (Option.some (Sum.inl ((x0, x1, Bool.true, PUnit.unit), PUnit.unit, PUnit.unit)))
    (iff (!leQ (Int.ofNat (lenQ x0)) (Int.ofNat 19))
      (Option.some (Sum.inl ((x0, x1, Bool.true, PUnit.unit), PUnit.unit, PUnit.unit)))
      (iff (!leQ (Int.ofNat (lenQ x0)) (Int.ofNat 1))
        (andThen (inRange (Int.ofNat 0) (lenQ x0)) fun (j2 : Nat) =>
          andThen (nthQ j2 x0) fun (y3 : UInt8) =>
            Option.some (Sum.inl ((x0, x1, eqQ (Int.ofNat y3.toNat) (Int.ofNat 48), PUnit.unit), PUnit.unit, PUnit.unit)))
        (Option.some (Sum.inl ((x0, x1, Bool.false, PUnit.unit), PUnit.unit, PUnit.unit))))))
  (sumK fun (x : (List UInt8 × Int × Bool × Unit) × Unit × Unit) =>
    r28_j2 n (Prod.fst (Prod.fst x)) (Prod.fst (Prod.snd (Prod.fst x))) (Prod.fst (Prod.snd (Prod.snd (Prod.fst x)))))
noncomputable def r28 (n : Nat) (a : ElL [t9, t22]) : Option (ElL [t22, t4]) := r28c n (a.1) (a.2.1)
noncomputable def r28p : Plan := ⟨[(5, Cut.mk
  [(0, Shp.d Ty.str), (1, Shp.d (Ty.int Go.IntKind.u64)), (6, Shp.d (Ty.int Go.IntKind.u64)),
    (7, Shp.d (Ty.int Go.IntKind.i64))]
  [] [] 0)], [(2, Cut.mk [(0, Shp.d Ty.str), (1, Shp.d (Ty.int Go.IntKind.u64)), (25, Shp.d Ty.bool)] [] [] 0), (10, Cut.mk [(1, Shp.d (Ty.int Go.IntKind.u64)), (6, Shp.d (Ty.int Go.IntKind.u64))] [] [] 0), (8, Cut.mk
  [(0, Shp.d Ty.str), (1, Shp.d (Ty.int Go.IntKind.u64)), (6, Shp.d (Ty.int Go.IntKind.u64)),
    (7, Shp.d (Ty.int Go.IntKind.i64)), (41, Shp.d Ty.bool)]
  [] [] 0)], []⟩
noncomputable def r28k (n : Nat) : Con := ⟨28, [t9, t22], [t22, t4], r28 n, false, none⟩
theorem r28_ok (n : Nat) : SpecSim Tryz.prog noG 28 (Con.spec (r28k n)) :=
  lift_ok (tab := []) (fn := Tryz.f28) r28p n mix Tb.tys (fun _ h => by cases h) Tryz.func28 rfl (by kernel_rfl) (fun h => by cases h) (fun ⟨x0, x1, _⟩ => by kernel_rfl)
end L
end Go.Proofs.YtdmpneafeadbbaaGreatDoor
/- Function 29, as a function of data: its own run; its contract. Printed by a program. Conditions: none. -/
set_option maxRecDepth 100000
set_option linter.unusedVariables false
namespace Go.Proofs.YtdmpneafeadbbaaGreatDoor
open Go Go.Abs
namespace L
noncomputable def r29_j9 (n : Nat) (x0_j9 : List UInt8) (x1_j9 : Int) (x2_j9 : Int) (x3_j9 : Int) (x4_j9 : Int) (x5_j9 : Bool) (x6_j9 : Option (List Int)) : Option
  ((List UInt8 × Int × Unit × Int × Unit) × (Option (List Int) × Unit) × Unit ⊕
    (List UInt8 × Int × Unit × Int × Unit) × (Option (List Int) × Unit) × Unit ⊕
      (Unit × Unit) × (Option (List Int) × Unit) × Unit ⊕ List Int × Bool × Unit) :=
  iff x5_j9 (Option.some (Sum.inr (Sum.inr (Sum.inr ([], Bool.false, PUnit.unit)))))
  (iff (noO x6_j9)
    (Option.some
      (Sum.inl
        ((x0_j9, x1_j9, PUnit.unit, x2_j9, PUnit.unit),
          (Option.some
              [wrapQ Go.IntKind.u8 (wrapQ Go.IntKind.i64 (Int.add (wrapQ Go.IntKind.i64 (Int.mul (Int.ofNat 16) x3_j9)) x4_j9))],
            PUnit.unit),
          PUnit.unit)))
    (iff
      (!noO x6_j9 &&
        (Nat.beq 1 1 && Nat.beq (Nat.add (Nat.mul (List.length (rowsO x6_j9)) 1) 0) (Nat.mul (List.length (rowsO x6_j9)) 1)))
      (iff (Nat.ble (Nat.mul (addN (List.length (rowsO x6_j9)) 1) 2) 1000000000 && Bool.true && Bool.true)
        (iff
          (Nat.beq 1 1 &&
            (!noO
                  (Option.some
                    (appE (Prod.fst (Prod.snd (0, t5, Bool.true))) (rowsO x6_j9)
                      [wrapQ Go.IntKind.u8
                          (wrapQ Go.IntKind.i64 (Int.add (wrapQ Go.IntKind.i64 (Int.mul (Int.ofNat 16) x3_j9)) x4_j9))])) &&
              Nat.beq (addN (List.length (rowsO x6_j9)) 1)
                (List.length
                  (rowsO
                    (Option.some
                      (appE (Prod.fst (Prod.snd (0, t5, Bool.true))) (rowsO x6_j9)
                        [wrapQ Go.IntKind.u8
                            (wrapQ Go.IntKind.i64 (Int.add (wrapQ Go.IntKind.i64 (Int.mul (Int.ofNat 16) x3_j9)) x4_j9))]))))))
          (Option.some
            (Sum.inl
              ((x0_j9, x1_j9, PUnit.unit, x2_j9, PUnit.unit),
                (Option.some
                    (appE (Prod.fst (Prod.snd (0, t5, Bool.true))) (rowsO x6_j9)
                      [wrapQ Go.IntKind.u8
                          (wrapQ Go.IntKind.i64 (Int.add (wrapQ Go.IntKind.i64 (Int.mul (Int.ofNat 16) x3_j9)) x4_j9))]),
                  PUnit.unit),
                PUnit.unit)))
          Option.none)
        Option.none)
      Option.none))
noncomputable def r29_j6 (n : Nat) (x0_j6 : List UInt8) (x1_j6 : Int) (x2_j6 : Int) (x3_j6 : Option (List Int)) : Option
  ((List UInt8 × Int × Unit × Int × Unit) × (Option (List Int) × Unit) × Unit ⊕
    (Unit × Unit) × (Option (List Int) × Unit) × Unit ⊕ List Int × Bool × Unit) :=
  iff
  (Nat.beq 1 1 && eqBl Bool.true Bool.true &&
    (eqBl (noO x3_j6) (noO (iff (noO x3_j6) Option.none (Option.some (rowsO x3_j6)))) &&
      (noO (iff (noO x3_j6) Option.none (Option.some (rowsO x3_j6))) ||
        Nat.beq (List.length (rowsO x3_j6))
          (List.length (rowsO (iff (noO x3_j6) Option.none (Option.some (rowsO x3_j6))))))))
  (Option.some
    (Sum.inl
      ((x0_j6, x1_j6, PUnit.unit, wrapQ Go.IntKind.i64 (Int.add x2_j6 (Int.ofNat 1)), PUnit.unit),
        (iff (noO x3_j6) Option.none (Option.some (rowsO x3_j6)), PUnit.unit), PUnit.unit)))
  Option.none
noncomputable def r29_l5 (n : Nat) (x0_l5 : List UInt8) (x1_l5 : Int) (x2_l5 : Int) (x3_l5 : Option (List Int)) : Option
  ((List UInt8 × Int × Unit × Int × Unit) × (Option (List Int) × Unit) × Unit ⊕
    (Unit × Unit) × (Option (List Int) × Unit) × Unit ⊕ List Int × Bool × Unit) :=
  iff (!leQ x1_l5 x2_l5)
  (andThen
    (andThen (inRange (wrapQ Go.IntKind.i64 (Int.mul (Int.ofNat 2) x2_l5)) (lenQ x0_l5)) fun (j6 : Nat) =>
      andThen (nthQ j6 x0_l5) fun (y7 : UInt8) =>
        andThen (r69 n (Int.ofNat y7.toNat, PUnit.unit))
          fun (y8 : ElL (Con.B (r69k n))) =>
          andThen
            (inRange (wrapQ Go.IntKind.i64 (Int.add (wrapQ Go.IntKind.i64 (Int.mul (Int.ofNat 2) x2_l5)) (Int.ofNat 1)))
              (lenQ x0_l5))
            fun (j9 : Nat) =>
            andThen (nthQ j9 x0_l5) fun (y10 : UInt8) =>
              andThen (r69 n (Int.ofNat y10.toNat, PUnit.unit))
                fun (y11 : ElL (Con.B (r69k n))) =>
                andThen
                  (iff (!leQ y8.1 (Int.ofNat 15))
                    (iff
                      (Nat.beq 1 1 && eqBl Bool.true Bool.true &&
                        (eqBl (noO x3_l5) (noO (iff (noO x3_l5) Option.none (Option.some (rowsO x3_l5)))) &&
                          (noO (iff (noO x3_l5) Option.none (Option.some (rowsO x3_l5))) ||
                            Nat.beq (List.length (rowsO x3_l5))
                              (List.length (rowsO (iff (noO x3_l5) Option.none (Option.some (rowsO x3_l5))))))))
                      (Option.some
                        (Sum.inl
                          ((x0_l5, x1_l5, PUnit.unit, x2_l5, y8.1, y11.1, Bool.true, PUnit.unit),
                            (iff (noO x3_l5) Option.none (Option.some (rowsO x3_l5)), PUnit.unit), PUnit.unit)))
                      Option.none)
                    (iff
                      (Nat.beq 1 1 && eqBl Bool.true Bool.true &&
                        (eqBl (noO x3_l5) (noO (iff (noO x3_l5) Option.none (Option.some (rowsO x3_l5)))) &&
                          (noO (iff (noO x3_l5) Option.none (Option.some (rowsO x3_l5))) ||
                            Nat.beq (List.length (rowsO x3_l5))
                              (List.length (rowsO (iff (noO x3_l5) Option.none (Option.some (rowsO x3_l5))))))))
                      (Option.some
                        (Sum.inl
                          ((x0_l5, x1_l5, PUnit.unit, x2_l5, y8.1, y11.1, !leQ y11.1 (Int.ofNat 15), PUnit.unit),
                            (iff (noO x3_l5) Option.none (Option.some (rowsO x3_l5)), PUnit.unit), PUnit.unit)))
                      Option.none))
                  (sumK fun (x : (List UInt8 × Int × Unit × Int × Int × Int × Bool × Unit) × (Option (List Int) × Unit) × Unit) =>
                    r29_j9 n (Prod.fst (Prod.fst x)) (Prod.fst (Prod.snd (Prod.fst x))) (Prod.fst (Prod.snd (Prod.snd (Prod.snd (Prod.fst x)))))
                      (Prod.fst (Prod.snd (Prod.snd (Prod.snd (Prod.snd (Prod.fst x))))))
                      (Prod.fst (Prod.snd (Prod.snd (Prod.snd (Prod.snd (Prod.snd (Prod.fst x)))))))
                      (Prod.fst (Prod.snd (Prod.snd (Prod.snd (Prod.snd (Prod.snd (Prod.snd (Prod.fst x)))))))) (Prod.fst (Prod.fst (Prod.snd x)))))
    (sumK fun (x : (List UInt8 × Int × Unit × Int × Unit) × (Option (List Int) × Unit) × Unit) =>
      r29_j6 n (Prod.fst (Prod.fst x)) (Prod.fst (Prod.snd (Prod.fst x))) (Prod.fst (Prod.snd (Prod.snd (Prod.snd (Prod.fst x)))))
        (Prod.fst (Prod.fst (Prod.snd x)))))
  (andThen
    (iff
      (Nat.beq 1 1 && eqBl Bool.true Bool.true &&
        (eqBl (noO x3_l5) (noO (iff (noO x3_l5) Option.none (Option.some (rowsO x3_l5)))) &&
          (noO (iff (noO x3_l5) Option.none (Option.some (rowsO x3_l5))) ||
            Nat.beq (List.length (rowsO x3_l5))
              (List.length (rowsO (iff (noO x3_l5) Option.none (Option.some (rowsO x3_l5))))))))
      (Option.some
        (Sum.inl ((PUnit.unit, PUnit.unit), (iff (noO x3_l5) Option.none (Option.some (rowsO x3_l5)), PUnit.unit), PUnit.unit)))
      Option.none)
    fun (r : (Unit × Unit) × (Option (List Int) × Unit) × Unit ⊕ List Int × Bool × Unit) => Option.some (Sum.inr r))
noncomputable def r29_j11 (n : Nat) (x0_j11 : Option (List Int)) : Option (List Int × Bool × Unit) :=
  iff
  (eqBl Bool.true Bool.true &&
    (noO x0_j11 || !noO x0_j11 && Nat.beq (List.length (rowsO x0_j11)) (List.length (rowsO x0_j11))))
  (Option.some (iff (noO x0_j11) [] (rowsO x0_j11), Bool.true, PUnit.unit)) Option.none
noncomputable def r29c (n : Nat) (x0 : List UInt8) (x1 : Int) : Option (List Int × Bool × Unit) :=
  iff (!eqQ (Int.ofNat (lenQ x0)) (wrapQ Go.IntKind.i64 (Int.mul (Int.ofNat 2) x1)))
  (Option.some ([], Bool.false, PUnit.unit))
  (andThen
    (iterF
      (fun (x : (List UInt8 × Int × Unit × Int × Unit) × (Option (List Int) × Unit) × Unit) =>
        r29_l5 n (Prod.fst (Prod.fst x)) (Prod.fst (Prod.snd (Prod.fst x))) (Prod.fst (Prod.snd (Prod.snd (Prod.snd (Prod.fst x)))))
          (Prod.fst (Prod.fst (Prod.snd x))))
      n ((x0, x1, PUnit.unit, Int.ofNat 0, PUnit.unit), (Option.none, PUnit.unit), PUnit.unit))
    (sumK fun (x : (Unit × Unit) × (Option (List Int) × Unit) × Unit) => r29_j11 n (Prod.fst (Prod.fst (Prod.snd x)))))
noncomputable def r29 (n : Nat) (a : ElL [t9, t3]) : Option (ElL [t61, t4]) := r29c n (a.1) (a.2.1)
noncomputable def r29p : Plan := ⟨[(5, Cut.mk
  [(0, Shp.d Ty.str), (1, Shp.d (Ty.int Go.IntKind.i64)), (6, Shp.own 0),
    (7, Shp.d (Ty.int Go.IntKind.i64))]
  [(0, t5, Bool.true)] [] 1)], [(11, Cut.mk [(6, Shp.own 0)] [(0, t5, Bool.true)] [] 1), (6, Cut.mk
  [(0, Shp.d Ty.str), (1, Shp.d (Ty.int Go.IntKind.i64)), (6, Shp.own 0),
    (7, Shp.d (Ty.int Go.IntKind.i64))]
  [(0, t5, Bool.true)] [] 1), (9, Cut.mk
  [(0, Shp.d Ty.str), (1, Shp.d (Ty.int Go.IntKind.i64)), (6, Shp.own 0),
    (7, Shp.d (Ty.int Go.IntKind.i64)), (8, Shp.d (Ty.int Go.IntKind.i64)),
    (9, Shp.d (Ty.int Go.IntKind.i64)), (36, Shp.d Ty.bool)]
  [(0, t5, Bool.true)] [] 1)], []⟩
noncomputable def r29k (n : Nat) : Con := ⟨29, [t9, t3], [t61, t4], r29 n, false, none⟩
theorem r29_ok (n : Nat) : SpecSim Tryz.prog noG 29 (Con.spec (r29k n)) :=
  lift_ok (tab := [r69k n]) (fn := Tryz.f29) r29p n mix Tb.tys (Cons.all (.cons (r69_ok n) .nil)) Tryz.func29 rfl (by kernel_rfl) (fun h => by cases h) (fun ⟨x0, x1, _⟩ => by kernel_rfl)
end L
end Go.Proofs.YtdmpneafeadbbaaGreatDoor
/- Function 9, as a function of data: its own run; its contract. Printed by a program. Conditions: none. -/
set_option maxRecDepth 100000
set_option linter.unusedVariables false
namespace Go.Proofs.YtdmpneafeadbbaaGreatDoor
open Go Go.Abs
namespace L
noncomputable def r9_j12 (n : Nat) (x0_j12 : List UInt8) (x1_j12 : List UInt8) (x2_j12 : Bool) (x3_j12 : El t24) (x4_j12 : El t24) : Option
  ((List UInt8 × Unit × Unit × Unit) ×
      Unit × El t24 × El t24 × Unit ⊕
    El t24 × Int × Unit) :=
  andThen (r28 n (x1_j12, Int.ofNat 9223372036854775808, PUnit.unit))
  fun (y20 : ElL (Con.B (r28k n))) =>
  iff x2_j12
    (Option.some
      (Sum.inl
        ((x0_j12, PUnit.unit, PUnit.unit, PUnit.unit), PUnit.unit, x3_j12,
          (x4_j12.1, wrapQ Go.IntKind.i64 (wrapQ Go.IntKind.u64 (Int.neg y20.1)), x4_j12.2.2), PUnit.unit)))
    (Option.some
      (Sum.inl
        ((x0_j12, PUnit.unit, PUnit.unit, PUnit.unit), PUnit.unit, x3_j12, (x4_j12.1, wrapQ Go.IntKind.i64 y20.1, x4_j12.2.2), PUnit.unit)))
noncomputable def r9_j10 (n : Nat) (x0_j10 : List UInt8) (x1_j10 : List UInt8) (x2_j10 : Bool) (x3_j10 : El t24) (x4_j10 : El t24) : Option
  ((List UInt8 × Unit × Unit × Unit) ×
      Unit × El t24 × El t24 × Unit ⊕
    El t24 × Int × Unit) :=
  andThen
  (iff x2_j10
    (andThen (upTo (Int.ofNat 1) (lenQ x1_j10)) fun (j14 : Nat) =>
      Option.some
        (Sum.inl
          ((x0_j10, PUnit.unit, PUnit.unit, cutL j14 (lenQ x1_j10) x1_j10, x2_j10, PUnit.unit), PUnit.unit, x3_j10, x4_j10,
            PUnit.unit)))
    (Option.some (Sum.inl ((x0_j10, PUnit.unit, PUnit.unit, x1_j10, x2_j10, PUnit.unit), PUnit.unit, x3_j10, x4_j10, PUnit.unit))))
  (sumK
    fun
      (x :
        (List UInt8 × Unit × Unit × List UInt8 × Bool × Unit) ×
          Unit × El t24 × El t24 × Unit) =>
    r9_j12 n (Prod.fst (Prod.fst x)) (Prod.fst (Prod.snd (Prod.snd (Prod.snd (Prod.fst x)))))
      (Prod.fst (Prod.snd (Prod.snd (Prod.snd (Prod.snd (Prod.fst x)))))) (Prod.fst (Prod.snd (Prod.snd x)))
      (Prod.fst (Prod.snd (Prod.snd (Prod.snd x)))))
noncomputable def r9_l20 (n : Nat) (x0_l20 : List UInt8) (x1_l20 : List Int) (x2_l20 : Int) (x3_l20 : El t24) (x4_l20 : El t24) : Option
  ((List UInt8 × Unit × Unit × List Int × Int × Unit) ×
      Unit × El t24 × El t24 × Unit ⊕
    (List UInt8 × Unit × Unit × Unit) ×
        Unit × El t24 × El t24 × Unit ⊕
      El t24 × Int × Unit) :=
  iff (!leQ (Int.ofNat (List.length x1_l20)) x2_l20)
  (andThen (inRange x2_l20 (List.length x1_l20)) fun (j27 : Nat) =>
    andThen (nthQ j27 x1_l20) fun (y28 : Int) =>
      Option.some
        (Sum.inl
          ((x0_l20, PUnit.unit, PUnit.unit, x1_l20, wrapQ Go.IntKind.i64 (Int.add x2_l20 (Int.ofNat 1)), PUnit.unit), PUnit.unit, x3_l20,
            (x4_l20.1, x4_l20.2.1,
              wrapQ Go.IntKind.u64
                (Int.add (wrapQ Go.IntKind.u64 (Int.mul (Int.ofNat 256) x4_l20.2.2.1)) (wrapQ Go.IntKind.u64 y28)),
              x4_l20.2.2.2),
            PUnit.unit)))
  (Option.some (Sum.inr (Sum.inl ((x0_l20, PUnit.unit, PUnit.unit, PUnit.unit), PUnit.unit, x3_l20, x4_l20, PUnit.unit))))
noncomputable def r9_j26 (n : Nat) (x0_j26 : Bool) (x1_j26 : El t24) (x2_j26 : El t24) : Option (El t24 × Int × Unit) :=
  iff x0_j26 (Option.some ((Int.ofNat 0, Int.ofNat 0, Int.ofNat 0, [], PUnit.unit), Int.ofNat 12, PUnit.unit))
  (Option.some (x2_j26, Int.ofNat 0, PUnit.unit))
noncomputable def r9_j25 (n : Nat) (x0_j25 : List UInt8) (x1_j25 : El t24) (x2_j25 : El t24) : Option (El t24 × Int × Unit) :=
  andThen
  (andThen (r11 n (x2_j25, PUnit.unit))
    fun (y33 : ElL (Con.B (r11k n))) =>
    iff (!eqQ y33.1 (Int.ofNat 0))
      (Option.some (Sum.inl ((PUnit.unit, PUnit.unit, Bool.true, PUnit.unit), PUnit.unit, x1_j25, x2_j25, PUnit.unit)))
      (andThen (r24 n (x2_j25, PUnit.unit))
        fun (y34 : ElL (Con.B (r24k n))) =>
        Option.some (Sum.inl ((PUnit.unit, PUnit.unit, !sameBytes y34.1 x0_j25, PUnit.unit), PUnit.unit, x1_j25, x2_j25, PUnit.unit))))
  (sumK
    fun
      (x :
        (Unit × Unit × Bool × Unit) ×
          Unit × El t24 × El t24 × Unit) =>
    r9_j26 n (Prod.fst (Prod.snd (Prod.snd (Prod.fst x)))) (Prod.fst (Prod.snd (Prod.snd x))) (Prod.fst (Prod.snd (Prod.snd (Prod.snd x)))))
noncomputable def r9_j2 (n : Nat) (x0_j2 : List UInt8) (x1_j2 : Bool) (x2_j2 : El t24) : Option (El t24 × Int × Unit) :=
  iff x1_j2 (Option.some ((Int.ofNat 0, Int.ofNat 0, Int.ofNat 0, [], PUnit.unit), Int.ofNat 12, PUnit.unit))
  (andThen (upTo (Int.ofNat 1) (lenQ x0_j2)) fun (j4 : Nat) =>
    andThen
      (andThen (inRange (Int.ofNat 0) (lenQ x0_j2)) fun (j5 : Nat) =>
        andThen (nthQ j5 x0_j2) fun (y6 : UInt8) =>
          iff (eqQ (Int.ofNat y6.toNat) (Int.ofNat 110))
            (andThen
              (iff (!leQ (Int.ofNat (lenQ (cutL j4 (lenQ x0_j2) x0_j2))) (Int.ofNat 0))
                (andThen (inRange (Int.ofNat 0) (lenQ (cutL j4 (lenQ x0_j2) x0_j2))) fun (j7 : Nat) =>
                  andThen (nthQ j7 (cutL j4 (lenQ x0_j2) x0_j2)) fun (y8 : UInt8) =>
                    Option.some
                      (Sum.inl
                        ((x0_j2, PUnit.unit, PUnit.unit, cutL j4 (lenQ x0_j2) x0_j2, eqQ (Int.ofNat y8.toNat) (Int.ofNat 45),
                            PUnit.unit),
                          PUnit.unit, x2_j2, (Int.ofNat 1, Int.ofNat 0, Int.ofNat 0, [], PUnit.unit), PUnit.unit)))
                (Option.some
                  (Sum.inl
                    ((x0_j2, PUnit.unit, PUnit.unit, cutL j4 (lenQ x0_j2) x0_j2, Bool.false, PUnit.unit), PUnit.unit, x2_j2,
                      (Int.ofNat 1, Int.ofNat 0, Int.ofNat 0, [], PUnit.unit), PUnit.unit))))
              (sumK
                fun
                  (x :
                    (List UInt8 × Unit × Unit × List UInt8 × Bool × Unit) ×
                      Unit × El t24 × El t24 × Unit) =>
                r9_j10 n (Prod.fst (Prod.fst x)) (Prod.fst (Prod.snd (Prod.snd (Prod.snd (Prod.fst x)))))
                  (Prod.fst (Prod.snd (Prod.snd (Prod.snd (Prod.snd (Prod.fst x)))))) (Prod.fst (Prod.snd (Prod.snd x)))
                  (Prod.fst (Prod.snd (Prod.snd (Prod.snd x))))))
            (iff (eqQ (Int.ofNat y6.toNat) (Int.ofNat 102))
              (andThen (r29 n (cutL j4 (lenQ x0_j2) x0_j2, Int.ofNat 8, PUnit.unit))
                fun (y21 : ElL (Con.B (r29k n))) =>
                iterF
                  (fun
                      (x :
                        (List UInt8 × Unit × Unit × List Int × Int × Unit) ×
                          Unit × El t24 × El t24 × Unit) =>
                    r9_l20 n (Prod.fst (Prod.fst x)) (Prod.fst (Prod.snd (Prod.snd (Prod.snd (Prod.fst x)))))
                      (Prod.fst (Prod.snd (Prod.snd (Prod.snd (Prod.snd (Prod.fst x)))))) (Prod.fst (Prod.snd (Prod.snd x)))
                      (Prod.fst (Prod.snd (Prod.snd (Prod.snd x)))))
                  n
                  ((x0_j2, PUnit.unit, PUnit.unit, y21.1, Int.ofNat 0, PUnit.unit), PUnit.unit, x2_j2,
                    (Int.ofNat 2, Int.ofNat 0, Int.ofNat 0, [], PUnit.unit), PUnit.unit))
              (iff (eqQ (Int.ofNat y6.toNat) (Int.ofNat 116))
                (andThen (r30 n (cutL j4 (lenQ x0_j2) x0_j2, PUnit.unit))
                  fun (y29 : ElL (Con.B (r30k n))) =>
                  Option.some
                    (Sum.inl
                      ((x0_j2, PUnit.unit, PUnit.unit, PUnit.unit), PUnit.unit, x2_j2, (Int.ofNat 3, Int.ofNat 0, Int.ofNat 0, y29.1, PUnit.unit),
                        PUnit.unit)))
                (Option.some (Sum.inr ((Int.ofNat 0, Int.ofNat 0, Int.ofNat 0, [], PUnit.unit), Int.ofNat 12, PUnit.unit))))))
      (sumK
        fun
          (x :
            (List UInt8 × Unit × Unit × Unit) ×
              Unit × El t24 × El t24 × Unit) =>
        r9_j25 n (Prod.fst (Prod.fst x)) (Prod.fst (Prod.snd (Prod.snd x))) (Prod.fst (Prod.snd (Prod.snd (Prod.snd x))))))
noncomputable def r9c (n : Nat) (x0 : List UInt8) : Option (El t24 × Int × Unit) :=
  andThen
  (iff (!leQ (Int.ofNat 1) (Int.ofNat (lenQ x0)))
    (Option.some (Sum.inl ((x0, PUnit.unit, Bool.true, PUnit.unit), PUnit.unit, (Int.ofNat 0, Int.ofNat 0, Int.ofNat 0, [], PUnit.unit), PUnit.unit)))
    (Option.some
      (Sum.inl
        ((x0, PUnit.unit, !leQ (Int.ofNat (lenQ x0)) (Int.ofNat 100), PUnit.unit), PUnit.unit,
          (Int.ofNat 0, Int.ofNat 0, Int.ofNat 0, [], PUnit.unit), PUnit.unit))))
  (sumK fun (x : (List UInt8 × Unit × Bool × Unit) × Unit × El t24 × Unit) =>
    r9_j2 n (Prod.fst (Prod.fst x)) (Prod.fst (Prod.snd (Prod.snd (Prod.fst x)))) (Prod.fst (Prod.snd (Prod.snd x))))
noncomputable def r9 (n : Nat) (a : ElL [t9]) : Option (ElL [t24, t3]) := r9c n (a.1)
noncomputable def r9p : Plan := ⟨[(20, Cut.mk
  [(0, Shp.d Ty.str), (2, Shp.at 0 0), (4, Shp.at 1 0),
    (9, Shp.d (Ty.slice t5)), (11, Shp.d (Ty.int Go.IntKind.i64))]
  [] [(0, Shp.d t24), (1, Shp.d t24)] 2)], [(2, Cut.mk [(0, Shp.d Ty.str), (2, Shp.at 0 0), (19, Shp.d Ty.bool)] []
  [(0, Shp.d t24)] 1), (25, Cut.mk [(0, Shp.d Ty.str), (2, Shp.at 0 0), (4, Shp.at 1 0)] []
  [(0, Shp.d t24), (1, Shp.d t24)] 2), (10, Cut.mk
  [(0, Shp.d Ty.str), (2, Shp.at 0 0), (4, Shp.at 1 0), (5, Shp.d Ty.str), (6, Shp.d Ty.bool)]
  [] [(0, Shp.d t24), (1, Shp.d t24)] 2), (12, Cut.mk
  [(0, Shp.d Ty.str), (2, Shp.at 0 0), (4, Shp.at 1 0), (5, Shp.d Ty.str), (6, Shp.d Ty.bool)]
  [] [(0, Shp.d t24), (1, Shp.d t24)] 2), (26, Cut.mk [(2, Shp.at 0 0), (4, Shp.at 1 0), (91, Shp.d Ty.bool)] []
  [(0, Shp.d t24), (1, Shp.d t24)] 2)], []⟩
noncomputable def r9k (n : Nat) : Con := ⟨9, [t9], [t24, t3], r9 n, false, none⟩
theorem r9_ok (n : Nat) : SpecSim Tryz.prog noG 9 (Con.spec (r9k n)) :=
  lift_ok (tab := [r24k n, r11k n, r30k n, r29k n, r28k n]) (fn := Tryz.f9) r9p n mix Tb.tys (Cons.all (.cons (r24_ok n) (.cons (r11_ok n) (.cons (r30_ok n) (.cons (r29_ok n) (.cons (r28_ok n) .nil)))))) Tryz.func9 rfl (by kernel_rfl) (fun h => by cases h) (fun ⟨x0, _⟩ => by kernel_rfl)
end L
end Go.Proofs.YtdmpneafeadbbaaGreatDoor
/- Function 134, as a function of data: its own run; its contract. Printed by a program. Conditions: none. -/
set_option maxRecDepth 100000
set_option linter.unusedVariables false
namespace Go.Proofs.YtdmpneafeadbbaaGreatDoor
open Go Go.Abs
namespace L
noncomputable def r134c (n : Nat) (x0 : Int) : Option (Int × Int × Unit) :=
  Option.some
  (ofMod Go.IntKind.i64 (Nat.land (toMod Go.IntKind.i64 (wrapQ Go.IntKind.i64 (Int.fdiv x0 (Int.ofNat 4503599627370496)))) 2047),
    ofMod Go.IntKind.u64 (Nat.land (toMod Go.IntKind.u64 x0) 4503599627370495), PUnit.unit)
noncomputable def r134 (n : Nat) (a : ElL [t22]) : Option (ElL [t3, t22]) := r134c n (a.1)
noncomputable def r134p : Plan := ⟨[], [], []⟩
noncomputable def r134k (n : Nat) : Con := ⟨134, [t22], [t3, t22], r134 n, false, none⟩
theorem r134_ok (n : Nat) : SpecSim Tryz.prog noG 134 (Con.spec (r134k n)) :=
  lift_ok (tab := []) (fn := Tryz.f134) r134p n mix Tb.tys (fun _ h => by cases h) Tryz.func134 rfl (by kernel_rfl) (fun h => by cases h) (fun ⟨x0, _⟩ => by kernel_rfl)
end L
end Go.Proofs.YtdmpneafeadbbaaGreatDoor
/- Function 104, as a function of data: its own run; its contract. Printed by a program. Conditions: none. -/
set_option maxRecDepth 100000
set_option linter.unusedVariables false
namespace Go.Proofs.YtdmpneafeadbbaaGreatDoor
open Go Go.Abs
namespace L
noncomputable def r104_j3 (n : Nat) (x0_j3 : Int) (x1_j3 : Int) (x2_j3 : Bool) : Option (Int × Unit) :=
  iff x2_j3 (Option.some (Int.ofNat 5, PUnit.unit))
  (iff (eqQ x0_j3 (Int.ofNat 2047)) (Option.some (Int.ofNat 4, PUnit.unit))
    (iff (!eqQ x0_j3 (Int.ofNat 0)) (Option.some (Int.ofNat 3, PUnit.unit))
      (iff (!eqQ x1_j3 (Int.ofNat 0)) (Option.some (Int.ofNat 2, PUnit.unit)) (Option.some (Int.ofNat 1, PUnit.unit)))))
noncomputable def r104c (n : Nat) (x0 : Int) : Option (Int × Unit) :=
  andThen
  (iff
    (eqQ
      (ofMod Go.IntKind.i64
        (Nat.land (toMod Go.IntKind.i64 (wrapQ Go.IntKind.i64 (Int.fdiv x0 (Int.ofNat 4503599627370496)))) 2047))
      (Int.ofNat 2047))
    (Option.some
      (Sum.inl
        ((ofMod Go.IntKind.i64
              (Nat.land (toMod Go.IntKind.i64 (wrapQ Go.IntKind.i64 (Int.fdiv x0 (Int.ofNat 4503599627370496)))) 2047),
            ofMod Go.IntKind.u64 (Nat.land (toMod Go.IntKind.u64 x0) 4503599627370495),
            !eqQ (ofMod Go.IntKind.u64 (Nat.land (toMod Go.IntKind.u64 x0) 4503599627370495)) (Int.ofNat 0), PUnit.unit),
          PUnit.unit, PUnit.unit)))
    (Option.some
      (Sum.inl
        ((ofMod Go.IntKind.i64
              (Nat.land (toMod Go.IntKind.i64 (wrapQ Go.IntKind.i64 (Int.fdiv x0 (Int.ofNat 4503599627370496)))) 2047),
            ofMod Go.IntKind.u64 (Nat.land (toMod Go.IntKind.u64 x0) 4503599627370495), Bool.false, PUnit.unit),
          PUnit.unit, PUnit.unit))))
  (sumK fun (x : (Int × Int × Bool × Unit) × Unit × Unit) =>
    r104_j3 n (Prod.fst (Prod.fst x)) (Prod.fst (Prod.snd (Prod.fst x))) (Prod.fst (Prod.snd (Prod.snd (Prod.fst x)))))
noncomputable def r104 (n : Nat) (a : ElL [t22]) : Option (ElL [t5]) := r104c n (a.1)
noncomputable def r104p : Plan := ⟨[], [(3, Cut.mk [(3, Shp.d (Ty.int Go.IntKind.i64)), (4, Shp.d (Ty.int Go.IntKind.u64)), (10, Shp.d Ty.bool)]
  [] [] 0)], []⟩
noncomputable def r104k (n : Nat) : Con := ⟨104, [t22], [t5], r104 n, false, none⟩
theorem r104_ok (n : Nat) : SpecSim Tryz.prog noG 104 (Con.spec (r104k n)) :=
  lift_ok (tab := [r134k n]) (fn := Tryz.f104) r104p n mix Tb.tys (Cons.all (.cons (r134_ok n) .nil)) Tryz.func104 rfl (by kernel_rfl) (fun h => by cases h) (fun ⟨x0, _⟩ => by kernel_rfl)
end L
end Go.Proofs.YtdmpneafeadbbaaGreatDoor
/- Function 71, as a function of data: its own run; its contract. Printed by a program. Conditions: none. -/
set_option maxRecDepth 100000
set_option linter.unusedVariables false
namespace Go.Proofs.YtdmpneafeadbbaaGreatDoor
open Go Go.Abs
namespace L
noncomputable def r71c (n : Nat) (x0 : Int) : Option (Int × Unit) :=
  andThen (r104 n (x0, PUnit.unit))
  fun (y1 : ElL (Con.B (r104k n))) =>
  iff (eqQ y1.1 (Int.ofNat 5)) (Option.some (Int.ofNat 9221120237041090560, PUnit.unit)) (Option.some (x0, PUnit.unit))
noncomputable def r71 (n : Nat) (a : ElL [t22]) : Option (ElL [t22]) := r71c n (a.1)
noncomputable def r71p : Plan := ⟨[], [], []⟩
noncomputable def r71k (n : Nat) : Con := ⟨71, [t22], [t22], r71 n, false, none⟩
theorem r71_ok (n : Nat) : SpecSim Tryz.prog noG 71 (Con.spec (r71k n)) :=
  lift_ok (tab := [r104k n]) (fn := Tryz.f71) r71p n mix Tb.tys (Cons.all (.cons (r104_ok n) .nil)) Tryz.func71 rfl (by kernel_rfl) (fun h => by cases h) (fun ⟨x0, _⟩ => by kernel_rfl)
end L
end Go.Proofs.YtdmpneafeadbbaaGreatDoor
/- Function 34, as a function of data: its own run; its contract. Printed by a program. Conditions: none. -/
set_option maxRecDepth 100000
set_option linter.unusedVariables false
namespace Go.Proofs.YtdmpneafeadbbaaGreatDoor
open Go Go.Abs
namespace L
noncomputable def r34c (n : Nat) (x0 : Int) : Option (El t24 × Unit) :=
  Option.some ((Int.ofNat 1, x0, Int.ofNat 0, [], PUnit.unit), PUnit.unit)
noncomputable def r34 (n : Nat) (a : ElL [t2]) : Option (ElL [t24]) := r34c n (a.1)
noncomputable def r34p : Plan := ⟨[], [], []⟩
noncomputable def r34k (n : Nat) : Con := ⟨34, [t2], [t24], r34 n, false, none⟩
theorem r34_ok (n : Nat) : SpecSim Tryz.prog noG 34 (Con.spec (r34k n)) :=
  lift_ok (tab := []) (fn := Tryz.f34) r34p n mix Tb.tys (fun _ h => by cases h) Tryz.func34 rfl (by kernel_rfl) (fun h => by cases h) (fun ⟨x0, _⟩ => by kernel_rfl)
end L
end Go.Proofs.YtdmpneafeadbbaaGreatDoor
/- Function 35, as a function of data: its own run; its contract. Printed by a program. Conditions: none. -/
set_option maxRecDepth 100000
set_option linter.unusedVariables false
namespace Go.Proofs.YtdmpneafeadbbaaGreatDoor
open Go Go.Abs
namespace L
noncomputable def r35c (n : Nat) (x0 : Int) : Option (El t24 × Unit) :=
  andThen (r71 n (x0, PUnit.unit))
  fun (y1 : ElL (Con.B (r71k n))) =>
  Option.some ((Int.ofNat 2, Int.ofNat 0, y1.1, [], PUnit.unit), PUnit.unit)
noncomputable def r35 (n : Nat) (a : ElL [t22]) : Option (ElL [t24]) := r35c n (a.1)
noncomputable def r35p : Plan := ⟨[], [], []⟩
noncomputable def r35k (n : Nat) : Con := ⟨35, [t22], [t24], r35 n, false, none⟩
theorem r35_ok (n : Nat) : SpecSim Tryz.prog noG 35 (Con.spec (r35k n)) :=
  lift_ok (tab := [r71k n]) (fn := Tryz.f35) r35p n mix Tb.tys (Cons.all (.cons (r71_ok n) .nil)) Tryz.func35 rfl (by kernel_rfl) (fun h => by cases h) (fun ⟨x0, _⟩ => by kernel_rfl)
end L
end Go.Proofs.YtdmpneafeadbbaaGreatDoor
