/- Words for states that are printed: values, objects, trees, and a tree laid over another. Conditions: none. -/
import Derived.Test.YtcecnhanifikfaaGreatDoorTz
import Derived.Test.YtcecnhanifikfaaGreatDoorMachE
namespace Go.Proofs.YtcecnhanifikfaaGreatDoor
open Go Go.Abs
namespace Cu
noncomputable def tt : Value := .bool true
noncomputable def ff : Value := .bool false
noncomputable def i (n : Nat) : Value := .int .i64 (Int.ofNat n)
noncomputable def j (n : Nat) : Value := .int .i64 (Int.negSucc n)
noncomputable def u (n : Nat) : Value := .int .u8 (Int.ofNat n)
noncomputable def st (l : List Nat) : Value := .string ⟨⟨l.map UInt8.ofNat⟩⟩
noncomputable def ad (b o : Nat) : Option Addr := some ⟨b, o, none⟩
noncomputable def ag (l : List Value) : Value := .agg ⟨l⟩
noncomputable def ce (l : List Value) (org : Nat) : AObj := .cells l none org false false
noncomputable def rp (n : Nat) (v : Value) : List Value := List.replicate n v
noncomputable def L : Tr AObj := .leaf
noncomputable def n (a b : Tr AObj) : Tr AObj := .node a none b
noncomputable def y (a : Tr AObj) (o : AObj) (b : Tr AObj) : Tr AObj := .node a (some o) b
noncomputable def S (k : Nat) (o : AObj) : Tr AObj := Tr.set .leaf k o
noncomputable def z : Value := .slice none 0 0
noncomputable def o (b s n c : Nat) : Value := .slice (some ⟨b, 0, some s⟩) n c
noncomputable def w (b f n c : Nat) : Value := .slice (some ⟨b, f, none⟩) n c
noncomputable def q (n : Nat) : Value := .int .u64 (Int.ofNat n)
noncomputable def h (n : Nat) : Value := .int .u32 (Int.ofNat n)
noncomputable def p (b f : Nat) : Value := .pointer (some ⟨b, f, none⟩)
noncomputable def g (l : List Value) (e org : Nat) : AObj := .cells l (some e) org false false
noncomputable def a : Value := i 0
noncomputable def b : Value := u 0
noncomputable def e : Value := st []
/-- the tree p, laid over the tree t -/
noncomputable def over (t p : Tr AObj) : Tr AObj :=
  @Tr.rec AObj (fun _ => Tr AObj → Tr AObj) (fun t => t) (fun _ v _ il ir t =>
    @Tr.rec AObj (fun _ => Tr AObj) (.node (il .leaf) v (ir .leaf)) (fun l w r _ _ => .node (il l) (@Option.rec AObj (fun _ => Option AObj) w (fun o => some o) v) (ir r)) t) p t
end Cu
end Go.Proofs.YtcecnhanifikfaaGreatDoor
