/- Run and the reference's Run where they return at once: nothing to do, a bad quota or usage, too many moves. -/
import Derived.Test.YtkadjjicakinbaaDoorRf
set_option maxRecDepth 100000
namespace Go.Proofs.YtkadjjicakinbaaDoor
open Go Go.Abs
/-- the arguments of a run -/
noncomputable def p3 {β : Type} (args : List Value) (w : Int → Int → Int → Int → Int → Int → Int → Int → Int → Int → Option Addr → Nat → Nat → Option β) : Option β := andThen2 (gCons args) fun a0' q0' => andThen2 (gCons q0') fun a1' q1' => andThen2 (gCons q1') fun a2' q2' => andThen (gNil q2') fun _ => andThen (asA a0') fun l0' => andThen2 (gCons l0') fun c0_0 q0_0 => andThen (gI .i64 c0_0) fun a => andThen2 (gCons q0_0) fun c0_1 q0_1 => andThen (gI .i64 c0_1) fun b => andThen2 (gCons q0_1) fun c0_2 q0_2 => andThen (gI .i64 c0_2) fun c => andThen2 (gCons q0_2) fun c0_3 q0_3 => andThen (gI .i64 c0_3) fun d => andThen2 (gCons q0_3) fun c0_4 q0_4 => andThen (gI .i64 c0_4) fun f => andThen (gNil q0_4) fun _ => andThen (asA a1') fun l1' => andThen2 (gCons l1') fun c1_0 q1_0 => andThen (gI .i64 c1_0) fun g => andThen2 (gCons q1_0) fun c1_1 q1_1 => andThen (gI .i64 c1_1) fun i => andThen2 (gCons q1_1) fun c1_2 q1_2 => andThen (gI .i64 c1_2) fun j => andThen2 (gCons q1_2) fun c1_3 q1_3 => andThen (gI .i64 c1_3) fun k => andThen2 (gCons q1_3) fun c1_4 q1_4 => andThen (gI .i64 c1_4) fun l => andThen (gNil q1_4) fun _ => andThen3 (asSl a2') fun bs len cap => w a b c d f g i j k l bs len cap
theorem p3_eq {β : Type} {args : List Value} {w : Int → Int → Int → Int → Int → Int → Int → Int → Int → Int → Option Addr → Nat → Nat → Option β} {r : β} (h : p3 args w = some r) :
    ∃ a b c d f g i j k l bs len cap, args = [aggU (a, b, c, d, f), aggU (g, i, j, k, l), .slice bs len cap] ∧ w a b c d f g i j k l bs len cap = some r := by
  unfold p3 at h
  obtain ⟨a0', q0', e0', h⟩ := andThen2_eq h
  obtain ⟨a1', q1', e1', h⟩ := andThen2_eq h
  obtain ⟨a2', q2', e2', h⟩ := andThen2_eq h
  obtain ⟨_, en', h⟩ := andThen_eq h
  obtain ⟨l0', ea0', h⟩ := andThen_eq h
  obtain ⟨c0_0, q0_0, e0_0, h⟩ := andThen2_eq h
  obtain ⟨a, ex0_0, h⟩ := andThen_eq h
  obtain ⟨c0_1, q0_1, e0_1, h⟩ := andThen2_eq h
  obtain ⟨b, ex0_1, h⟩ := andThen_eq h
  obtain ⟨c0_2, q0_2, e0_2, h⟩ := andThen2_eq h
  obtain ⟨c, ex0_2, h⟩ := andThen_eq h
  obtain ⟨c0_3, q0_3, e0_3, h⟩ := andThen2_eq h
  obtain ⟨d, ex0_3, h⟩ := andThen_eq h
  obtain ⟨c0_4, q0_4, e0_4, h⟩ := andThen2_eq h
  obtain ⟨f, ex0_4, h⟩ := andThen_eq h
  obtain ⟨_, en0, h⟩ := andThen_eq h
  obtain ⟨l1', ea1', h⟩ := andThen_eq h
  obtain ⟨c1_0, q1_0, e1_0, h⟩ := andThen2_eq h
  obtain ⟨g, ex1_0, h⟩ := andThen_eq h
  obtain ⟨c1_1, q1_1, e1_1, h⟩ := andThen2_eq h
  obtain ⟨i, ex1_1, h⟩ := andThen_eq h
  obtain ⟨c1_2, q1_2, e1_2, h⟩ := andThen2_eq h
  obtain ⟨j, ex1_2, h⟩ := andThen_eq h
  obtain ⟨c1_3, q1_3, e1_3, h⟩ := andThen2_eq h
  obtain ⟨k, ex1_3, h⟩ := andThen_eq h
  obtain ⟨c1_4, q1_4, e1_4, h⟩ := andThen2_eq h
  obtain ⟨l, ex1_4, h⟩ := andThen_eq h
  obtain ⟨_, en1, h⟩ := andThen_eq h
  obtain ⟨bs, len, cap, es', h⟩ := andThen3_eq h
  obtain rfl := gNil_eq en'
  obtain rfl := gNil_eq en0
  obtain rfl := gCons_eq e0_4
  obtain rfl := gI_eq ex0_4
  obtain rfl := gCons_eq e0_3
  obtain rfl := gI_eq ex0_3
  obtain rfl := gCons_eq e0_2
  obtain rfl := gI_eq ex0_2
  obtain rfl := gCons_eq e0_1
  obtain rfl := gI_eq ex0_1
  obtain rfl := gCons_eq e0_0
  obtain rfl := gI_eq ex0_0
  obtain rfl := asA_eq ea0'
  obtain rfl := gNil_eq en1
  obtain rfl := gCons_eq e1_4
  obtain rfl := gI_eq ex1_4
  obtain rfl := gCons_eq e1_3
  obtain rfl := gI_eq ex1_3
  obtain rfl := gCons_eq e1_2
  obtain rfl := gI_eq ex1_2
  obtain rfl := gCons_eq e1_1
  obtain rfl := gI_eq ex1_1
  obtain rfl := gCons_eq e1_0
  obtain rfl := gI_eq ex1_0
  obtain rfl := asA_eq ea1'
  obtain rfl := asSl_eq es'
  obtain rfl := gCons_eq e2'
  obtain rfl := gCons_eq e1'
  obtain rfl := gCons_eq e0'
  exact ⟨a, b, c, d, f, g, i, j, k, l, bs, len, cap, rfl, h⟩

/-- where the moves lie -/
def Lies (bs : Option Addr) (σ : ASt) : Prop := bs = none ∨ ∃ b cc, bs = some ⟨b, 0, none⟩ ∧ Given [⟨1, b, cc⟩] σ ∧ ∀ v ∈ cc, Abs.bare v = true
/-- a function that reads the table and the moves and leaves nothing -/
theorem lies_spec {f : FuncId} {fn : Func} {call : CallF} {h : Hint} {q u : U5} {bs : Option Addr} {len cap : Nat} {σ : ASt} {v : Value} (hc : CallSim Tryd.prog Tb.glob call ∧ MonoF call) (hg : Guarded h call)
    (hfn : FnOk1 Tryd.prog Tb.glob f fn) (hb : fn.body.isSome = true) (hσ : Given [⟨0, 0, rowsC⟩] σ) (hl : Lies bs σ) (hv : VA (fun _ => none) v v)
    (hw : ∀ bs' cc at_ N, fn.ntmps ≤ N → Lies bs' (ownS [⟨0, 0, rowsC⟩, ⟨1, at_, cc⟩] 2) → ∃ t, vcC (loopT Tryd.prog Tb.glob (fun k => memN k [0, 1]) N) Tb.T call h (codeOf fn) t (initEnv [aggU q, aggU u, .slice bs' len cap] 0 .leaf) (ownS [⟨0, 0, rowsC⟩, ⟨1, at_, cc⟩] 2) (vcEnd Tb.T fn fun v1 _ => v1 = v)) :
    Enters Tryd.prog f ∧ (σ.low ≤ σ.next → ∀ π δ D H w args', GlobR Tb.glob π D → VRs π D [aggU q, aggU u, .slice bs len cap] args' → Pre σ σ π δ D H w → Calls Tryd.prog f ⟨args'⟩ w (Back σ σ π δ D H w v)) := by
  obtain ⟨b, cc, hgiv, hcc, hbs⟩ : ∃ b cc, Given [⟨1, b, cc⟩] σ ∧ (∀ v ∈ cc, Abs.bare v = true) ∧ (bs = none ∨ bs = some ⟨b, 0, none⟩) := by
    rcases hl with h1 | ⟨b, cc, h1, h2, h3⟩
    · exact ⟨0, rowsC, fun x hx => by
        simp only [List.mem_cons, List.not_mem_nil, or_false] at hx
        subst hx
        exact hσ ⟨0, 0, rowsC⟩ (by simp), bareAll_mem (by kernel_rfl), .inl h1⟩
    · exact ⟨b, cc, h2, h3, .inr h1⟩
  have hren1 : renL [0, 1] [0, b] 1 = some (b, 0) := rfl
  obtain ⟨bs', hva, hl'⟩ : ∃ bs', VA (renL [0, 1] [0, b]) (.slice bs' len cap) (.slice bs len cap) ∧ Lies bs' (ownS [⟨0, 0, rowsC⟩, ⟨1, b, cc⟩] 2) := by
    rcases hbs with rfl | rfl
    · exact ⟨none, .sl0 len cap, .inl rfl⟩
    · refine ⟨some ⟨1, 0, none⟩, .sl len cap hren1 (Nat.zero_add 0).symm, .inr ⟨1, cc, rfl, fun x hx => ?_, hcc⟩⟩
      simp only [List.mem_cons, List.not_mem_nil, or_false] at hx
      subst hx
      exact ⟨1, true, (show (ownS [⟨0, 0, rowsC⟩, ⟨1, b, cc⟩] 2).obj 1 = some (.cells cc none 1 true false) from rfl)⟩
  refine call_spec hfn (codeOf_ok hb) Tb.tys (blocks_entry (bl := [⟨0, 0, rowsC⟩, ⟨1, b, cc⟩]) (n := 2) (argsc := [aggU q, aggU u, .slice bs' len cap]) (by kernel_rfl) (by kernel_rfl) (fun x hx => ?_) (fun g hg => ?_) (fun x hx => ?_)
      (.cons (VA.bareA (by rfl)) (.cons (VA.bareA (by rfl)) (.cons hva .nil)))) fun N hN => ?_
  · simp only [List.mem_cons, List.not_mem_nil, or_false] at hx
    rcases hx with rfl | rfl
    · exact bareAll_mem (by kernel_rfl)
    · exact hcc
  · have : g < 1 := (blt_iff _ _).1 hg
    have : g = 0 := by omega
    subst this; rfl
  · simp only [List.mem_cons, List.not_mem_nil, or_false] at hx
    rcases hx with rfl | rfl
    · exact hσ _ (by simp)
    · exact hgiv _ (by simp)
  · obtain ⟨t, dd⟩ := hw bs' cc b N hN hl'
    refine (vcC_ok mix Tb.tys hc.1 hc.2 hg (codeOf fn) (codeOk_mono hN _ (hfn.2.2 _ (codeOf_ok hb))) t _ _ _ dd).mono fun x e σ1 hq => ?_
    have := vcEnd_ok hq
    cases x with
    | normal => obtain ⟨vs, g1, g2⟩ := this; exact ⟨vs, g1, _, id, by rw [g2]; exact noAddr_leave hv⟩
    | exit id => exact this.elim
    | ret => obtain ⟨vs, g1, g2⟩ := this; exact ⟨vs, g1, _, id, by rw [g2]; exact noAddr_leave hv⟩

def AskZ (a b c d f g i j k l : Int) (bs : Option Addr) (len : Nat) (σ : ASt) : Prop := len = 0 ∧ Given [⟨0, 0, rowsC⟩] σ ∧ Lies bs σ ∧ Qv a b c d f ∧ Uv a b c d f g i j k l
noncomputable def gZ : SpecG := fun args σ => p3 args fun a b c d f g i j k l bs len cap => some (dec (AskZ a b c d f g i j k l bs len σ), .tuple ⟨[aggU (g, i, j, k, l), .slice none 0 0, .int .i64 0]⟩, σ)
def AskB (a b c d f g i j k l : Int) (bs : Option Addr) (len : Nat) (σ : ASt) : Prop := Given [⟨0, 0, rowsC⟩] σ ∧ Lies bs σ ∧ (Qv a b c d f ∧ Uv a b c d f g i j k l → 120 < len)
noncomputable def badE (a b c d f g i j k l : Int) : Int := if Qv a b c d f ∧ Uv a b c d f g i j k l then 4 else 8
noncomputable def gB : SpecG := fun args σ => p3 args fun a b c d f g i j k l bs len cap => some (dec (AskB a b c d f g i j k l bs len σ), .tuple ⟨[aggU (0, 0, 0, 0, 0), .slice none 0 0, .int .i64 (badE a b c d f g i j k l)]⟩, σ)
theorem z9_walk {a b c d f g i j k l : Int} (hQ : Qv a b c d f) (hU : Uv a b c d f g i j k l) (bs : Option Addr) (cap : Nat) (cc : List Value) (at_ N : Nat) : ∃ t, vcC (loopT Tryd.prog Tb.glob (fun k => memN k [0, 1]) N) Tb.T Run.call ⟨[], [(8, 1)]⟩ (codeOf Tryd.f9) t (initEnv [aggU (a, b, c, d, f), aggU (g, i, j, k, l), .slice bs 0 cap] 0 .leaf) (ownS [⟨0, 0, rowsC⟩, ⟨1, at_, cc⟩] 2) (vcEnd Tb.T Tryd.f9 fun v1 _ => v1 = .tuple ⟨[aggU (g, i, j, k, l), .slice none 0 0, .int .i64 0]⟩) := by
  have h13 : r13_0 a b c d f g i j k l = 0 := by rw [val13, if_pos ⟨hQ, hU⟩]
  refine ⟨(.split .done (.lit (.lit .done))), of_eq (b := (fun (R : Value → ASt → Prop) => ((!eqQ (r13_0 a b c d f g i j k l) (Int.ofNat 0)) = true → R (Value.tuple (Array.mk [Value.agg (Array.mk [Value.int IntKind.i64 (Int.ofNat 0), Value.int IntKind.i64 (Int.ofNat 0), Value.int IntKind.i64 (Int.ofNat 0), Value.int IntKind.i64 (Int.ofNat 0), Value.int IntKind.i64 (Int.ofNat 0)]), Value.slice none 0 0, Value.int IntKind.i64 (r13_0 a b c d f g i j k l)])) (ASt.mk (Tr.node (Tr.node (Tr.node Tr.leaf (some (AObj.cells [Value.int IntKind.i64 g, Value.int IntKind.i64 i, Value.int IntKind.i64 j, Value.int IntKind.i64 k, Value.int IntKind.i64 l] none 3 false false)) Tr.leaf) (some (AObj.cells cc none 1 true false)) Tr.leaf) (some (AObj.cells rowsC none 0 true false)) (Tr.node (Tr.node Tr.leaf (some (AObj.cells [Value.int IntKind.i64 (Int.ofNat 0), Value.int IntKind.i64 (Int.ofNat 0), Value.int IntKind.i64 (Int.ofNat 0), Value.int IntKind.i64 (Int.ofNat 0), Value.int IntKind.i64 (Int.ofNat 0)] none 4 false false)) Tr.leaf) (some (AObj.cells [Value.int IntKind.i64 a, Value.int IntKind.i64 b, Value.int IntKind.i64 c, Value.int IntKind.i64 d, Value.int IntKind.i64 f] none 2 false false)) Tr.leaf)) 5 5 5)) ∧ ((!eqQ (r13_0 a b c d f g i j k l) (Int.ofNat 0)) = false → R (Value.tuple (Array.mk [Value.agg (Array.mk [Value.int IntKind.i64 g, Value.int IntKind.i64 i, Value.int IntKind.i64 j, Value.int IntKind.i64 k, Value.int IntKind.i64 l]), Value.slice none 0 0, Value.int IntKind.i64 (Int.ofNat 0)])) (ASt.mk (Tr.node (Tr.node (Tr.node Tr.leaf (some (AObj.cells [Value.int IntKind.i64 g, Value.int IntKind.i64 i, Value.int IntKind.i64 j, Value.int IntKind.i64 k, Value.int IntKind.i64 l] none 3 false false)) Tr.leaf) (some (AObj.cells cc none 1 true false)) Tr.leaf) (some (AObj.cells rowsC none 0 true false)) (Tr.node (Tr.node Tr.leaf (some (AObj.cells [Value.int IntKind.i64 g, Value.int IntKind.i64 i, Value.int IntKind.i64 j, Value.int IntKind.i64 k, Value.int IntKind.i64 l] none 4 false false)) Tr.leaf) (some (AObj.cells [Value.int IntKind.i64 a, Value.int IntKind.i64 b, Value.int IntKind.i64 c, Value.int IntKind.i64 d, Value.int IntKind.i64 f] none 2 false false)) Tr.leaf)) 5 5 5))) (fun v1 _ => v1 = .tuple ⟨[aggU (g, i, j, k, l), .slice none 0 0, .int .i64 0]⟩)) (by kernel_rfl) ?_⟩
  dsimp only
  have z1 : eqQ (r13_0 a b c d f g i j k l) (Int.ofNat 0) = true := by rw [h13]; kernel_rfl
  refine ⟨fun h => ?_, fun _ => rfl⟩
  rw [z1] at h; cases h
theorem gZ9_sim : SpecSim Tryd.prog Tb.glob 9 (ofG gZ) := by
  have inv : ∀ args σ v σ', ofG gZ args σ = some (v, σ') → ∃ a b c d f g i j k l bs len cap, args = [aggU (a, b, c, d, f), aggU (g, i, j, k, l), .slice bs len cap] ∧ AskZ a b c d f g i j k l bs len σ ∧ v = .tuple ⟨[aggU (g, i, j, k, l), .slice none 0 0, .int .i64 0]⟩ ∧ σ' = σ := fun args σ v σ' h => by
    replace h := ofG_eq h
    first | unfold gZ at h | unfold gB at h
    obtain ⟨a, b, c, d, f, g, i, j, k, l, bs, len, cap, rfl, h2⟩ := p3_eq h
    rw [Option.some.injEq, Prod.mk.injEq, Prod.mk.injEq] at h2
    obtain ⟨h1, rfl, rfl⟩ := h2
    exact ⟨a, b, c, d, f, g, i, j, k, l, bs, len, cap, rfl, dec_iff.1 h1, rfl, rfl⟩
  refine ⟨fun args σ v σ' h => ?_, fun args σ v σ' h => ?_⟩
  · obtain ⟨a, b, c, d, f, g, i, j, k, l, bs, len, cap, rfl, _, _, rfl⟩ := inv _ _ _ _ h
    exact .refl σ'
  · obtain ⟨a, b, c, d, f, g, i, j, k, l, bs, len, cap, rfl, ⟨rfl, h1, h2, hQ, hU⟩, rfl, rfl⟩ := inv _ _ _ _ h
    exact lies_spec Run.call_ok guarded_none (.of Tryd.func9 (by kernel_rfl)) (by kernel_rfl) h1 h2 (VA.bareR (by rfl)) fun bs' cc at_ N hN _ => z9_walk hQ hU bs' cap cc at_ N
theorem b9_walk {a b c d f g i j k l : Int} {len : Nat} (hbad : Qv a b c d f ∧ Uv a b c d f g i j k l → 120 < len) (bs : Option Addr) (cap : Nat) (cc : List Value) (at_ N : Nat) : ∃ t, vcC (loopT Tryd.prog Tb.glob (fun k => memN k [0, 1]) N) Tb.T Run.call ⟨[], []⟩ (codeOf Tryd.f9) t (initEnv [aggU (a, b, c, d, f), aggU (g, i, j, k, l), .slice bs len cap] 0 .leaf) (ownS [⟨0, 0, rowsC⟩, ⟨1, at_, cc⟩] 2) (vcEnd Tb.T Tryd.f9 fun v1 _ => v1 = .tuple ⟨[aggU (0, 0, 0, 0, 0), .slice none 0 0, .int .i64 (badE a b c d f g i j k l)]⟩) := by
  refine ⟨(.split .done (.split .done .done)), of_eq (b := (fun (R : Value → ASt → Prop) (Lp : Nat → Env → ASt → Prop) => ((!eqQ (r13_0 a b c d f g i j k l) (Int.ofNat 0)) = true → R (Value.tuple (Array.mk [Value.agg (Array.mk [Value.int IntKind.i64 (Int.ofNat 0), Value.int IntKind.i64 (Int.ofNat 0), Value.int IntKind.i64 (Int.ofNat 0), Value.int IntKind.i64 (Int.ofNat 0), Value.int IntKind.i64 (Int.ofNat 0)]), Value.slice none 0 0, Value.int IntKind.i64 (r13_0 a b c d f g i j k l)])) (ASt.mk (Tr.node (Tr.node (Tr.node Tr.leaf (some (AObj.cells [Value.int IntKind.i64 g, Value.int IntKind.i64 i, Value.int IntKind.i64 j, Value.int IntKind.i64 k, Value.int IntKind.i64 l] none 3 false false)) Tr.leaf) (some (AObj.cells cc none 1 true false)) Tr.leaf) (some (AObj.cells rowsC none 0 true false)) (Tr.node (Tr.node Tr.leaf (some (AObj.cells [Value.int IntKind.i64 (Int.ofNat 0), Value.int IntKind.i64 (Int.ofNat 0), Value.int IntKind.i64 (Int.ofNat 0), Value.int IntKind.i64 (Int.ofNat 0), Value.int IntKind.i64 (Int.ofNat 0)] none 4 false false)) Tr.leaf) (some (AObj.cells [Value.int IntKind.i64 a, Value.int IntKind.i64 b, Value.int IntKind.i64 c, Value.int IntKind.i64 d, Value.int IntKind.i64 f] none 2 false false)) Tr.leaf)) 5 5 5)) ∧ ((!eqQ (r13_0 a b c d f g i j k l) (Int.ofNat 0)) = false → ((!leQ (Int.ofNat len) (Int.ofNat 120)) = true → R (Value.tuple (Array.mk [Value.agg (Array.mk [Value.int IntKind.i64 (Int.ofNat 0), Value.int IntKind.i64 (Int.ofNat 0), Value.int IntKind.i64 (Int.ofNat 0), Value.int IntKind.i64 (Int.ofNat 0), Value.int IntKind.i64 (Int.ofNat 0)]), Value.slice none 0 0, Value.int IntKind.i64 (Int.ofNat 4)])) (ASt.mk (Tr.node (Tr.node (Tr.node Tr.leaf (some (AObj.cells [Value.int IntKind.i64 g, Value.int IntKind.i64 i, Value.int IntKind.i64 j, Value.int IntKind.i64 k, Value.int IntKind.i64 l] none 3 false false)) Tr.leaf) (some (AObj.cells cc none 1 true false)) Tr.leaf) (some (AObj.cells rowsC none 0 true false)) (Tr.node (Tr.node Tr.leaf (some (AObj.cells [Value.int IntKind.i64 (Int.ofNat 0), Value.int IntKind.i64 (Int.ofNat 0), Value.int IntKind.i64 (Int.ofNat 0), Value.int IntKind.i64 (Int.ofNat 0), Value.int IntKind.i64 (Int.ofNat 0)] none 4 false false)) Tr.leaf) (some (AObj.cells [Value.int IntKind.i64 a, Value.int IntKind.i64 b, Value.int IntKind.i64 c, Value.int IntKind.i64 d, Value.int IntKind.i64 f] none 2 false false)) Tr.leaf)) 5 5 5)) ∧ ((!leQ (Int.ofNat len) (Int.ofNat 120)) = false → Lp 8 (mkTr2 [0, 1, 2, 3, 4, 6, 7, 8, 9, 10, 15, 16, 17, 18, 19, 22, 23, 24, 26, 27, 28] [Value.agg (Array.mk [Value.int IntKind.i64 a, Value.int IntKind.i64 b, Value.int IntKind.i64 c, Value.int IntKind.i64 d, Value.int IntKind.i64 f]), Value.agg (Array.mk [Value.int IntKind.i64 g, Value.int IntKind.i64 i, Value.int IntKind.i64 j, Value.int IntKind.i64 k, Value.int IntKind.i64 l]), Value.slice bs len cap, Value.pointer (some (Addr.mk 2 0 none)), Value.pointer (some (Addr.mk 3 0 none)), Value.pointer (some (Addr.mk 4 0 none)), Value.slice none 0 0, Value.int IntKind.i64 (Int.ofNat 0), Value.int IntKind.i64 (r13_0 a b c d f g i j k l), Value.slice none 0 0, Value.agg (Array.mk [Value.int IntKind.i64 a, Value.int IntKind.i64 b, Value.int IntKind.i64 c, Value.int IntKind.i64 d, Value.int IntKind.i64 f]), Value.agg (Array.mk [Value.int IntKind.i64 g, Value.int IntKind.i64 i, Value.int IntKind.i64 j, Value.int IntKind.i64 k, Value.int IntKind.i64 l]), Value.int IntKind.i64 (r13_0 a b c d f g i j k l), Value.int IntKind.i64 (r13_0 a b c d f g i j k l), Value.bool false, Value.slice bs len cap, Value.int IntKind.i64 (Int.ofNat len), Value.bool false, Value.slice bs len cap, Value.int IntKind.i64 (Int.ofNat len), Value.int IntKind.i64 (Int.ofNat 0)]) (ASt.mk (Tr.node (Tr.node (Tr.node Tr.leaf (some (AObj.cells [Value.int IntKind.i64 g, Value.int IntKind.i64 i, Value.int IntKind.i64 j, Value.int IntKind.i64 k, Value.int IntKind.i64 l] none 3 false false)) Tr.leaf) (some (AObj.cells cc none 1 true false)) Tr.leaf) (some (AObj.cells rowsC none 0 true false)) (Tr.node (Tr.node Tr.leaf (some (AObj.cells [Value.int IntKind.i64 (Int.ofNat 0), Value.int IntKind.i64 (Int.ofNat 0), Value.int IntKind.i64 (Int.ofNat 0), Value.int IntKind.i64 (Int.ofNat 0), Value.int IntKind.i64 (Int.ofNat 0)] none 4 false false)) Tr.leaf) (some (AObj.cells [Value.int IntKind.i64 a, Value.int IntKind.i64 b, Value.int IntKind.i64 c, Value.int IntKind.i64 d, Value.int IntKind.i64 f] none 2 false false)) Tr.leaf)) 5 5 5)))) (fun v1 _ => v1 = .tuple ⟨[aggU (0, 0, 0, 0, 0), .slice none 0 0, .int .i64 (badE a b c d f g i j k l)]⟩) (fun _ e σ => loopT Tryd.prog Tb.glob (fun k => memN k [0, 1]) N (.loop Run.inner) e σ (vcCtx (loopT Tryd.prog Tb.glob (fun k => memN k [0, 1]) N) Tb.T Run.call ⟨[], []⟩ [1, 1, 1, 1, 0, 1, 0] (codeOf Tryd.f9) (vcEnd Tb.T Tryd.f9 fun v1 _ => v1 = .tuple ⟨[aggU (0, 0, 0, 0, 0), .slice none 0 0, .int .i64 (badE a b c d f g i j k l)]⟩)))) (by kernel_rfl) ?_⟩
  dsimp only
  unfold badE
  by_cases hV : Qv a b c d f ∧ Uv a b c d f g i j k l
  · have h13 : (!eqQ (r13_0 a b c d f g i j k l) (Int.ofNat 0)) = false := by rw [val13, if_pos hV]; rfl
    have hl : (!leQ (Int.ofNat len) (Int.ofNat 120)) = true := by
      have := hbad hV
      rw [leQ_eq, Bool.not_eq_true', decide_eq_false_iff_not]
      show ¬ (len : Int) ≤ 120
      omega
    rw [if_pos hV]
    exact ⟨fun h => absurd (h13.symm.trans h) (by decide), fun _ => ⟨fun _ => rfl, fun h => absurd (hl.symm.trans h) (by decide)⟩⟩
  · have h13 : r13_0 a b c d f g i j k l = 8 := by rw [val13, if_neg hV]
    have h13' : (!eqQ (r13_0 a b c d f g i j k l) (Int.ofNat 0)) = true := by rw [h13]; rfl
    rw [if_neg hV]
    refine ⟨fun _ => by rw [h13]; rfl, fun h => absurd (h13'.symm.trans h) (by decide)⟩
theorem gB9_sim : SpecSim Tryd.prog Tb.glob 9 (ofG gB) := by
  have inv : ∀ args σ v σ', ofG gB args σ = some (v, σ') → ∃ a b c d f g i j k l bs len cap, args = [aggU (a, b, c, d, f), aggU (g, i, j, k, l), .slice bs len cap] ∧ AskB a b c d f g i j k l bs len σ ∧ v = .tuple ⟨[aggU (0, 0, 0, 0, 0), .slice none 0 0, .int .i64 (badE a b c d f g i j k l)]⟩ ∧ σ' = σ := fun args σ v σ' h => by
    replace h := ofG_eq h
    first | unfold gZ at h | unfold gB at h
    obtain ⟨a, b, c, d, f, g, i, j, k, l, bs, len, cap, rfl, h2⟩ := p3_eq h
    rw [Option.some.injEq, Prod.mk.injEq, Prod.mk.injEq] at h2
    obtain ⟨h1, rfl, rfl⟩ := h2
    exact ⟨a, b, c, d, f, g, i, j, k, l, bs, len, cap, rfl, dec_iff.1 h1, rfl, rfl⟩
  refine ⟨fun args σ v σ' h => ?_, fun args σ v σ' h => ?_⟩
  · obtain ⟨a, b, c, d, f, g, i, j, k, l, bs, len, cap, rfl, _, _, rfl⟩ := inv _ _ _ _ h
    exact .refl σ'
  · obtain ⟨a, b, c, d, f, g, i, j, k, l, bs, len, cap, rfl, ⟨h1, h2, hbad⟩, rfl, rfl⟩ := inv _ _ _ _ h
    exact lies_spec Run.call_ok guarded_none (.of Tryd.func9 (by kernel_rfl)) (by kernel_rfl) h1 h2 (VA.bareR (by rfl)) fun bs' cc at_ N hN _ => b9_walk hbad bs' cap cc at_ N
theorem z10_walk {a b c d f g i j k l : Int} (hQ : Qv a b c d f) (hU : Uv a b c d f g i j k l) (bs : Option Addr) (cap : Nat) (cc : List Value) (at_ N : Nat) : ∃ t, vcC (loopT Tryd.prog Tb.glob (fun k => memN k [0, 1]) N) Tb.T Ref.call ⟨[], [(7, 1)]⟩ (codeOf Tryd.f10) t (initEnv [aggU (a, b, c, d, f), aggU (g, i, j, k, l), .slice bs 0 cap] 0 .leaf) (ownS [⟨0, 0, rowsC⟩, ⟨1, at_, cc⟩] 2) (vcEnd Tb.T Tryd.f10 fun v1 _ => v1 = .tuple ⟨[aggU (g, i, j, k, l), .slice none 0 0, .int .i64 0]⟩) := by
  have h13 : r13_0 a b c d f g i j k l = 0 := by rw [val13, if_pos ⟨hQ, hU⟩]
  refine ⟨(.split .done (.lit (.lit .done))), of_eq (b := (fun (R : Value → ASt → Prop) => ((!eqQ (r13_0 a b c d f g i j k l) (Int.ofNat 0)) = true → R (Value.tuple (Array.mk [Value.agg (Array.mk [Value.int IntKind.i64 (Int.ofNat 0), Value.int IntKind.i64 (Int.ofNat 0), Value.int IntKind.i64 (Int.ofNat 0), Value.int IntKind.i64 (Int.ofNat 0), Value.int IntKind.i64 (Int.ofNat 0)]), Value.slice none 0 0, Value.int IntKind.i64 (r13_0 a b c d f g i j k l)])) (ASt.mk (Tr.node (Tr.node (Tr.node Tr.leaf (some (AObj.cells [Value.int IntKind.i64 g, Value.int IntKind.i64 i, Value.int IntKind.i64 j, Value.int IntKind.i64 k, Value.int IntKind.i64 l] none 3 false false)) Tr.leaf) (some (AObj.cells cc none 1 true false)) Tr.leaf) (some (AObj.cells rowsC none 0 true false)) (Tr.node (Tr.node Tr.leaf (some (AObj.cells [Value.int IntKind.i64 (Int.ofNat 0), Value.int IntKind.i64 (Int.ofNat 0), Value.int IntKind.i64 (Int.ofNat 0), Value.int IntKind.i64 (Int.ofNat 0), Value.int IntKind.i64 (Int.ofNat 0)] none 4 false false)) Tr.leaf) (some (AObj.cells [Value.int IntKind.i64 a, Value.int IntKind.i64 b, Value.int IntKind.i64 c, Value.int IntKind.i64 d, Value.int IntKind.i64 f] none 2 false false)) Tr.leaf)) 5 5 5)) ∧ ((!eqQ (r13_0 a b c d f g i j k l) (Int.ofNat 0)) = false → R (Value.tuple (Array.mk [Value.agg (Array.mk [Value.int IntKind.i64 g, Value.int IntKind.i64 i, Value.int IntKind.i64 j, Value.int IntKind.i64 k, Value.int IntKind.i64 l]), Value.slice none 0 0, Value.int IntKind.i64 (Int.ofNat 0)])) (ASt.mk (Tr.node (Tr.node (Tr.node Tr.leaf (some (AObj.cells [Value.int IntKind.i64 g, Value.int IntKind.i64 i, Value.int IntKind.i64 j, Value.int IntKind.i64 k, Value.int IntKind.i64 l] none 3 false false)) Tr.leaf) (some (AObj.cells cc none 1 true false)) Tr.leaf) (some (AObj.cells rowsC none 0 true false)) (Tr.node (Tr.node Tr.leaf (some (AObj.cells [Value.int IntKind.i64 g, Value.int IntKind.i64 i, Value.int IntKind.i64 j, Value.int IntKind.i64 k, Value.int IntKind.i64 l] none 4 false false)) Tr.leaf) (some (AObj.cells [Value.int IntKind.i64 a, Value.int IntKind.i64 b, Value.int IntKind.i64 c, Value.int IntKind.i64 d, Value.int IntKind.i64 f] none 2 false false)) Tr.leaf)) 5 5 5))) (fun v1 _ => v1 = .tuple ⟨[aggU (g, i, j, k, l), .slice none 0 0, .int .i64 0]⟩)) (by kernel_rfl) ?_⟩
  dsimp only
  have z1 : eqQ (r13_0 a b c d f g i j k l) (Int.ofNat 0) = true := by rw [h13]; kernel_rfl
  refine ⟨fun h => ?_, fun _ => rfl⟩
  rw [z1] at h; cases h
theorem gZ10_sim : SpecSim Tryd.prog Tb.glob 10 (ofG gZ) := by
  have inv : ∀ args σ v σ', ofG gZ args σ = some (v, σ') → ∃ a b c d f g i j k l bs len cap, args = [aggU (a, b, c, d, f), aggU (g, i, j, k, l), .slice bs len cap] ∧ AskZ a b c d f g i j k l bs len σ ∧ v = .tuple ⟨[aggU (g, i, j, k, l), .slice none 0 0, .int .i64 0]⟩ ∧ σ' = σ := fun args σ v σ' h => by
    replace h := ofG_eq h
    first | unfold gZ at h | unfold gB at h
    obtain ⟨a, b, c, d, f, g, i, j, k, l, bs, len, cap, rfl, h2⟩ := p3_eq h
    rw [Option.some.injEq, Prod.mk.injEq, Prod.mk.injEq] at h2
    obtain ⟨h1, rfl, rfl⟩ := h2
    exact ⟨a, b, c, d, f, g, i, j, k, l, bs, len, cap, rfl, dec_iff.1 h1, rfl, rfl⟩
  refine ⟨fun args σ v σ' h => ?_, fun args σ v σ' h => ?_⟩
  · obtain ⟨a, b, c, d, f, g, i, j, k, l, bs, len, cap, rfl, _, _, rfl⟩ := inv _ _ _ _ h
    exact .refl σ'
  · obtain ⟨a, b, c, d, f, g, i, j, k, l, bs, len, cap, rfl, ⟨rfl, h1, h2, hQ, hU⟩, rfl, rfl⟩ := inv _ _ _ _ h
    exact lies_spec Ref.call_ok guarded_none (.of Tryd.func10 (by kernel_rfl)) (by kernel_rfl) h1 h2 (VA.bareR (by rfl)) fun bs' cc at_ N hN _ => z10_walk hQ hU bs' cap cc at_ N
theorem b10_walk {a b c d f g i j k l : Int} {len : Nat} (hbad : Qv a b c d f ∧ Uv a b c d f g i j k l → 120 < len) (bs : Option Addr) (cap : Nat) (cc : List Value) (at_ N : Nat) : ∃ t, vcC (loopT Tryd.prog Tb.glob (fun k => memN k [0, 1]) N) Tb.T Ref.call ⟨[], []⟩ (codeOf Tryd.f10) t (initEnv [aggU (a, b, c, d, f), aggU (g, i, j, k, l), .slice bs len cap] 0 .leaf) (ownS [⟨0, 0, rowsC⟩, ⟨1, at_, cc⟩] 2) (vcEnd Tb.T Tryd.f10 fun v1 _ => v1 = .tuple ⟨[aggU (0, 0, 0, 0, 0), .slice none 0 0, .int .i64 (badE a b c d f g i j k l)]⟩) := by
  refine ⟨(.split .done (.split .done .done)), of_eq (b := (fun (R : Value → ASt → Prop) (Lp : Nat → Env → ASt → Prop) => ((!eqQ (r13_0 a b c d f g i j k l) (Int.ofNat 0)) = true → R (Value.tuple (Array.mk [Value.agg (Array.mk [Value.int IntKind.i64 (Int.ofNat 0), Value.int IntKind.i64 (Int.ofNat 0), Value.int IntKind.i64 (Int.ofNat 0), Value.int IntKind.i64 (Int.ofNat 0), Value.int IntKind.i64 (Int.ofNat 0)]), Value.slice none 0 0, Value.int IntKind.i64 (r13_0 a b c d f g i j k l)])) (ASt.mk (Tr.node (Tr.node (Tr.node Tr.leaf (some (AObj.cells [Value.int IntKind.i64 g, Value.int IntKind.i64 i, Value.int IntKind.i64 j, Value.int IntKind.i64 k, Value.int IntKind.i64 l] none 3 false false)) Tr.leaf) (some (AObj.cells cc none 1 true false)) Tr.leaf) (some (AObj.cells rowsC none 0 true false)) (Tr.node (Tr.node Tr.leaf (some (AObj.cells [Value.int IntKind.i64 (Int.ofNat 0), Value.int IntKind.i64 (Int.ofNat 0), Value.int IntKind.i64 (Int.ofNat 0), Value.int IntKind.i64 (Int.ofNat 0), Value.int IntKind.i64 (Int.ofNat 0)] none 4 false false)) Tr.leaf) (some (AObj.cells [Value.int IntKind.i64 a, Value.int IntKind.i64 b, Value.int IntKind.i64 c, Value.int IntKind.i64 d, Value.int IntKind.i64 f] none 2 false false)) Tr.leaf)) 5 5 5)) ∧ ((!eqQ (r13_0 a b c d f g i j k l) (Int.ofNat 0)) = false → ((!leQ (Int.ofNat len) (Int.ofNat 120)) = true → R (Value.tuple (Array.mk [Value.agg (Array.mk [Value.int IntKind.i64 (Int.ofNat 0), Value.int IntKind.i64 (Int.ofNat 0), Value.int IntKind.i64 (Int.ofNat 0), Value.int IntKind.i64 (Int.ofNat 0), Value.int IntKind.i64 (Int.ofNat 0)]), Value.slice none 0 0, Value.int IntKind.i64 (Int.ofNat 4)])) (ASt.mk (Tr.node (Tr.node (Tr.node Tr.leaf (some (AObj.cells [Value.int IntKind.i64 g, Value.int IntKind.i64 i, Value.int IntKind.i64 j, Value.int IntKind.i64 k, Value.int IntKind.i64 l] none 3 false false)) Tr.leaf) (some (AObj.cells cc none 1 true false)) Tr.leaf) (some (AObj.cells rowsC none 0 true false)) (Tr.node (Tr.node Tr.leaf (some (AObj.cells [Value.int IntKind.i64 (Int.ofNat 0), Value.int IntKind.i64 (Int.ofNat 0), Value.int IntKind.i64 (Int.ofNat 0), Value.int IntKind.i64 (Int.ofNat 0), Value.int IntKind.i64 (Int.ofNat 0)] none 4 false false)) Tr.leaf) (some (AObj.cells [Value.int IntKind.i64 a, Value.int IntKind.i64 b, Value.int IntKind.i64 c, Value.int IntKind.i64 d, Value.int IntKind.i64 f] none 2 false false)) Tr.leaf)) 5 5 5)) ∧ ((!leQ (Int.ofNat len) (Int.ofNat 120)) = false → Lp 7 (mkTr2 [0, 1, 2, 3, 4, 6, 7, 8, 9, 10, 13, 14, 15, 16, 21, 22, 23] [Value.agg (Array.mk [Value.int IntKind.i64 a, Value.int IntKind.i64 b, Value.int IntKind.i64 c, Value.int IntKind.i64 d, Value.int IntKind.i64 f]), Value.agg (Array.mk [Value.int IntKind.i64 g, Value.int IntKind.i64 i, Value.int IntKind.i64 j, Value.int IntKind.i64 k, Value.int IntKind.i64 l]), Value.slice bs len cap, Value.pointer (some (Addr.mk 2 0 none)), Value.pointer (some (Addr.mk 3 0 none)), Value.pointer (some (Addr.mk 4 0 none)), Value.slice none 0 0, Value.int IntKind.i64 (Int.ofNat 0), Value.slice none 0 0, Value.int IntKind.i64 (Int.ofNat 0), Value.agg (Array.mk [Value.int IntKind.i64 a, Value.int IntKind.i64 b, Value.int IntKind.i64 c, Value.int IntKind.i64 d, Value.int IntKind.i64 f]), Value.agg (Array.mk [Value.int IntKind.i64 g, Value.int IntKind.i64 i, Value.int IntKind.i64 j, Value.int IntKind.i64 k, Value.int IntKind.i64 l]), Value.int IntKind.i64 (r13_0 a b c d f g i j k l), Value.bool false, Value.slice bs len cap, Value.int IntKind.i64 (Int.ofNat len), Value.bool false]) (ASt.mk (Tr.node (Tr.node (Tr.node Tr.leaf (some (AObj.cells [Value.int IntKind.i64 g, Value.int IntKind.i64 i, Value.int IntKind.i64 j, Value.int IntKind.i64 k, Value.int IntKind.i64 l] none 3 false false)) Tr.leaf) (some (AObj.cells cc none 1 true false)) Tr.leaf) (some (AObj.cells rowsC none 0 true false)) (Tr.node (Tr.node Tr.leaf (some (AObj.cells [Value.int IntKind.i64 (Int.ofNat 0), Value.int IntKind.i64 (Int.ofNat 0), Value.int IntKind.i64 (Int.ofNat 0), Value.int IntKind.i64 (Int.ofNat 0), Value.int IntKind.i64 (Int.ofNat 0)] none 4 false false)) Tr.leaf) (some (AObj.cells [Value.int IntKind.i64 a, Value.int IntKind.i64 b, Value.int IntKind.i64 c, Value.int IntKind.i64 d, Value.int IntKind.i64 f] none 2 false false)) Tr.leaf)) 5 5 5)))) (fun v1 _ => v1 = .tuple ⟨[aggU (0, 0, 0, 0, 0), .slice none 0 0, .int .i64 (badE a b c d f g i j k l)]⟩) (fun _ e σ => loopT Tryd.prog Tb.glob (fun k => memN k [0, 1]) N (.loop Ref.inner) e σ (vcCtx (loopT Tryd.prog Tb.glob (fun k => memN k [0, 1]) N) Tb.T Ref.call ⟨[], []⟩ [1, 1, 1, 1, 0, 1, 0] (codeOf Tryd.f10) (vcEnd Tb.T Tryd.f10 fun v1 _ => v1 = .tuple ⟨[aggU (0, 0, 0, 0, 0), .slice none 0 0, .int .i64 (badE a b c d f g i j k l)]⟩)))) (by kernel_rfl) ?_⟩
  dsimp only
  unfold badE
  by_cases hV : Qv a b c d f ∧ Uv a b c d f g i j k l
  · have h13 : (!eqQ (r13_0 a b c d f g i j k l) (Int.ofNat 0)) = false := by rw [val13, if_pos hV]; rfl
    have hl : (!leQ (Int.ofNat len) (Int.ofNat 120)) = true := by
      have := hbad hV
      rw [leQ_eq, Bool.not_eq_true', decide_eq_false_iff_not]
      show ¬ (len : Int) ≤ 120
      omega
    rw [if_pos hV]
    exact ⟨fun h => absurd (h13.symm.trans h) (by decide), fun _ => ⟨fun _ => rfl, fun h => absurd (hl.symm.trans h) (by decide)⟩⟩
  · have h13 : r13_0 a b c d f g i j k l = 8 := by rw [val13, if_neg hV]
    have h13' : (!eqQ (r13_0 a b c d f g i j k l) (Int.ofNat 0)) = true := by rw [h13]; rfl
    rw [if_neg hV]
    refine ⟨fun _ => by rw [h13]; rfl, fun h => absurd (h13'.symm.trans h) (by decide)⟩
theorem gB10_sim : SpecSim Tryd.prog Tb.glob 10 (ofG gB) := by
  have inv : ∀ args σ v σ', ofG gB args σ = some (v, σ') → ∃ a b c d f g i j k l bs len cap, args = [aggU (a, b, c, d, f), aggU (g, i, j, k, l), .slice bs len cap] ∧ AskB a b c d f g i j k l bs len σ ∧ v = .tuple ⟨[aggU (0, 0, 0, 0, 0), .slice none 0 0, .int .i64 (badE a b c d f g i j k l)]⟩ ∧ σ' = σ := fun args σ v σ' h => by
    replace h := ofG_eq h
    first | unfold gZ at h | unfold gB at h
    obtain ⟨a, b, c, d, f, g, i, j, k, l, bs, len, cap, rfl, h2⟩ := p3_eq h
    rw [Option.some.injEq, Prod.mk.injEq, Prod.mk.injEq] at h2
    obtain ⟨h1, rfl, rfl⟩ := h2
    exact ⟨a, b, c, d, f, g, i, j, k, l, bs, len, cap, rfl, dec_iff.1 h1, rfl, rfl⟩
  refine ⟨fun args σ v σ' h => ?_, fun args σ v σ' h => ?_⟩
  · obtain ⟨a, b, c, d, f, g, i, j, k, l, bs, len, cap, rfl, _, _, rfl⟩ := inv _ _ _ _ h
    exact .refl σ'
  · obtain ⟨a, b, c, d, f, g, i, j, k, l, bs, len, cap, rfl, ⟨h1, h2, hbad⟩, rfl, rfl⟩ := inv _ _ _ _ h
    exact lies_spec Ref.call_ok guarded_none (.of Tryd.func10 (by kernel_rfl)) (by kernel_rfl) h1 h2 (VA.bareR (by rfl)) fun bs' cc at_ N hN _ => b10_walk hbad bs' cap cc at_ N
end Go.Proofs.YtkadjjicakinbaaDoor
