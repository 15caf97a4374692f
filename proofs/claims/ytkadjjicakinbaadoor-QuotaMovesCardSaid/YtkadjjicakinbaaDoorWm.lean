/- Moves in cells; a usage stays valid behind moves; calls that read a block of moves. -/
import Derived.Test.YtkadjjicakinbaaDoorRz
import Derived.Test.YtkadjjicakinbaaDoorSv
import Derived.Test.YtkadjjicakinbaaDoorAl
set_option maxRecDepth 100000
namespace Go.Proofs.YtkadjjicakinbaaDoor
open Go Go.Abs
/-- the cells of moves -/
def flatM (ms : List (Int × Int)) : List Value := ms.flatMap fun m => [.int .u8 m.1, .int .i64 m.2]
theorem movesOf_flat : ∀ ms : List (Int × Int), Run.movesOf (flatM ms) = ms
  | [] => rfl
  | m :: ms => by
    show (m.1, m.2) :: Run.movesOf (flatM ms) = m :: ms
    rw [movesOf_flat ms]
theorem flatM_bare : ∀ ms : List (Int × Int), ∀ v ∈ flatM ms, Abs.bare v = true
  | [], v, h => by cases h
  | m :: ms, v, h => by
    have h' : v ∈ Value.int .u8 m.1 :: .int .i64 m.2 :: flatM ms := h
    rcases List.mem_cons.1 h' with rfl | h'
    · rfl
    · rcases List.mem_cons.1 h' with rfl | h'
      · rfl
      · exact flatM_bare ms v h'
theorem flatM_drop : ∀ (ms : List (Int × Int)) (j : Nat) (m : Int × Int), ms[j]? = some m → ∃ rest, (flatM ms).drop (j * 2) = .int .u8 m.1 :: .int .i64 m.2 :: rest
  | [], j, m, h => by simp at h
  | n :: ms, 0, m, h => by
    have : n = m := by simpa using h
    subst this
    exact ⟨flatM ms, rfl⟩
  | n :: ms, j + 1, m, h => by
    obtain ⟨rest, h1⟩ := flatM_drop ms j m (by simpa using h)
    refine ⟨rest, ?_⟩
    have : (j + 1) * 2 = (j * 2) + 1 + 1 := by omega
    rw [this]
    exact h1
/-- what lies at the places of a move -/
def AtM (cc : List Value) (ms : List (Int × Int)) : Prop := ∀ (j : Nat) (m : Int × Int), ms[j]? = some m →
  Abs.part Tb.T 40 cc (Nat.add 0 (Nat.mul j 2)) = some (Value.agg ⟨[.int .u8 m.1, .int .i64 m.2]⟩) ∧ Abs.part Tb.T 5 cc (Nat.add (Nat.add 0 (Nat.mul j 2)) 0) = some (.int .u8 m.1) ∧ Abs.part Tb.T 3 cc (Nat.add (Nat.add 0 (Nat.mul j 2)) 1) = some (.int .i64 m.2)
theorem part40 (cc : List Value) (off : Nat) : Abs.part Tb.T 40 cc off = aggO (sub cc off 2) := by kernel_rfl
theorem part5 (cc : List Value) (off : Nat) : Abs.part Tb.T 5 cc off = nthQ off cc := by kernel_rfl
theorem part3 (cc : List Value) (off : Nat) : Abs.part Tb.T 3 cc off = nthQ off cc := by kernel_rfl
theorem atM (ms : List (Int × Int)) : AtM (flatM ms) ms := fun j m h => by
  obtain ⟨rest, h1⟩ := flatM_drop ms j m h
  have e0 : Nat.add 0 (Nat.mul j 2) = j * 2 := Nat.zero_add _
  rw [part40, part5, part3, nthQ_eq, nthQ_eq, e0]
  have g : ∀ i, (flatM ms)[j * 2 + i]? = (Value.int IntKind.u8 m.1 :: .int .i64 m.2 :: rest)[i]? := fun i => by rw [← h1, List.getElem?_drop]
  refine ⟨?_, g 0, g 1⟩
  show aggO (takeO 2 (dropQ (j * 2) (flatM ms))) = _
  rw [dropQ_eq, h1]
  rfl
theorem movesAt (ms : List (Int × Int)) : MovesAt (flatM ms) ms := fun j m h => (atM ms j m h).1

/-- the parts of a quota and a usage -/
abbrev QV (q : U5) : Prop := Qv q.1 q.2.1 q.2.2.1 q.2.2.2.1 q.2.2.2.2
abbrev UV (q u : U5) : Prop := Uv q.1 q.2.1 q.2.2.1 q.2.2.2.1 q.2.2.2.2 u.1 u.2.1 u.2.2.1 u.2.2.2.1 u.2.2.2.2
theorem stQ_valid {q u : U5} (hQ : QV q) (hU : UV q u) (m : Int × Int) : UV q (stQ q u m) := by
  unfold stQ
  split
  · rename_i h
    exact (stepFacts hQ hU h).2.2.1
  · exact hU
theorem usQ_valid {q : U5} (hQ : QV q) : ∀ (ms : List (Int × Int)) {u : U5}, UV q u → UV q (usQ q u ms)
  | [], u, hU => hU
  | m :: ms, u, hU => usQ_valid hQ ms (stQ_valid hQ hU m)

/-- a function that reads the table and a block of moves and leaves nothing -/
theorem block_spec {f : FuncId} {fn : Func} {call : CallF} {h : Hint} {q u : U5} {b : Nat} {cc : List Value} {len cap : Nat} {σ : ASt} {v : Value} (hc : CallSim Tryd.prog Tb.glob call ∧ MonoF call) (hg : Guarded h call)
    (hfn : FnOk1 Tryd.prog Tb.glob f fn) (hb : fn.body.isSome = true) (hσ : Given [⟨0, 0, rowsC⟩, ⟨1, b, cc⟩] σ) (hcc : ∀ v ∈ cc, Abs.bare v = true) (hv : VA (fun _ => none) v v)
    (hw : ∀ at_ N, fn.ntmps ≤ N → ∃ t, vcC (loopT Tryd.prog Tb.glob (fun k => memN k [0, 1]) N) Tb.T call h (codeOf fn) t (initEnv [aggU q, aggU u, .slice (some ⟨1, 0, none⟩) len cap] 0 .leaf) (ownS [⟨0, 0, rowsC⟩, ⟨1, at_, cc⟩] 2) (vcEnd Tb.T fn fun v1 _ => v1 = v)) :
    Enters Tryd.prog f ∧ (σ.low ≤ σ.next → ∀ π δ D H w args', GlobR Tb.glob π D → VRs π D [aggU q, aggU u, .slice (some ⟨b, 0, none⟩) len cap] args' → Pre σ σ π δ D H w → Calls Tryd.prog f ⟨args'⟩ w (Back σ σ π δ D H w v)) := by
  have hren1 : renL [0, 1] [0, b] 1 = some (b, 0) := rfl
  refine call_spec hfn (codeOf_ok hb) Tb.tys (blocks_entry (bl := [⟨0, 0, rowsC⟩, ⟨1, b, cc⟩]) (n := 2) (argsc := [aggU q, aggU u, .slice (some ⟨1, 0, none⟩) len cap]) (by kernel_rfl) (by kernel_rfl) (fun x hx => ?_) (fun g hg => ?_) hσ
      (.cons (VA.bareA (by rfl)) (.cons (VA.bareA (by rfl)) (.cons (.sl len cap hren1 (Nat.zero_add 0).symm) .nil)))) fun N hN => ?_
  · simp only [List.mem_cons, List.not_mem_nil, or_false] at hx
    rcases hx with rfl | rfl
    · exact bareAll_mem (by kernel_rfl)
    · exact hcc
  · have : g < 1 := (blt_iff _ _).1 hg
    have : g = 0 := by omega
    subst this; rfl
  · obtain ⟨t, dd⟩ := hw b N hN
    refine (vcC_ok mix Tb.tys hc.1 hc.2 hg (codeOf fn) (codeOk_mono hN _ (hfn.2.2 _ (codeOf_ok hb))) t _ _ _ dd).mono fun x e σ1 hq => ?_
    have := vcEnd_ok hq
    cases x with
    | normal => obtain ⟨vs, g1, g2⟩ := this; exact ⟨vs, g1, _, id, by rw [g2]; exact noAddr_leave hv⟩
    | exit id => exact this.elim
    | ret => obtain ⟨vs, g1, g2⟩ := this; exact ⟨vs, g1, _, id, by rw [g2]; exact noAddr_leave hv⟩

/-- what a law's call is given: no moves, or a block of them -/
def Moves (bs : Option Addr) (len : Nat) (σ : ASt) : Prop := (len = 0 ∧ Lies bs σ) ∨ ∃ b ms, bs = some ⟨b, 0, none⟩ ∧ Given [⟨1, b, flatM ms⟩] σ ∧ ms.length = len ∧ 0 < len
theorem given2 {σ : ASt} {b : Nat} {cc : List Value} (h0 : Given [⟨0, 0, rowsC⟩] σ) (h1 : Given [⟨1, b, cc⟩] σ) : Given [⟨0, 0, rowsC⟩, ⟨1, b, cc⟩] σ := fun x hx => by
  simp only [List.mem_cons, List.not_mem_nil, or_false] at hx
  rcases hx with rfl | rfl
  · exact h0 _ (by simp)
  · exact h1 _ (by simp)
theorem given_lit {σ : ASt} {b : Nat} {cc : List Value} {o0 o1 : Nat} {r0 r1 : Bool} (h0 : σ.obj 0 = some (.cells rowsC none o0 r0 false)) (h1 : σ.obj b = some (.cells cc none o1 r1 false)) : Given [⟨0, 0, rowsC⟩, ⟨1, b, cc⟩] σ := fun x hx => by
  simp only [List.mem_cons, List.not_mem_nil, or_false] at hx
  rcases hx with rfl | rfl
  · exact ⟨_, _, h0⟩
  · exact ⟨_, _, h1⟩
end Go.Proofs.YtkadjjicakinbaaDoor
