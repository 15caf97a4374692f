/-
  NARROWER THAN 'FOR EVERY INPUT', by the rows' own cells (each row's printed sentence says how): QuotaMoves: laid · QuotaWithin: laid · QuotaRoom: laid · QuotaBack: laid · QuotaShares: laid · QuotaNames: laid.
  DERIVED. THE GIVEN ROWS OF THIS SEAT. 6 by the template 'for every input the law returns true; each argument reads behind the call as it read before'; 0 by the template 'total and deterministic' (their statements: YtkadjjicakinbaaDoorTotals.lean).
  GIVEN WITH THE SEED: the statements are not yours to turn. If you find one false, say at which input.
  Laid BY PROGRAM, IN A SANDBOX (cutbox-rows.mjs): the forced cells as the released guide's own fill.sh prints them over the translation aa93d798781c928d… (all of the seat's roots in one cut). By AI agents, Wed Nov 11 2026. No macro, syntax, notation, axiom, sorry.
-/
import Derived.Test.YtkadjjicakinbaaDoorChecked
import GoSem.Claim
import GoSem.ClaimJoined
import GoSem.ClaimMapViews
import Derived.JoinedTies
import Derived.KernelRfl
namespace Go.Proofs.YtkadjjicakinbaaDoor
/- THE CELL 'sum', in the pinned program and in every row, IS THE sha256 OF THE DUMP (.gsa) THAT YtkadjjicakinbaaDoorProg.lean LOADS. Nothing in Lean hashes anything: it is a label: what it is worth is what the hold of that sum in a sandbox is worth. -/
noncomputable def Tryd.pinned : Pinned := { name := "ytkadjjicakinbaadoor", sum := "aa93d798781c928da78823399331862d3be2d31f828a2707db4b9c14162072c8", checked := Tryd.checked }
namespace Rows
def none {H : Type} : Left H := { results := [], args := [] }

/- WHAT THE LISTED PACKAGE-LEVEL VARIABLES READ AS WHEN THE CALL BEGINS. Each datum BY PROGRAM (the guide's laid-datum.mjs) off the statement by which the dump's own 'gosem.cut.vars' lays the variable. In a bare row this is a premise. The card (YtkadjjicakinbaaDoorCards.lean) ties it to the program's text. -/
def laid_braid_quota_rows {H : Type} : DataW H := .agg [.agg [.lit (.int .i64 0), .lit (.int .i64 0), .lit (.int .i64 0), .lit (.int .i64 0), .lit (.int .i64 0), .lit (.int .i64 0), .lit (.int .i64 0)], .agg [.lit (.int .i64 1), .lit (.int .i64 0), .lit (.int .i64 0), .lit (.int .i64 0), .lit (.int .i64 0), .lit (.int .i64 2000), .lit (.int .i64 1)], .agg [.lit (.int .i64 (-1)), .lit (.int .i64 0), .lit (.int .i64 0), .lit (.int .i64 0), .lit (.int .i64 0), .lit (.int .i64 2000), .lit (.int .i64 (-1))], .agg [.lit (.int .i64 0), .lit (.int .i64 1), .lit (.int .i64 0), .lit (.int .i64 0), .lit (.int .i64 0), .lit (.int .i64 0), .lit (.int .i64 0)], .agg [.lit (.int .i64 0), .lit (.int .i64 (-1)), .lit (.int .i64 0), .lit (.int .i64 0), .lit (.int .i64 1), .lit (.int .i64 9), .lit (.int .i64 0)], .agg [.lit (.int .i64 0), .lit (.int .i64 0), .lit (.int .i64 (-1)), .lit (.int .i64 0), .lit (.int .i64 0), .lit (.int .i64 0), .lit (.int .i64 0)], .agg [.lit (.int .i64 0), .lit (.int .i64 0), .lit (.int .i64 0), .lit (.int .i64 1), .lit (.int .i64 0), .lit (.int .i64 0), .lit (.int .i64 0)], .agg [.lit (.int .i64 0), .lit (.int .i64 0), .lit (.int .i64 0), .lit (.int .i64 (-1)), .lit (.int .i64 0), .lit (.int .i64 0), .lit (.int .i64 0)]]

/-- 'braidlaw26.QuotaMoves': WHATEVER THE INPUT: true; the input reads as it did. -/
def quotaMovesSpec : ChangeSpec := { name := "quotaMoves", fn := fun _ => fun
  | [d1, d2, d3] => { results := [.lit (.bool true)], args := [d1, d2, d3] }
  | _ => none }
def quotaMovesRow : OpenClaim := { program := "ytkadjjicakinbaadoor", sum := "aa93d798781c928da78823399331862d3be2d31f828a2707db4b9c14162072c8", func := "braid/braidlaw26.QuotaMoves", spec := "quotaMoves", unfollowed := true, recurses := true, named := ["braid/quota.rows"], apart := false, laid := [("braid/quota.rows", laid_braid_quota_rows)] }
def QuotaMovesSaid : Prop := quotaMovesRow.holds Tryd.pinned (OpenSpec.ofChange quotaMovesSpec)

/-- ITS FALSE NEIGHBOUR: 'it returns false'. Refute it at one input. -/
def quotaMovesWrong : ChangeSpec := { name := "quotaMoves", fn := fun _ => fun
  | [d1, d2, d3] => { results := [.lit (.bool false)], args := [d1, d2, d3] }
  | _ => none }
def QuotaMovesWrongFalsely : Prop := quotaMovesRow.holds Tryd.pinned (OpenSpec.ofChange quotaMovesWrong)

/-- 'braidlaw26.QuotaWithin': WHATEVER THE INPUT: true; the input reads as it did. -/
def quotaWithinSpec : ChangeSpec := { name := "quotaWithin", fn := fun _ => fun
  | [d1, d2, d3] => { results := [.lit (.bool true)], args := [d1, d2, d3] }
  | _ => none }
def quotaWithinRow : OpenClaim := { program := "ytkadjjicakinbaadoor", sum := "aa93d798781c928da78823399331862d3be2d31f828a2707db4b9c14162072c8", func := "braid/braidlaw26.QuotaWithin", spec := "quotaWithin", unfollowed := true, recurses := true, named := ["braid/quota.rows"], apart := false, laid := [("braid/quota.rows", laid_braid_quota_rows)] }
def QuotaWithinSaid : Prop := quotaWithinRow.holds Tryd.pinned (OpenSpec.ofChange quotaWithinSpec)

/-- ITS FALSE NEIGHBOUR: 'it returns false'. Refute it at one input. -/
def quotaWithinWrong : ChangeSpec := { name := "quotaWithin", fn := fun _ => fun
  | [d1, d2, d3] => { results := [.lit (.bool false)], args := [d1, d2, d3] }
  | _ => none }
def QuotaWithinWrongFalsely : Prop := quotaWithinRow.holds Tryd.pinned (OpenSpec.ofChange quotaWithinWrong)

/-- 'braidlaw26.QuotaRoom': WHATEVER THE INPUT: true; the input reads as it did. -/
def quotaRoomSpec : ChangeSpec := { name := "quotaRoom", fn := fun _ => fun
  | [d1, d2] => { results := [.lit (.bool true)], args := [d1, d2] }
  | _ => none }
def quotaRoomRow : OpenClaim := { program := "ytkadjjicakinbaadoor", sum := "aa93d798781c928da78823399331862d3be2d31f828a2707db4b9c14162072c8", func := "braid/braidlaw26.QuotaRoom", spec := "quotaRoom", unfollowed := true, recurses := true, named := ["braid/quota.rows"], apart := false, laid := [("braid/quota.rows", laid_braid_quota_rows)] }
def QuotaRoomSaid : Prop := quotaRoomRow.holds Tryd.pinned (OpenSpec.ofChange quotaRoomSpec)

/-- ITS FALSE NEIGHBOUR: 'it returns false'. Refute it at one input. -/
def quotaRoomWrong : ChangeSpec := { name := "quotaRoom", fn := fun _ => fun
  | [d1, d2] => { results := [.lit (.bool false)], args := [d1, d2] }
  | _ => none }
def QuotaRoomWrongFalsely : Prop := quotaRoomRow.holds Tryd.pinned (OpenSpec.ofChange quotaRoomWrong)

/-- 'braidlaw26.QuotaBack': WHATEVER THE INPUT: true; the input reads as it did. -/
def quotaBackSpec : ChangeSpec := { name := "quotaBack", fn := fun _ => fun
  | [d1, d2, d3, d4] => { results := [.lit (.bool true)], args := [d1, d2, d3, d4] }
  | _ => none }
def quotaBackRow : OpenClaim := { program := "ytkadjjicakinbaadoor", sum := "aa93d798781c928da78823399331862d3be2d31f828a2707db4b9c14162072c8", func := "braid/braidlaw26.QuotaBack", spec := "quotaBack", unfollowed := true, recurses := true, named := ["braid/quota.rows"], apart := false, laid := [("braid/quota.rows", laid_braid_quota_rows)] }
def QuotaBackSaid : Prop := quotaBackRow.holds Tryd.pinned (OpenSpec.ofChange quotaBackSpec)

/-- ITS FALSE NEIGHBOUR: 'it returns false'. Refute it at one input. -/
def quotaBackWrong : ChangeSpec := { name := "quotaBack", fn := fun _ => fun
  | [d1, d2, d3, d4] => { results := [.lit (.bool false)], args := [d1, d2, d3, d4] }
  | _ => none }
def QuotaBackWrongFalsely : Prop := quotaBackRow.holds Tryd.pinned (OpenSpec.ofChange quotaBackWrong)

/-- 'braidlaw26.QuotaShares': WHATEVER THE INPUT: true; the input reads as it did. -/
def quotaSharesSpec : ChangeSpec := { name := "quotaShares", fn := fun _ => fun
  | [d] => { results := [.lit (.bool true)], args := [d] }
  | _ => none }
def quotaSharesRow : OpenClaim := { program := "ytkadjjicakinbaadoor", sum := "aa93d798781c928da78823399331862d3be2d31f828a2707db4b9c14162072c8", func := "braid/braidlaw26.QuotaShares", spec := "quotaShares", unfollowed := true, recurses := true, named := ["braid/quota.rows"], apart := false, laid := [("braid/quota.rows", laid_braid_quota_rows)] }
def QuotaSharesSaid : Prop := quotaSharesRow.holds Tryd.pinned (OpenSpec.ofChange quotaSharesSpec)

/-- ITS FALSE NEIGHBOUR: 'it returns false'. Refute it at one input. -/
def quotaSharesWrong : ChangeSpec := { name := "quotaShares", fn := fun _ => fun
  | [d] => { results := [.lit (.bool false)], args := [d] }
  | _ => none }
def QuotaSharesWrongFalsely : Prop := quotaSharesRow.holds Tryd.pinned (OpenSpec.ofChange quotaSharesWrong)

/-- 'braidlaw26.QuotaNames': WHATEVER THE INPUT: true; the input reads as it did. -/
def quotaNamesSpec : ChangeSpec := { name := "quotaNames", fn := fun _ => fun
  | [] => { results := [.lit (.bool true)], args := [] }
  | _ => none }
def quotaNamesRow : OpenClaim := { program := "ytkadjjicakinbaadoor", sum := "aa93d798781c928da78823399331862d3be2d31f828a2707db4b9c14162072c8", func := "braid/braidlaw26.QuotaNames", spec := "quotaNames", unfollowed := true, recurses := true, named := ["braid/quota.rows"], apart := false, laid := [("braid/quota.rows", laid_braid_quota_rows)] }
def QuotaNamesSaid : Prop := quotaNamesRow.holds Tryd.pinned (OpenSpec.ofChange quotaNamesSpec)

/-- ITS FALSE NEIGHBOUR: 'it returns false'. Refute it at one input. -/
def quotaNamesWrong : ChangeSpec := { name := "quotaNames", fn := fun _ => fun
  | [] => { results := [.lit (.bool false)], args := [] }
  | _ => none }
def QuotaNamesWrongFalsely : Prop := quotaNamesRow.holds Tryd.pinned (OpenSpec.ofChange quotaNamesWrong)

/- THE SECOND FORM. 'bulk': how many values and letters a reading holds, each counted each time it is reached (what is shared counts as often as it is met; a slice's spare places count too). A statement '..UptoSaid' is the law's where the arguments, and the package variables that the reading takes, are together of bulk at most 1048576: NARROWER than '..Said'. Prove '..Said' where nothing that the law and all that it calls make is longer than what came in: it says more and counts as full. Else prove '..UptoSaid'. A law counts once. -/
mutual
def uptoBulk {H : Type} : DataW H → Nat
  | .lit (.string bytes) => bytes.length + 1
  | .lit _ => 1
  | .nil => 1
  | .ptr d => uptoBulk d + 1
  | .slice elems spare => uptoBulkAll elems + uptoBulkAll spare + 1
  | .agg parts => uptoBulkAll parts + 1
  | .iface _ d => uptoBulk d + 1
  | .map entries => uptoBulkEntries entries + 1
  | .held _ => 1
def uptoBulkAll {H : Type} : List (DataW H) → Nat
  | [] => 0
  | d :: r => uptoBulk d + uptoBulkAll r
def uptoBulkEntries {H : Type} : List (Lit × DataW H) → Nat
  | [] => 0
  | x :: r => uptoBulkEntry x + uptoBulkEntries r
def uptoBulkEntry {H : Type} : Lit × DataW H → Nat
  | (.string bytes, d) => bytes.length + uptoBulk d + 1
  | (_, d) => uptoBulk d + 1
 end
def uptoSmall : (H : Type) → List (DataW H) → Bool := fun _ ds => decide (uptoBulkAll ds ≤ 1048576)
def OpenSpec.upto (s : _root_.Go.ChangeSpec) : _root_.Go.OpenSpec := { _root_.Go.OpenSpec.ofChange s with cond := some uptoSmall }

/-- 'braidlaw26.QuotaMoves', WHERE WHAT IT READS IS OF BULK AT MOST 1048576: true; the input reads as it did. -/
def quotaMovesUptoRow : OpenClaim := { program := "ytkadjjicakinbaadoor", sum := "aa93d798781c928da78823399331862d3be2d31f828a2707db4b9c14162072c8", func := "braid/braidlaw26.QuotaMoves", spec := "quotaMoves", unfollowed := true, recurses := true, named := ["braid/quota.rows"], apart := false, laid := [("braid/quota.rows", laid_braid_quota_rows)], narrowed := true }
def QuotaMovesUptoSaid : Prop := quotaMovesUptoRow.holds Tryd.pinned (OpenSpec.upto quotaMovesSpec)

/-- 'braidlaw26.QuotaWithin', WHERE WHAT IT READS IS OF BULK AT MOST 1048576: true; the input reads as it did. -/
def quotaWithinUptoRow : OpenClaim := { program := "ytkadjjicakinbaadoor", sum := "aa93d798781c928da78823399331862d3be2d31f828a2707db4b9c14162072c8", func := "braid/braidlaw26.QuotaWithin", spec := "quotaWithin", unfollowed := true, recurses := true, named := ["braid/quota.rows"], apart := false, laid := [("braid/quota.rows", laid_braid_quota_rows)], narrowed := true }
def QuotaWithinUptoSaid : Prop := quotaWithinUptoRow.holds Tryd.pinned (OpenSpec.upto quotaWithinSpec)

/-- 'braidlaw26.QuotaRoom', WHERE WHAT IT READS IS OF BULK AT MOST 1048576: true; the input reads as it did. -/
def quotaRoomUptoRow : OpenClaim := { program := "ytkadjjicakinbaadoor", sum := "aa93d798781c928da78823399331862d3be2d31f828a2707db4b9c14162072c8", func := "braid/braidlaw26.QuotaRoom", spec := "quotaRoom", unfollowed := true, recurses := true, named := ["braid/quota.rows"], apart := false, laid := [("braid/quota.rows", laid_braid_quota_rows)], narrowed := true }
def QuotaRoomUptoSaid : Prop := quotaRoomUptoRow.holds Tryd.pinned (OpenSpec.upto quotaRoomSpec)

/-- 'braidlaw26.QuotaBack', WHERE WHAT IT READS IS OF BULK AT MOST 1048576: true; the input reads as it did. -/
def quotaBackUptoRow : OpenClaim := { program := "ytkadjjicakinbaadoor", sum := "aa93d798781c928da78823399331862d3be2d31f828a2707db4b9c14162072c8", func := "braid/braidlaw26.QuotaBack", spec := "quotaBack", unfollowed := true, recurses := true, named := ["braid/quota.rows"], apart := false, laid := [("braid/quota.rows", laid_braid_quota_rows)], narrowed := true }
def QuotaBackUptoSaid : Prop := quotaBackUptoRow.holds Tryd.pinned (OpenSpec.upto quotaBackSpec)

/-- 'braidlaw26.QuotaShares', WHERE WHAT IT READS IS OF BULK AT MOST 1048576: true; the input reads as it did. -/
def quotaSharesUptoRow : OpenClaim := { program := "ytkadjjicakinbaadoor", sum := "aa93d798781c928da78823399331862d3be2d31f828a2707db4b9c14162072c8", func := "braid/braidlaw26.QuotaShares", spec := "quotaShares", unfollowed := true, recurses := true, named := ["braid/quota.rows"], apart := false, laid := [("braid/quota.rows", laid_braid_quota_rows)], narrowed := true }
def QuotaSharesUptoSaid : Prop := quotaSharesUptoRow.holds Tryd.pinned (OpenSpec.upto quotaSharesSpec)

/-- 'braidlaw26.QuotaNames', WHERE WHAT IT READS IS OF BULK AT MOST 1048576: true; the input reads as it did. -/
def quotaNamesUptoRow : OpenClaim := { program := "ytkadjjicakinbaadoor", sum := "aa93d798781c928da78823399331862d3be2d31f828a2707db4b9c14162072c8", func := "braid/braidlaw26.QuotaNames", spec := "quotaNames", unfollowed := true, recurses := true, named := ["braid/quota.rows"], apart := false, laid := [("braid/quota.rows", laid_braid_quota_rows)], narrowed := true }
def QuotaNamesUptoSaid : Prop := quotaNamesUptoRow.holds Tryd.pinned (OpenSpec.upto quotaNamesSpec)

end Rows
end Go.Proofs.YtkadjjicakinbaaDoor
