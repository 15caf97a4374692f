/- What the card of ReportBack leans on, part 12: written with few blanks and short names by a program out of longer texts. Conditions: those of each lemma. -/
import Derived.Test.YtdmpneafeadbbaaGreatDoorPak
import Derived.RangeFuncNested
import Derived.RangeFuncBound
import Derived.RangeFuncCalls
import Derived.RangeFuncLeaves
import Derived.Shelf.Abstract
import Derived.Shelf.RegionOpen
import Derived.OwnWalkIn
import Derived.TacticsInMore
import Derived.LoopNIn
import Derived.LoopIn
import Derived.Laws.AppendOwn
set_option maxRecDepth 100000
set_option linter.unusedVariables false
set_option linter.unusedSimpArgs false
noncomputable section
namespace Go.Proofs.YtdmpneafeadbbaaGreatDoor
section
open Go Go.az Go.RowKit
namespace Ad
open L Td Te Vl
theorem wk:(Tryz.prog.info? 91).map (fun i=>(i.zero,i.size,i.bytes))=some (some (.agg (List.replicate 32 (.int .u8 0)).toArray),32,32):=by kernel_rfl
theorem _root_.Go.RowKit.Below.nj{a w:World}(h:Below a.drew.heap.size a.drew w):Below a.heap.size a w:=⟨h.os,h.tape,h.output,h.size,h.block⟩
theorem S9(w:World):(sizeOf 45).run Tryz.prog w= .ok 1 w:=by kernel_rfl
theorem Ta(w:World):(sizeOf 39).run Tryz.prog w= .ok 1 w:=by kernel_rfl
theorem Tc(w:World):(sizeOf 42).run Tryz.prog w= .ok 1 w:=by kernel_rfl
theorem Mb(w:World):(isAgg 45).run Tryz.prog w= .ok false w:=by kernel_rfl
theorem Mc(w:World):(isAgg 39).run Tryz.prog w= .ok false w:=by kernel_rfl
theorem Md(w:World):(isAgg 42).run Tryz.prog w= .ok false w:=by kernel_rfl
theorem P9(w:World):(isAgg 9).run Tryz.prog w= .ok false w:=by kernel_rfl
theorem yB:∀args w,(callFunc 86 args).run Tryz.prog w= .ok (.enter 86 args) w:=enters_of Tryz.func86 (by kernel_rfl) rfl
theorem Me:(Tryz.prog.info? 91).map (fun i=>(i.zero.map (·.cells.size),i.size))=some (some 32,32):=by kernel_rfl
theorem Mf:(Tryz.prog.info? 93).map (fun i=>(i.zero.map (·.cells.size),i.size))=some (some 33,33):=by kernel_rfl
theorem Mg:(Tryz.prog.info? 95).map (fun i=>(i.zero.map (·.cells.size),i.size))=some (some 38,38):=by kernel_rfl
structure dE(n0 M:Nat)(W W':World):Prop where
 os:W'.os=W.os
 tape:W'.tape=W.tape
 output:W'.output=W.output
 size:W.heap.size≤W'.heap.size
 block:∀(k:Nat)(o:Obj),W.heap[k]? =some o→k≠M→W'.heap[k]? =some o∨(n0≤k∧∃cs t,(t=91∨t=93∨t=95)∧o= .cells cs t (0,0))
theorem dE.refl(n0 M:Nat)(W:World):dE n0 M W W:=⟨rfl,rfl,rfl,Nat.le_refl _,fun _ _ h _=> .inl h⟩
theorem dE.trans{n0 M:Nat}{W W' W'':World}(h:dE n0 M W W')(k:dE n0 M W' W''):dE n0 M W W'':=
 ⟨k.os.trans h.os,k.tape.trans h.tape,k.output.trans h.output,Nat.le_trans h.size k.size,fun i o ho hi=>by
  rcases h.block i o ho hi with h1|h1
  ·exact k.block i o h1 hi
  ·exact .inr h1⟩
theorem dE.below{n0 M:Nat}{W W':World}(h:Below W.heap.size W W'):dE n0 M W W':=
 ⟨h.os,h.tape,h.output,h.size,fun k o ho _=> .inl ((h.block k (az.aB ho)).trans ho)⟩
theorem dE.box{n0 M:Nat}{W:World}(i:Nat)(v:Value):dE n0 M W (W.setCell ⟨M,i,none⟩ v):=
 ⟨rfl,rfl,rfl,by simp [World.setCell],fun k o ho hk=> .inl ((Below.heap_setCell _ _ _ _ hk).trans ho)⟩
theorem dE.drew{n0 M:Nat}{W W':World}(h:dE n0 M W W'):dE n0 M W W'.drew:=⟨h.os,h.tape,h.output,h.size,h.block⟩
theorem dE.grown{n0 M e size n:Nat}{v:Value}{xs:List Value}{W W':World}(he:e=91∨e=93∨e=95)(h:W.ownsRow n0 e size v n xs)(hg:W.grownBy W' v.ownBlock):dE n0 M W W':=
 ⟨hg.os,hg.tape,hg.output,hg.size,fun k o ho hk=>by
  by_cases hb:some k=v.ownBlock
  ·obtain⟨h1,cs,h2⟩:=da h k hb.symm
   rw [h2]at ho
   cases ho
   exact .inr ⟨h1,cs,e,he,rfl⟩
  ·exact .inl ((hg.block k (az.aB ho) hb).trans ho)⟩
theorem bN{base e e' size size' n n':Nat}{v v':Value}{xs xs':List Value}{W W':World}(hne:e≠e')(h:W.ownsRow base e size v n xs)(h':W.ownsRow base e' size' v' n' xs')(hg:W.grownBy W' v'.ownBlock):W'.ownsRow base e size v n xs:=by
 refine⟨h.1,?_⟩
 rcases h.2 with h1|⟨g,cap,cur,rfl,k1,k2,k3⟩
 ·exact .inl h1
 ·refine .inr ⟨g,cap,cur,rfl,k1,(hg.block g (az.aB k2) fun e1=>?_).trans k2,k3⟩
  obtain⟨_,cs,h2⟩:=da h' g e1.symm
  rw [k2]at h2
  cases h2
  exact hne rfl
def gW(l:List (List UInt8)):List Value:=(l.map fun s=>Ui.row s 32 0).flatten
theorem mG{l:List (List UInt8)}{j:Nat}{z:List UInt8}(h:l[j]? =some z):gW (l.take j)++Ui.row z 32 0=gW (l.take (j+1)):=by
 obtain⟨h1,h2⟩:=List.getElem?_eq_some_iff.1 h
 rw [List.take_succ_eq_append_getElem h1,h2]
 simp [gW]
set_option maxHeartbeats 4000000 in
theorem Tf(M W0 n0 m:Nat)(ws:List (List UInt8))(dQ:Int)(tv rv hv:Value)(nt nr nh:Nat)(ts rs hs:List Value)(w:World)
  (hM:w.heap[M]? =some (.cells #[.int .i64 dQ,tv,rv,hv] 47 (0,0))) (ht:w.ownsRow n0 93 33 tv nt ts) (hr:w.ownsRow n0 95 38 rv nr rs) (hh:w.ownsRow n0 91 32 hv nh hs) (hn0:n0≤w.heap.size) (hnh:nh≤100000) (hM0:M<n0)
  (hW:w.heap[W0]? =some (.cells (ws.map fun s=> .string ⟨⟨s⟩⟩).toArray 9 (0,0))) (hMW:W0≠M) (h0:ws[0]? =some di) (hn:ws.length=m+2) (hn1:m≤30000) (hws:∀z∈ws,z.length≤100000):
  Calls Tryz.prog 52 #[.pointer (some ⟨M,0,none⟩),.slice (some ⟨W0,0,none⟩) (m+2) (m+2)] w fun e w'=>e= .returned (.bool true)∧
   dE n0 M w w'∧w'.ownsRow n0 93 33 tv nt ts∧w'.ownsRow n0 95 38 rv nr rs∧∃hv',w'.heap[M]? =some (.cells #[.int .i64 dQ,tv,rv,hv'] 47 (0,0))∧w'.ownsRow n0 91 32 hv' (nh+(m+1)) (hs++gW (ws.drop 1)):=by
 have mixed:=mix
 obtain⟨⟨c0,c1,c2,c3⟩,f0,f1,f2,f3⟩:=cV hM
 have d0:w.cell? ⟨W0,0,none⟩=some (.string ⟨#[104,101,97,100,115]⟩):=by
  rw [Lib.cell_of_heap hW]
  simp [h0,di]
 have HN:=Lib.hid hn
 clear hn
 go_enter Tryz.func52,Tryz.ntmps52
 go_wp2
 go_loopw [44] (fun v44 wr=>∃j:Nat,v44= .int .i64 j∧j≤m+1∧dE n0 M w wr∧wr.ownsRow n0 93 33 tv nt ts∧wr.ownsRow n0 95 38 rv nr rs∧∃hv',wr.heap[M]? =some (.cells #[.int .i64 dQ,tv,rv,hv'] 47 (0,0))∧wr.ownsRow n0 91 32 hv' (nh+j) (hs++gW ((ws.drop 1).take j))) (fun v44 _=>m+1-(intOf v44).toNat)
 case atStart=>exact⟨0,rfl,Nat.zero_le _,dE.refl _ _ _,ht,hr,hv,hM,by simpa [gW]using hh⟩
 case round=>
  obtain⟨j,rfl,hj,hC,ht1,hr1,hv1,hM1,hh1⟩:=hrel
  obtain⟨⟨e0,e1,e2,e3⟩,g0,g1,g2,g3⟩:=cV hM1
  by_cases hlt:j<m+1
  ·have hWr:wr.heap[W0]? =some (.cells (ws.map fun s=> .string ⟨⟨s⟩⟩).toArray 9 (0,0)):=by
    rcases hC.block W0 _ hW hMW with h|⟨_,cs,t,ht,hc⟩
    ·exact h
    ·cases hc
     simp at ht
   obtain⟨z,hz⟩:∃z,ws[j+1]? =some z:=⟨_,List.getElem?_eq_getElem (by rw [HN.out];omega)⟩
   have hzl:=hws z (List.mem_of_getElem? hz)
   have dj:wr.cell? ⟨W0,1+j,none⟩=some (.string ⟨⟨z⟩⟩):=by
    rw [Lib.cell_of_heap hWr,Nat.add_comm]
    simp [hz]
   go_wp2
   have e3':wr.drew.cell? ⟨M,3,none⟩=some hv1:=e3
   have hrl:(Ui.row z 32 0).length=32:=Ui.tK _ _ _
   have hMlt:M<wr.heap.size:=az.aB hM1
   refine Rg.start (by kernel_rfl) ?_
   refine Rg.take 0 (.pointer (some ⟨M,0,none⟩)) rfl (by kernel_rfl) (by kernel_rfl) (by kernel_rfl) (fun _ _ _ h=>h) rfl (fun w=>by go_simp) ?_
   refine Rg.take 1 (.pointer (some ⟨M,0,none⟩)) rfl (by kernel_rfl) (by kernel_rfl) (by kernel_rfl) (fun _ _ _ h=>h) rfl (fun w=>by go_simp) ?_
   refine Rg.take 2 (.pointer (some ⟨M,0,none⟩)) rfl (by kernel_rfl) (by kernel_rfl) (by kernel_rfl) (fun _ _ _ h=>h) rfl (fun w=>by go_simp) ?_
   refine Rg.take 3 (.pointer (some ⟨M,3,none⟩)) rfl (by kernel_rfl) (by kernel_rfl) (by kernel_rfl) (fun _ _ _ h=>h) rfl (fun w=>by go_simp) ?_
   refine Rg.take 5 (.string ⟨⟨z⟩⟩) rfl (by kernel_rfl) (by kernel_rfl) (by kernel_rfl) (fun _ _ _ h=>h) rfl (fun w=>by go_simp) ?_
   refine Rg.WV 4 6 _ _ (by kernel_rfl) rfl rfl rfl rfl ?_ ?_
   ·refine Rg.qp 45 Mb (.tmp 51) rfl ⟨M,3,none⟩ (by kernel_rfl) hv1 e3' ?_
    refine Rg.xl 6 _ (by kernel_rfl) rfl rfl ?_
    refine Rg.sW 86 #[.tmp 53] #[9] rfl #[.string ⟨⟨z⟩⟩] (by kernel_rfl) yB (Ui.id ⟨⟨z⟩⟩ hzl _) (fun e w5 h=>?_)
    obtain⟨rfl,b5⟩:=h
    have b5:Below wr.heap.size wr w5:=b5.nj
    have e5:w5.cell? ⟨M,3,none⟩=some hv1:=(b5.cell (p:=⟨M,3,none⟩) hMlt).trans e3
    refine⟨_,rfl,?_⟩
    refine Rg.xl 7 _ (by kernel_rfl) rfl rfl ?_
    refine Rg.bs 45 91 32 Tryz.underlying45 Me (by decide) (by decide) (.tmp 54) rfl (Ui.row z 32 0) (by kernel_rfl) hrl ?_
    have b6:=b5.alloc b5.size (.cells ⟨Ui.row z 32 0⟩ 91)
    have hnw:=Tx.aw w5 (.cells ⟨Ui.row z 32 0⟩ 91)
    have hMs:=(b6.block M hMlt).trans hM1
    have ht6:=aE ht1 b6
    have hr6:=aE hr1 b6
    have hh6:=aE hh1 b6
    have hs6:=b6.size
    have hC6:dE n0 M w (w5.alloc (.cells ⟨Ui.row z 32 0⟩ 91)):=hC.trans (dE.below b6)
    have hCs:=hC.size
    generalize hg:w5.heap.size=g at hnw ⊢
    generalize w5.alloc (.cells ⟨Ui.row z 32 0⟩ 91)=w6 at*
    refine Rg.xl 8 _ (by kernel_rfl) rfl rfl ?_
    obtain⟨i0,hi0,hz0,hz1,hz2⟩:=info_parts wk
    refine Rg.app (.tmp 52) (.tmp 55) 45 rfl n0 91 i0 _ 32 32 Tryz.underlying45 hi0 hz0 hz1 hz2 (by rfl) (by decide) hv1 (nh+j) _ (by kernel_rfl) hh6 ⟨g,0,none⟩ 1 1 (Ui.row z 32 0) (by kernel_rfl) hrl (fun k u hk=>?_) (Ui.row_one _ _ _) (by simp only [maxLen];omega) (by omega) (by omega) (fun v' w7 own7 g7=>?_)
    ·rw [Lib.add_plain,Nat.zero_add,Lib.cell_of_heap hnw]
     simpa using hk
    have ht7:=bN (by decide) ht6 hh6 g7
    have hr7:=bN (by decide) hr6 hh6 g7
    have hC7:=hC6.trans (dE.grown (M:=M) (.inl rfl) hh6 g7)
    have hM7:=(g7.block M (az.aB hMs) (fun e=>by have:=(da hh6 M e.symm).1;omega)).trans hMs
    obtain⟨g',cap',rfl⟩:=ownsRow_succ own7
    obtain⟨⟨k0,k1,k2,k3⟩,l0,l1,l2,l3⟩:=cV hM7
    refine Rg.take 9 (.pointer (some ⟨M,0,none⟩)) rfl (by kernel_rfl) (by kernel_rfl) (by kernel_rfl) (fun _ _ _ h=>h) rfl (fun w=>by go_simp) ?_
    refine Rg.take 10 (.pointer (some ⟨M,3,none⟩)) rfl (by kernel_rfl) (by kernel_rfl) (by kernel_rfl) (fun _ _ _ h=>h) rfl (fun w=>by go_simp) ?_
    refine Rg.xl 11 _ (by kernel_rfl) rfl rfl ?_
    refine Rg.iq 45 S9 (.tmp 58) (.tmp 56) rfl ⟨M,3,none⟩ (by kernel_rfl) (some ⟨g',0,none⟩) (nh+j+1) cap' (by kernel_rfl) hv1 k3 l3 ?_
    have hM8:=Ui.heap_set (i:=3) hM7 (.slice (some ⟨g',0,none⟩) (nh+j+1) cap')
    refine Rg.done (by kernel_rfl) ?_
    go_wp2
    go_roundw
    case rel=>
     refine⟨j+1,by go_num,by omega,hC7.trans (dE.box 3 _),ownsRow_setCell_below ht7 hM0 _,ownsRow_setCell_below hr7 hM0 _,_,hM8,?_⟩
     rw [←mG (by rw [List.getElem?_drop,Nat.add_comm];exact hz),←List.append_assoc]
     exact ownsRow_setCell_below own7 hM0 _
    case measure=>simp [intOf];omega
   ·refine Rg.sW 86 #[.tmp 53] #[9] rfl #[.string ⟨⟨z⟩⟩] (by kernel_rfl) yB (Ui.id ⟨⟨z⟩⟩ hzl _) (fun e w5 h=>?_)
    obtain⟨rfl,b5⟩:=h
    have b5:Below wr.heap.size wr w5:=b5.nj
    have e5:w5.cell? ⟨M,3,none⟩=some hv1:=(b5.cell (p:=⟨M,3,none⟩) hMlt).trans e3
    refine⟨_,rfl,?_⟩
    refine Rg.WV 4 7 _ _ (by kernel_rfl) rfl rfl rfl rfl ?_ ?_
    ·refine Rg.qp 45 Mb (.tmp 51) rfl ⟨M,3,none⟩ (by kernel_rfl) hv1 e5 ?_
     refine Rg.xl 7 _ (by kernel_rfl) rfl rfl ?_
     refine Rg.bs 45 91 32 Tryz.underlying45 Me (by decide) (by decide) (.tmp 54) rfl (Ui.row z 32 0) (by kernel_rfl) hrl ?_
     have b6:=b5.alloc b5.size (.cells ⟨Ui.row z 32 0⟩ 91)
     have hnw:=Tx.aw w5 (.cells ⟨Ui.row z 32 0⟩ 91)
     have hMs:=(b6.block M hMlt).trans hM1
     have ht6:=aE ht1 b6
     have hr6:=aE hr1 b6
     have hh6:=aE hh1 b6
     have hs6:=b6.size
     have hC6:dE n0 M w (w5.alloc (.cells ⟨Ui.row z 32 0⟩ 91)):=hC.trans (dE.below b6)
     have hCs:=hC.size
     generalize hg:w5.heap.size=g at hnw ⊢
     generalize w5.alloc (.cells ⟨Ui.row z 32 0⟩ 91)=w6 at*
     refine Rg.xl 8 _ (by kernel_rfl) rfl rfl ?_
     obtain⟨i0,hi0,hz0,hz1,hz2⟩:=info_parts wk
     refine Rg.app (.tmp 52) (.tmp 55) 45 rfl n0 91 i0 _ 32 32 Tryz.underlying45 hi0 hz0 hz1 hz2 (by rfl) (by decide) hv1 (nh+j) _ (by kernel_rfl) hh6 ⟨g,0,none⟩ 1 1 (Ui.row z 32 0) (by kernel_rfl) hrl (fun k u hk=>?_) (Ui.row_one _ _ _) (by simp only [maxLen];omega) (by omega) (by omega) (fun v' w7 own7 g7=>?_)
     ·rw [Lib.add_plain,Nat.zero_add,Lib.cell_of_heap hnw]
      simpa using hk
     have ht7:=bN (by decide) ht6 hh6 g7
     have hr7:=bN (by decide) hr6 hh6 g7
     have hC7:=hC6.trans (dE.grown (M:=M) (.inl rfl) hh6 g7)
     have hM7:=(g7.block M (az.aB hMs) (fun e=>by have:=(da hh6 M e.symm).1;omega)).trans hMs
     obtain⟨g',cap',rfl⟩:=ownsRow_succ own7
     obtain⟨⟨k0,k1,k2,k3⟩,l0,l1,l2,l3⟩:=cV hM7
     refine Rg.take 9 (.pointer (some ⟨M,0,none⟩)) rfl (by kernel_rfl) (by kernel_rfl) (by kernel_rfl) (fun _ _ _ h=>h) rfl (fun w=>by go_simp) ?_
     refine Rg.take 10 (.pointer (some ⟨M,3,none⟩)) rfl (by kernel_rfl) (by kernel_rfl) (by kernel_rfl) (fun _ _ _ h=>h) rfl (fun w=>by go_simp) ?_
     refine Rg.xl 11 _ (by kernel_rfl) rfl rfl ?_
     refine Rg.iq 45 S9 (.tmp 58) (.tmp 56) rfl ⟨M,3,none⟩ (by kernel_rfl) (some ⟨g',0,none⟩) (nh+j+1) cap' (by kernel_rfl) hv1 k3 l3 ?_
     have hM8:=Ui.heap_set (i:=3) hM7 (.slice (some ⟨g',0,none⟩) (nh+j+1) cap')
     refine Rg.done (by kernel_rfl) ?_
     go_wp2
     go_roundw
     case rel=>
      refine⟨j+1,by go_num,by omega,hC7.trans (dE.box 3 _),ownsRow_setCell_below ht7 hM0 _,ownsRow_setCell_below hr7 hM0 _,_,hM8,?_⟩
      rw [←mG (by rw [List.getElem?_drop,Nat.add_comm];exact hz),←List.append_assoc]
      exact ownsRow_setCell_below own7 hM0 _
     case measure=>simp [intOf];omega
    ·refine Rg.bs 45 91 32 Tryz.underlying45 Me (by decide) (by decide) (.tmp 54) rfl (Ui.row z 32 0) (by kernel_rfl) hrl ?_
     refine Rg.xl 4 _ (by kernel_rfl) rfl rfl ?_
     refine Rg.qp 45 Mb (.tmp 51) rfl ⟨M,3,none⟩ (by kernel_rfl) hv1 ((Below.refl _ w5).alloc (Nat.le_refl _) _ |>.cell (p:=⟨M,3,none⟩) (Nat.lt_of_lt_of_le hMlt b5.size) |>.trans e5) ?_
     have b6:=b5.alloc b5.size (.cells ⟨Ui.row z 32 0⟩ 91)
     have hnw:=Tx.aw w5 (.cells ⟨Ui.row z 32 0⟩ 91)
     have hMs:=(b6.block M hMlt).trans hM1
     have ht6:=aE ht1 b6
     have hr6:=aE hr1 b6
     have hh6:=aE hh1 b6
     have hs6:=b6.size
     have hC6:dE n0 M w (w5.alloc (.cells ⟨Ui.row z 32 0⟩ 91)):=hC.trans (dE.below b6)
     have hCs:=hC.size
     generalize hg:w5.heap.size=g at hnw ⊢
     generalize w5.alloc (.cells ⟨Ui.row z 32 0⟩ 91)=w6 at*
     refine Rg.xl 8 _ (by kernel_rfl) rfl rfl ?_
     obtain⟨i0,hi0,hz0,hz1,hz2⟩:=info_parts wk
     refine Rg.app (.tmp 52) (.tmp 55) 45 rfl n0 91 i0 _ 32 32 Tryz.underlying45 hi0 hz0 hz1 hz2 (by rfl) (by decide) hv1 (nh+j) _ (by kernel_rfl) hh6 ⟨g,0,none⟩ 1 1 (Ui.row z 32 0) (by kernel_rfl) hrl (fun k u hk=>?_) (Ui.row_one _ _ _) (by simp only [maxLen];omega) (by omega) (by omega) (fun v' w7 own7 g7=>?_)
     ·rw [Lib.add_plain,Nat.zero_add,Lib.cell_of_heap hnw]
      simpa using hk
     have ht7:=bN (by decide) ht6 hh6 g7
     have hr7:=bN (by decide) hr6 hh6 g7
     have hC7:=hC6.trans (dE.grown (M:=M) (.inl rfl) hh6 g7)
     have hM7:=(g7.block M (az.aB hMs) (fun e=>by have:=(da hh6 M e.symm).1;omega)).trans hMs
     obtain⟨g',cap',rfl⟩:=ownsRow_succ own7
     obtain⟨⟨k0,k1,k2,k3⟩,l0,l1,l2,l3⟩:=cV hM7
     refine Rg.take 9 (.pointer (some ⟨M,0,none⟩)) rfl (by kernel_rfl) (by kernel_rfl) (by kernel_rfl) (fun _ _ _ h=>h) rfl (fun w=>by go_simp) ?_
     refine Rg.take 10 (.pointer (some ⟨M,3,none⟩)) rfl (by kernel_rfl) (by kernel_rfl) (by kernel_rfl) (fun _ _ _ h=>h) rfl (fun w=>by go_simp) ?_
     refine Rg.xl 11 _ (by kernel_rfl) rfl rfl ?_
     refine Rg.iq 45 S9 (.tmp 58) (.tmp 56) rfl ⟨M,3,none⟩ (by kernel_rfl) (some ⟨g',0,none⟩) (nh+j+1) cap' (by kernel_rfl) hv1 k3 l3 ?_
     have hM8:=Ui.heap_set (i:=3) hM7 (.slice (some ⟨g',0,none⟩) (nh+j+1) cap')
     refine Rg.done (by kernel_rfl) ?_
     go_wp2
     go_roundw
     case rel=>
      refine⟨j+1,by go_num,by omega,hC7.trans (dE.box 3 _),ownsRow_setCell_below ht7 hM0 _,ownsRow_setCell_below hr7 hM0 _,_,hM8,?_⟩
      rw [←mG (by rw [List.getElem?_drop,Nat.add_comm];exact hz),←List.append_assoc]
      exact ownsRow_setCell_below own7 hM0 _
     case measure=>simp [intOf];omega
  ·obtain rfl:j=m+1:=by omega
   go_wp2
   go_ret
   refine⟨rfl,hC,ht1,hr1,hv1,hM1,?_⟩
   rwa [List.take_of_length_le (by rw [List.length_drop,HN.out];omega)]at hh1
theorem Q5(s:ByteArray)(R:List Value)(hl:R.length=32)(w:World):(Instr.build 93 #[(0,.string s),(1,.agg ⟨R⟩)]).run Tryz.prog w= .ok (.agg ⟨.string s::R⟩) w:=by
 refine Rg.build 93 (.agg (.string ⟨#[]⟩::List.replicate 32 (.int .u8 0)).toArray) _ #[(0,1),(1,32)] (fun w=>by kernel_rfl) Tryz.underlying93 (fun w=>by kernel_rfl) _ _ ?_ w
 rw [show(#[(0,Value.string s),(1,Value.agg ⟨R⟩)]:Array (Nat×Value)).toList=[(0,.string s),(1,.agg ⟨R⟩)]from rfl]
 rw [Rg.gA _ _ 0 _ _ 0 1 rfl rfl (by simp [Value.cells]),Rg.gA _ _ 1 (.agg ⟨R⟩) _ 1 32 rfl (show(Value.agg ⟨R⟩).cells.size=32 from hl) (by simp [Value.cells]),Rg.wv]
 congr 1
 apply Array.ext'
 simp [Value.cells]
theorem Q6(s:ByteArray)(V:List Value)(hV:V.length=4)(u:Int)(R:List Value)(hl:R.length=32)(w:World):
  (Instr.build 95 #[(0,.string s),(1,.agg ⟨V⟩),(2,.int .u64 u),(3,.agg ⟨R⟩)]).run Tryz.prog w= .ok (.agg ⟨.string s::(V++ .int .u64 u::R)⟩) w:=by
 refine Rg.build 95 (.agg (.string ⟨#[]⟩:: .int .u8 0:: .int .i64 0:: .int .u64 0:: .string ⟨#[]⟩:: .int .u64 0::List.replicate 32 (.int .u8 0)).toArray) _ #[(0,1),(1,4),(5,1),(6,32)] (fun w=>by kernel_rfl) Tryz.underlying95 (fun w=>by kernel_rfl) _ _ ?_ w
 rw [show(#[(0,Value.string s),(1,Value.agg ⟨V⟩),(2,Value.int .u64 u),(3,Value.agg ⟨R⟩)]:Array (Nat×Value)).toList=[(0,.string s),(1,.agg ⟨V⟩),(2,.int .u64 u),(3,.agg ⟨R⟩)]from rfl]
 match V,hV with
 | [a,b,c,d],_=>
  rw [Rg.gA _ _ 0 _ _ 0 1 rfl rfl (by simp [Value.cells]),Rg.gA _ _ 1 _ _ 1 4 rfl rfl (by simp [Value.cells]),Rg.gA _ _ 2 _ _ 5 1 rfl rfl (by simp [Value.cells]),Rg.gA _ _ 3 (.agg ⟨R⟩) _ 6 32 rfl (show(Value.agg ⟨R⟩).cells.size=32 from hl) (by simp [Value.cells]),Rg.wv]
  congr 1
  apply Array.ext'
  simp [Value.cells]
theorem AF:(Tryz.prog.info? 93).map (fun i=>(i.zero,i.size,i.bytes))=some (some (.agg (.string ⟨#[]⟩::List.replicate 32 (.int .u8 0)).toArray),33,48):=by kernel_rfl
theorem AG:(Tryz.prog.info? 95).map (fun i=>(i.zero,i.size,i.bytes))=some (some (.agg (.string ⟨#[]⟩:: .int .u8 0:: .int .i64 0:: .int .u64 0:: .string ⟨#[]⟩:: .int .u64 0::List.replicate 32 (.int .u8 0)).toArray),38,96):=by kernel_rfl
theorem WW(w:World):(isAgg 24).run Tryz.prog w= .ok true w∧(sizeOf 24).run Tryz.prog w= .ok 4 w:=⟨by kernel_rfl,by kernel_rfl⟩
def WS(W0 B:Nat)(oW oB:Obj)(w:World):Prop:=w.heap[W0]? =some oW∧w.heap[B]? =some oB
theorem WS.below{W0 B:Nat}{oW oB:Obj}{w w':World}(h:WS W0 B oW oB w)(hb:Below w.heap.size w w'):WS W0 B oW oB w':=⟨(hb.block _ (az.aB h.1)).trans h.1,(hb.block _ (az.aB h.2)).trans h.2⟩
theorem WS.grown{W0 B n0 e size n:Nat}{v:Value}{xs cs cs':List Value}{t t':Nat}{w w':World}(h:WS W0 B (.cells ⟨cs⟩ t (0,0)) (.cells ⟨cs'⟩ t' (0,0)) w)(hv:w.ownsRow n0 e size v n xs)(hg:w.grownBy w' v.ownBlock)(ht:t≠e)(ht':t'≠e):WS W0 B (.cells ⟨cs⟩ t (0,0)) (.cells ⟨cs'⟩ t' (0,0)) w':=by
 have f:∀(k T:Nat)(c:List Value),w.heap[k]? =some (.cells ⟨c⟩ T (0,0))→T≠e→w'.heap[k]? =some (.cells ⟨c⟩ T (0,0)):=fun k T c hk hT=>
  (hg.block k (az.aB hk) fun e1=>by
   obtain⟨_,c2,h2⟩:=da hv k e1.symm
   rw [hk]at h2
   cases h2
   exact hT rfl).trans hk
 exact⟨f _ _ _ h.1 ht,f _ _ _ h.2 ht'⟩
theorem WS.box{W0 B M i:Nat}{oW oB:Obj}{w:World}(h:WS W0 B oW oB w)(h1:W0≠M)(h2:B≠M)(v:Value):WS W0 B oW oB (w.setCell ⟨M,i,none⟩ v):=⟨(Below.heap_setCell _ _ _ _ h1).trans h.1,(Below.heap_setCell _ _ _ _ h2).trans h.2⟩
def wQ(ws:List (List UInt8)):Obj:= .cells ⟨ws.map fun s=> .string ⟨⟨s⟩⟩⟩ 9 (0,0)
theorem ft{W0:Nat}{ws:List (List UInt8)}{w:World}(h:w.heap[W0]? =some (wQ ws)){i:Nat}{z:List UInt8}(hz:ws[i]? =some z):w.cell? ⟨W0,i,none⟩=some (.string ⟨⟨z⟩⟩):=by
 rw [Lib.cell_of_heap h]
 simp [hz]
set_option maxHeartbeats 4000000 in
theorem YB(M W0 n0:Nat)(z1 z2:List UInt8)(dQ:Int)(tv rv hv:Value)(nt nr nh:Nat)(ts rs hs:List Value)(w:World)
  (hM:w.heap[M]? =some (.cells #[.int .i64 dQ,tv,rv,hv] 47 (0,0))) (ht:w.ownsRow n0 93 33 tv nt ts) (hr:w.ownsRow n0 95 38 rv nr rs) (hh:w.ownsRow n0 91 32 hv nh hs) (hn0:n0≤w.heap.size) (hnt:nt≤100000) (hM0:M<n0)
  (hW:w.heap[W0]? =some (wQ [lg,z1,z2])) (hMW:W0≠M) (hz1:z1.length≤100000) (hz2:z2.length≤100000):
  Calls Tryz.prog 52 #[.pointer (some ⟨M,0,none⟩),.slice (some ⟨W0,0,none⟩) 3 3] w fun e w'=>e= .returned (.bool true)∧
   dE n0 M w w'∧w'.ownsRow n0 95 38 rv nr rs∧w'.ownsRow n0 91 32 hv nh hs∧∃tv',w'.heap[M]? =some (.cells #[.int .i64 dQ,tv',rv,hv] 47 (0,0))∧w'.ownsRow n0 93 33 tv' (nt+1) (ts++(.string ⟨⟨z1⟩⟩::Ui.row z2 32 0)):=by
 have mixed:=mix
 obtain⟨⟨c0,c1,c2,c3⟩,f0,f1,f2,f3⟩:=cV hM
 have d0:w.cell? ⟨W0,0,none⟩=some (.string ⟨#[116,97,103]⟩):=ft hW (i:=0) rfl
 have hMlt:M<w.heap.size:=az.aB hM
 have hrl:(Ui.row z2 32 0).length=32:=Ui.tK _ _ _
 go_enter Tryz.func52,Tryz.ntmps52
 go_wp2
 have hS:WS W0 W0 (wQ [lg,z1,z2]) (wQ [lg,z1,z2]) w:=⟨hW,hW⟩
 have hSd:WS W0 W0 (wQ [lg,z1,z2]) (wQ [lg,z1,z2]) w.drew:=⟨hW,hW⟩
 have hBM:=hMW
 have hzid:=hz2
 have hC:=dE.refl n0 M w
 have cO:=c1
 have cO':w.drew.cell? ⟨M,1,none⟩=some tv:=c1
 have hrow:(.string ⟨⟨z1⟩⟩::Ui.row z2 32 0:List Value).length=1*33:=by rw [List.length_cons,hrl]
 have hone:∀v∈(.string ⟨⟨z1⟩⟩::Ui.row z2 32 0:List Value),v.oneCell'=true:=fun v hv=>by
  rcases List.mem_cons.1 hv with rfl|hv
  ·rfl
  ·exact Ui.row_one _ _ _ v hv
 refine Rg.EL (WS W0 W0 (wQ [lg,z1,z2]) (wQ [lg,z1,z2])) (by kernel_rfl) ?_
 refine Rg.bE 0 (.pointer (some ⟨M,0,none⟩)) rfl (by kernel_rfl) (by kernel_rfl) (by kernel_rfl) (fun _ _ _ h=>h) rfl hSd (fun w _=>by go_simp) ?_
 refine Rg.bE 1 (.pointer (some ⟨M,0,none⟩)) rfl (by kernel_rfl) (by kernel_rfl) (by kernel_rfl) (fun _ _ _ h=>h) rfl hSd (fun w _=>by go_simp) ?_
 refine Rg.bE 2 (.pointer (some ⟨M,0,none⟩)) rfl (by kernel_rfl) (by kernel_rfl) (by kernel_rfl) (fun _ _ _ h=>h) rfl hSd (fun w _=>by go_simp) ?_
 refine Rg.bE 3 (.pointer (some ⟨M,1,none⟩)) rfl (by kernel_rfl) (by kernel_rfl) (by kernel_rfl) (fun _ _ _ h=>h) rfl hSd (fun w _=>by go_simp) ?_
 refine Rg.bE 4 (.pointer (some ⟨M,1,none⟩)) rfl (by kernel_rfl) (by kernel_rfl) (by kernel_rfl) (fun _ _ _ h=>h) rfl hSd (fun w _=>by go_simp) ?_
 refine Rg.bE 6 (.slice (some ⟨W0,0,none⟩) 3 3) rfl (by kernel_rfl) (by kernel_rfl) (by kernel_rfl) (fun _ _ _ h=>h) rfl hSd (fun w _=>by go_simp) ?_
 refine Rg.bE 7 (.pointer (some ⟨W0,1,none⟩)) rfl (by kernel_rfl) (by kernel_rfl) (by kernel_rfl) (fun _ _ _ h=>h) rfl hSd (fun w _=>by go_simp) ?_
 refine Rg.bE 9 (.slice (some ⟨W0,0,none⟩) 3 3) rfl (by kernel_rfl) (by kernel_rfl) (by kernel_rfl) (fun _ _ _ h=>h) rfl hSd (fun w _=>by go_simp) ?_
 refine Rg.bE 10 (.pointer (some ⟨W0,2,none⟩)) rfl (by kernel_rfl) (by kernel_rfl) (by kernel_rfl) (fun _ _ _ h=>h) rfl hSd (fun w _=>by go_simp) ?_
 refine Rg.bE 8 (.string ⟨⟨z1⟩⟩) rfl (by kernel_rfl) (by kernel_rfl) (by kernel_rfl) (fun _ _ _ h=>h) rfl hSd (fun w hS=>Rg.kv 9 P9 (.tmp 77) rfl ⟨W0,1,none⟩ (by kernel_rfl) _ (ft hS.1 (i:=1) rfl)) ?_
 refine Rg.bE 11 (.string ⟨⟨z2⟩⟩) rfl (by kernel_rfl) (by kernel_rfl) (by kernel_rfl) (fun _ _ _ h=>h) rfl hSd (fun w hS=>Rg.kv 9 P9 (.tmp 80) rfl ⟨W0,2,none⟩ (by kernel_rfl) _ (ft hS.1 (i:=2) rfl)) ?_
 refine Rg.GD 5 12 _ _ (by kernel_rfl) rfl rfl rfl rfl ?_ ?_
 ·refine Rg.qp 39 Mc (.tmp 74) rfl ⟨M,1,none⟩ (by kernel_rfl) tv cO' ⟨hSd,?_⟩
  refine Rg.fI 12 _ (by kernel_rfl) rfl rfl ?_
  refine Rg.sW 86 #[.tmp 81] #[9] rfl #[.string ⟨⟨z2⟩⟩] (by kernel_rfl) yB (Ui.id ⟨⟨z2⟩⟩ hzid _) (fun e w5 h=>?_)
  obtain⟨rfl,b5⟩:=h
  have b5:Below w.heap.size w w5:=b5.nj
  have e5:w5.cell? ⟨M,1,none⟩=some tv:=(b5.cell (p:=⟨M,1,none⟩) hMlt).trans cO
  have hS5:=hS.below b5
  refine⟨_,rfl,hS5,?_⟩
  refine Rg.bE 13 (.agg ⟨.string ⟨⟨z1⟩⟩::Ui.row z2 32 0⟩) rfl (by kernel_rfl) (by kernel_rfl) (by kernel_rfl) (fun _ _ _ h=>h) rfl hS5 (fun w _=>Rg.qo 93 #[(0,.tmp 78),(1,.tmp 82)] rfl #[(0,.string ⟨⟨z1⟩⟩),(1,.agg ⟨Ui.row z2 32 0⟩)] (by kernel_rfl) _ (Q5 ⟨⟨z1⟩⟩ _ hrl w)) ?_
  refine Rg.fI 14 _ (by kernel_rfl) rfl rfl ?_
  refine Rg.bs 39 93 33 Tryz.underlying39 Mf (by decide) (by decide) (.tmp 83) rfl (.string ⟨⟨z1⟩⟩::Ui.row z2 32 0) (by kernel_rfl) hrow ⟨hS5.below ((Below.refl _ w5).alloc (Nat.le_refl _) _),?_⟩
  have b6:=b5.alloc b5.size (.cells ⟨.string ⟨⟨z1⟩⟩::Ui.row z2 32 0⟩ 93)
  have hnw:=Tx.aw w5 (.cells ⟨.string ⟨⟨z1⟩⟩::Ui.row z2 32 0⟩ 93)
  have hS6:=hS.below b6
  have hMs:=(b6.block M hMlt).trans hM
  have ht6:=aE ht b6
  have hr6:=aE hr b6
  have hh6:=aE hh b6
  have hs6:=b6.size
  have hC6:dE n0 M w (w5.alloc (.cells ⟨.string ⟨⟨z1⟩⟩::Ui.row z2 32 0⟩ 93)):=hC.trans (dE.below b6)
  have hCs:=hC.size
  generalize hg:w5.heap.size=g at hnw ⊢
  generalize w5.alloc (.cells ⟨.string ⟨⟨z1⟩⟩::Ui.row z2 32 0⟩ 93)=w6 at*
  refine Rg.fI 15 _ (by kernel_rfl) rfl rfl ?_
  obtain⟨i0,hi0,hz0,hz1,hz2⟩:=info_parts AF
  refine Rg.app (.tmp 75) (.tmp 84) 39 rfl n0 93 i0 _ 33 48 Tryz.underlying39 hi0 hz0 hz1 hz2 (by rfl) (by decide) tv nt _ (by kernel_rfl) ht6 ⟨g,0,none⟩ 1 1 (.string ⟨⟨z1⟩⟩::Ui.row z2 32 0) (by kernel_rfl) hrow (fun k u hk=>?_) hone (by simp only [maxLen];omega) (by omega) (by omega) (fun v' w7 own7 g7=>⟨hS6.grown ht6 g7 (by decide) (by decide),?_⟩)
  ·rw [Lib.add_plain,Nat.zero_add,Lib.cell_of_heap hnw]
   simpa using hk
  have hS7:=hS6.grown ht6 g7 (by decide) (by decide)
  have hr7:=bN (by decide) hr6 ht6 g7
  have hh7:=bN (by decide) hh6 ht6 g7
  have hC7:=hC6.trans (dE.grown (M:=M) (.inr (.inl rfl)) ht6 g7)
  have hM7:=(g7.block M (az.aB hMs) (fun e=>by have:=(da ht6 M e.symm).1;omega)).trans hMs
  obtain⟨g',cap',rfl⟩:=ownsRow_succ own7
  obtain⟨⟨k0,k1,k2,k3⟩,l0,l1,l2,l3⟩:=cV hM7
  refine Rg.bE 16 (.pointer (some ⟨M,0,none⟩)) rfl (by kernel_rfl) (by kernel_rfl) (by kernel_rfl) (fun _ _ _ h=>h) rfl hS7 (fun w _=>by go_simp) ?_
  refine Rg.bE 17 (.pointer (some ⟨M,1,none⟩)) rfl (by kernel_rfl) (by kernel_rfl) (by kernel_rfl) (fun _ _ _ h=>h) rfl hS7 (fun w _=>by go_simp) ?_
  refine Rg.bE 18 (.pointer (some ⟨M,1,none⟩)) rfl (by kernel_rfl) (by kernel_rfl) (by kernel_rfl) (fun _ _ _ h=>h) rfl hS7 (fun w _=>by go_simp) ?_
  refine Rg.fI 19 _ (by kernel_rfl) rfl rfl ?_
  refine Rg.iq 39 Ta (.tmp 88) (.tmp 85) rfl ⟨M,1,none⟩ (by kernel_rfl) (some ⟨g',0,none⟩) (nt+1) cap' (by kernel_rfl) tv k1 l1 ⟨hS7.box hMW hBM _,?_⟩
  have hM8:=Ui.heap_set (i:=1) hM7 (.slice (some ⟨g',0,none⟩) (nt+1) cap')
  refine Rg.yA (by kernel_rfl) ?_
  go_wp2
  go_ret
  refine⟨rfl,hC7.trans (dE.box 1 _),ownsRow_setCell_below hr7 hM0 _,ownsRow_setCell_below hh7 hM0 _,_,hM8,ownsRow_setCell_below own7 hM0 _⟩
 ·refine Rg.sW 86 #[.tmp 81] #[9] rfl #[.string ⟨⟨z2⟩⟩] (by kernel_rfl) yB (Ui.id ⟨⟨z2⟩⟩ hzid _) (fun e w5 h=>?_)
  obtain⟨rfl,b5⟩:=h
  have b5:Below w.heap.size w w5:=b5.nj
  have e5:w5.cell? ⟨M,1,none⟩=some tv:=(b5.cell (p:=⟨M,1,none⟩) hMlt).trans cO
  have hS5:=hS.below b5
  refine⟨_,rfl,hS5,?_⟩
  refine Rg.bE 13 (.agg ⟨.string ⟨⟨z1⟩⟩::Ui.row z2 32 0⟩) rfl (by kernel_rfl) (by kernel_rfl) (by kernel_rfl) (fun _ _ _ h=>h) rfl hS5 (fun w _=>Rg.qo 93 #[(0,.tmp 78),(1,.tmp 82)] rfl #[(0,.string ⟨⟨z1⟩⟩),(1,.agg ⟨Ui.row z2 32 0⟩)] (by kernel_rfl) _ (Q5 ⟨⟨z1⟩⟩ _ hrl w)) ?_
  refine Rg.GD 5 14 _ _ (by kernel_rfl) rfl rfl rfl rfl ?_ ?_
  ·refine Rg.qp 39 Mc (.tmp 74) rfl ⟨M,1,none⟩ (by kernel_rfl) tv e5 ⟨hS5,?_⟩
   refine Rg.fI 14 _ (by kernel_rfl) rfl rfl ?_
   refine Rg.bs 39 93 33 Tryz.underlying39 Mf (by decide) (by decide) (.tmp 83) rfl (.string ⟨⟨z1⟩⟩::Ui.row z2 32 0) (by kernel_rfl) hrow ⟨hS5.below ((Below.refl _ w5).alloc (Nat.le_refl _) _),?_⟩
   have b6:=b5.alloc b5.size (.cells ⟨.string ⟨⟨z1⟩⟩::Ui.row z2 32 0⟩ 93)
   have hnw:=Tx.aw w5 (.cells ⟨.string ⟨⟨z1⟩⟩::Ui.row z2 32 0⟩ 93)
   have hS6:=hS.below b6
   have hMs:=(b6.block M hMlt).trans hM
   have ht6:=aE ht b6
   have hr6:=aE hr b6
   have hh6:=aE hh b6
   have hs6:=b6.size
   have hC6:dE n0 M w (w5.alloc (.cells ⟨.string ⟨⟨z1⟩⟩::Ui.row z2 32 0⟩ 93)):=hC.trans (dE.below b6)
   have hCs:=hC.size
   generalize hg:w5.heap.size=g at hnw ⊢
   generalize w5.alloc (.cells ⟨.string ⟨⟨z1⟩⟩::Ui.row z2 32 0⟩ 93)=w6 at*
   refine Rg.fI 15 _ (by kernel_rfl) rfl rfl ?_
   obtain⟨i0,hi0,hz0,hz1,hz2⟩:=info_parts AF
   refine Rg.app (.tmp 75) (.tmp 84) 39 rfl n0 93 i0 _ 33 48 Tryz.underlying39 hi0 hz0 hz1 hz2 (by rfl) (by decide) tv nt _ (by kernel_rfl) ht6 ⟨g,0,none⟩ 1 1 (.string ⟨⟨z1⟩⟩::Ui.row z2 32 0) (by kernel_rfl) hrow (fun k u hk=>?_) hone (by simp only [maxLen];omega) (by omega) (by omega) (fun v' w7 own7 g7=>⟨hS6.grown ht6 g7 (by decide) (by decide),?_⟩)
   ·rw [Lib.add_plain,Nat.zero_add,Lib.cell_of_heap hnw]
    simpa using hk
   have hS7:=hS6.grown ht6 g7 (by decide) (by decide)
   have hr7:=bN (by decide) hr6 ht6 g7
   have hh7:=bN (by decide) hh6 ht6 g7
   have hC7:=hC6.trans (dE.grown (M:=M) (.inr (.inl rfl)) ht6 g7)
   have hM7:=(g7.block M (az.aB hMs) (fun e=>by have:=(da ht6 M e.symm).1;omega)).trans hMs
   obtain⟨g',cap',rfl⟩:=ownsRow_succ own7
   obtain⟨⟨k0,k1,k2,k3⟩,l0,l1,l2,l3⟩:=cV hM7
   refine Rg.bE 16 (.pointer (some ⟨M,0,none⟩)) rfl (by kernel_rfl) (by kernel_rfl) (by kernel_rfl) (fun _ _ _ h=>h) rfl hS7 (fun w _=>by go_simp) ?_
   refine Rg.bE 17 (.pointer (some ⟨M,1,none⟩)) rfl (by kernel_rfl) (by kernel_rfl) (by kernel_rfl) (fun _ _ _ h=>h) rfl hS7 (fun w _=>by go_simp) ?_
   refine Rg.bE 18 (.pointer (some ⟨M,1,none⟩)) rfl (by kernel_rfl) (by kernel_rfl) (by kernel_rfl) (fun _ _ _ h=>h) rfl hS7 (fun w _=>by go_simp) ?_
   refine Rg.fI 19 _ (by kernel_rfl) rfl rfl ?_
   refine Rg.iq 39 Ta (.tmp 88) (.tmp 85) rfl ⟨M,1,none⟩ (by kernel_rfl) (some ⟨g',0,none⟩) (nt+1) cap' (by kernel_rfl) tv k1 l1 ⟨hS7.box hMW hBM _,?_⟩
   have hM8:=Ui.heap_set (i:=1) hM7 (.slice (some ⟨g',0,none⟩) (nt+1) cap')
   refine Rg.yA (by kernel_rfl) ?_
   go_wp2
   go_ret
   refine⟨rfl,hC7.trans (dE.box 1 _),ownsRow_setCell_below hr7 hM0 _,ownsRow_setCell_below hh7 hM0 _,_,hM8,ownsRow_setCell_below own7 hM0 _⟩
  ·refine Rg.bs 39 93 33 Tryz.underlying39 Mf (by decide) (by decide) (.tmp 83) rfl (.string ⟨⟨z1⟩⟩::Ui.row z2 32 0) (by kernel_rfl) hrow ⟨hS5.below ((Below.refl _ w5).alloc (Nat.le_refl _) _),?_⟩
   refine Rg.fI 5 _ (by kernel_rfl) rfl rfl ?_
   refine Rg.qp 39 Mc (.tmp 74) rfl ⟨M,1,none⟩ (by kernel_rfl) tv ((((Below.refl _ w5).alloc (Nat.le_refl _) _).cell (p:=⟨M,1,none⟩) (Nat.lt_of_lt_of_le hMlt b5.size)).trans e5) ⟨(hS5.below ((Below.refl _ w5).alloc (Nat.le_refl _) _)),?_⟩
   have b6:=b5.alloc b5.size (.cells ⟨.string ⟨⟨z1⟩⟩::Ui.row z2 32 0⟩ 93)
   have hnw:=Tx.aw w5 (.cells ⟨.string ⟨⟨z1⟩⟩::Ui.row z2 32 0⟩ 93)
   have hS6:=hS.below b6
   have hMs:=(b6.block M hMlt).trans hM
   have ht6:=aE ht b6
   have hr6:=aE hr b6
   have hh6:=aE hh b6
   have hs6:=b6.size
   have hC6:dE n0 M w (w5.alloc (.cells ⟨.string ⟨⟨z1⟩⟩::Ui.row z2 32 0⟩ 93)):=hC.trans (dE.below b6)
   have hCs:=hC.size
   generalize hg:w5.heap.size=g at hnw ⊢
   generalize w5.alloc (.cells ⟨.string ⟨⟨z1⟩⟩::Ui.row z2 32 0⟩ 93)=w6 at*
   refine Rg.fI 15 _ (by kernel_rfl) rfl rfl ?_
   obtain⟨i0,hi0,hz0,hz1,hz2⟩:=info_parts AF
   refine Rg.app (.tmp 75) (.tmp 84) 39 rfl n0 93 i0 _ 33 48 Tryz.underlying39 hi0 hz0 hz1 hz2 (by rfl) (by decide) tv nt _ (by kernel_rfl) ht6 ⟨g,0,none⟩ 1 1 (.string ⟨⟨z1⟩⟩::Ui.row z2 32 0) (by kernel_rfl) hrow (fun k u hk=>?_) hone (by simp only [maxLen];omega) (by omega) (by omega) (fun v' w7 own7 g7=>⟨hS6.grown ht6 g7 (by decide) (by decide),?_⟩)
   ·rw [Lib.add_plain,Nat.zero_add,Lib.cell_of_heap hnw]
    simpa using hk
   have hS7:=hS6.grown ht6 g7 (by decide) (by decide)
   have hr7:=bN (by decide) hr6 ht6 g7
   have hh7:=bN (by decide) hh6 ht6 g7
   have hC7:=hC6.trans (dE.grown (M:=M) (.inr (.inl rfl)) ht6 g7)
   have hM7:=(g7.block M (az.aB hMs) (fun e=>by have:=(da ht6 M e.symm).1;omega)).trans hMs
   obtain⟨g',cap',rfl⟩:=ownsRow_succ own7
   obtain⟨⟨k0,k1,k2,k3⟩,l0,l1,l2,l3⟩:=cV hM7
   refine Rg.bE 16 (.pointer (some ⟨M,0,none⟩)) rfl (by kernel_rfl) (by kernel_rfl) (by kernel_rfl) (fun _ _ _ h=>h) rfl hS7 (fun w _=>by go_simp) ?_
   refine Rg.bE 17 (.pointer (some ⟨M,1,none⟩)) rfl (by kernel_rfl) (by kernel_rfl) (by kernel_rfl) (fun _ _ _ h=>h) rfl hS7 (fun w _=>by go_simp) ?_
   refine Rg.bE 18 (.pointer (some ⟨M,1,none⟩)) rfl (by kernel_rfl) (by kernel_rfl) (by kernel_rfl) (fun _ _ _ h=>h) rfl hS7 (fun w _=>by go_simp) ?_
   refine Rg.fI 19 _ (by kernel_rfl) rfl rfl ?_
   refine Rg.iq 39 Ta (.tmp 88) (.tmp 85) rfl ⟨M,1,none⟩ (by kernel_rfl) (some ⟨g',0,none⟩) (nt+1) cap' (by kernel_rfl) tv k1 l1 ⟨hS7.box hMW hBM _,?_⟩
   have hM8:=Ui.heap_set (i:=1) hM7 (.slice (some ⟨g',0,none⟩) (nt+1) cap')
   refine Rg.yA (by kernel_rfl) ?_
   go_wp2
   go_ret
   refine⟨rfl,hC7.trans (dE.box 1 _),ownsRow_setCell_below hr7 hM0 _,ownsRow_setCell_below hh7 hM0 _,_,hM8,ownsRow_setCell_below own7 hM0 _⟩
set_option maxHeartbeats 8000000 in
theorem YC(M W0 n0:Nat)(z1 z2 z3 z4:List UInt8)(dQ:Int)(tv rv hv:Value)(nt nr nh:Nat)(ts rs hs:List Value)(w:World)
  (hM:w.heap[M]? =some (.cells #[.int .i64 dQ,tv,rv,hv] 47 (0,0))) (ht:w.ownsRow n0 93 33 tv nt ts) (hr:w.ownsRow n0 95 38 rv nr rs) (hh:w.ownsRow n0 91 32 hv nh hs) (hn0:n0≤w.heap.size) (hnr:nr≤100000) (hM0:M<n0)
  (hW:w.heap[W0]? =some (wQ [nz,z1,z2,z3,z4])) (hMW:W0≠M) (hz4:z4.length≤100000) (k m b:Int) (l:ByteArray) (V:List Value) (hV:V=[.int .u8 k,.int .i64 m,.int .u64 b,.string l]) (rr:Int) (u:Int) (pb:Bool) (hv0:cZ w)
  (hread:∀w',cZ w'→Calls Tryz.prog 8 #[.string ⟨⟨z2⟩⟩] w' fun e w''=>e= .returned (.tuple #[.agg ⟨V⟩,.int .i64 rr])∧Below w'.heap.size w' w'')
  (hpu:∀w',cZ w'→Calls Tryz.prog 26 #[.string ⟨⟨z3⟩⟩,.int .i64 10,.int .i64 64] w' fun e w''=>(∃ev,e= .returned (.tuple #[.int .u64 u,ev])∧(pb=true∧ev= .nilIface∨pb=false∧∃p,ev= .iface 160 (.pointer p)))∧Below w'.heap.size w' w''):
  Calls Tryz.prog 52 #[.pointer (some ⟨M,0,none⟩),.slice (some ⟨W0,0,none⟩) 5 5] w fun e w'=>e= .returned (.bool (decide (rr=0)&&pb))∧
   dE n0 M w w'∧w'.ownsRow n0 93 33 tv nt ts∧w'.ownsRow n0 91 32 hv nh hs∧∃rv',w'.heap[M]? =some (.cells #[.int .i64 dQ,tv,rv',hv] 47 (0,0))∧w'.ownsRow n0 95 38 rv' (nr+1) (rs++(.string ⟨⟨z1⟩⟩::(V++ .int .u64 u::Ui.row z4 32 0))):=by
 have mixed:=mix
 obtain⟨⟨c0,c1,c2,c3⟩,f0,f1,f2,f3⟩:=cV hM
 have d0:w.cell? ⟨W0,0,none⟩=some (.string ⟨#[114,101,103]⟩):=ft hW (i:=0) rfl
 have d2:w.cell? ⟨W0,2,none⟩=some (.string ⟨⟨z2⟩⟩):=ft hW (i:=2) rfl
 have d3:w.cell? ⟨W0,3,none⟩=some (.string ⟨⟨z3⟩⟩):=ft hW (i:=3) rfl
 have hMlt:M<w.heap.size:=az.aB hM
 have hW0lt:W0<w.heap.size:=az.aB hW
 have hrl:(Ui.row z4 32 0).length=32:=Ui.tK _ _ _
 have hVl:V.length=4:=by rw [hV];rfl
 have hVo:∀v∈V,v.oneCell'=true:=by
  rw [hV]
  intro v hv
  simp at hv
  rcases hv with rfl|rfl|rfl|rfl<;>rfl
 clear hV
 go_enter Tryz.func52,Tryz.ntmps52
 go_wp2_with (go_at_call 8;refine(hread _ hv0).mono ?_)
 rintro e wa ⟨rfl,ba⟩
 have hva:=hv0.below ba
 have d3:wa.cell? ⟨W0,3,none⟩=some (.string ⟨⟨z3⟩⟩):=(ba.cell (p:=⟨W0,3,none⟩) hW0lt).trans d3
 have b9:=(Below.refl wa.heap.size wa).alloc (Nat.le_refl _) (.cells ⟨V⟩ 24)
 have d3':(wa.alloc (.cells ⟨V⟩ 24)).cell? ⟨W0,3,none⟩=some (.string ⟨⟨z3⟩⟩):=(b9.cell (p:=⟨W0,3,none⟩) (Nat.lt_of_lt_of_le hW0lt ba.size)).trans d3
 go_wp2_with (first
  |(refine Bg.qg 24 4 WW rfl _ _ rfl ?t5 ?t6 V ?t8 hVl hVo ?t15;(case t5=>rfl);(case t6=>rfl);(case t8=>rfl))
  |(go_at_call 26;refine(hpu _ (hva.below ((Below.refl _ wa).alloc (Nat.le_refl _) _))).mono ?_))
 rintro e w1 ⟨⟨ev,rfl,hev⟩,bb⟩
 obtain⟨B9,hB9⟩:∃B9,B9=wa.heap.size:=⟨_,rfl⟩
 have h9:w1.heap[B9]? =some (.cells ⟨V⟩ 24 (0,0)):=by
  rw [hB9,bb.block _ (by simp)]
  exact Tx.aw _ _
 rw [←hB9]
 have b1:Below w.heap.size w w1:=ba.trans ((b9.trans (bb.mono b9.size)).mono ba.size)
 have hB9w:w.heap.size≤B9:=by rw [hB9];exact ba.size
 clear hB9 b9 bb
 have hM:=(b1.block M hMlt).trans hM
 have ht:=aE ht b1
 have hr:=aE hr b1
 have hh:=aE hh b1
 have hC:dE n0 M w w1:=dE.below b1
 have hW1:=(b1.block W0 hW0lt).trans hW
 have hBM:B9≠M:=by omega
 have hMlt:M<w1.heap.size:=Nat.lt_of_lt_of_le hMlt b1.size
 obtain⟨⟨c0,c1,c2,c3⟩,f0,f1,f2,f3⟩:=cV hM
 have cO:=c2
 have cO':w1.drew.cell? ⟨M,2,none⟩=some rv:=c2
 have hS:WS W0 B9 (wQ [nz,z1,z2,z3,z4]) (.cells ⟨V⟩ 24 (0,0)) w1:=⟨hW1,h9⟩
 have hSd:WS W0 B9 (wQ [nz,z1,z2,z3,z4]) (.cells ⟨V⟩ 24 (0,0)) w1.drew:=⟨hW1,h9⟩
 have hzid:=hz4
 have hrow:(.string ⟨⟨z1⟩⟩::(V++ .int .u64 u::Ui.row z4 32 0):List Value).length=1*38:=by rw [List.length_cons,List.length_append,List.length_cons,hrl,hVl]
 have hone:∀v∈(.string ⟨⟨z1⟩⟩::(V++ .int .u64 u::Ui.row z4 32 0):List Value),v.oneCell'=true:=fun v hv=>by
  rcases List.mem_cons.1 hv with rfl|hv
  ·rfl
  ·rcases List.mem_append.1 hv with hv|hv
   ·exact hVo v hv
   ·rcases List.mem_cons.1 hv with rfl|hv
    ·rfl
    ·exact Ui.row_one _ _ _ v hv
 go_wp2
 refine Rg.EL (WS W0 B9 (wQ [nz,z1,z2,z3,z4]) (.cells ⟨V⟩ 24 (0,0))) (by kernel_rfl) ?_
 refine Rg.bE 0 (.pointer (some ⟨M,0,none⟩)) rfl (by kernel_rfl) (by kernel_rfl) (by kernel_rfl) (fun _ _ _ h=>h) rfl hSd (fun w _=>by go_simp) ?_
 refine Rg.bE 1 (.pointer (some ⟨M,0,none⟩)) rfl (by kernel_rfl) (by kernel_rfl) (by kernel_rfl) (fun _ _ _ h=>h) rfl hSd (fun w _=>by go_simp) ?_
 refine Rg.bE 2 (.pointer (some ⟨M,0,none⟩)) rfl (by kernel_rfl) (by kernel_rfl) (by kernel_rfl) (fun _ _ _ h=>h) rfl hSd (fun w _=>by go_simp) ?_
 refine Rg.bE 3 (.pointer (some ⟨M,2,none⟩)) rfl (by kernel_rfl) (by kernel_rfl) (by kernel_rfl) (fun _ _ _ h=>h) rfl hSd (fun w _=>by go_simp) ?_
 refine Rg.bE 4 (.pointer (some ⟨M,2,none⟩)) rfl (by kernel_rfl) (by kernel_rfl) (by kernel_rfl) (fun _ _ _ h=>h) rfl hSd (fun w _=>by go_simp) ?_
 refine Rg.bE 6 (.slice (some ⟨W0,0,none⟩) 5 5) rfl (by kernel_rfl) (by kernel_rfl) (by kernel_rfl) (fun _ _ _ h=>h) rfl hSd (fun w _=>by go_simp) ?_
 refine Rg.bE 7 (.pointer (some ⟨W0,1,none⟩)) rfl (by kernel_rfl) (by kernel_rfl) (by kernel_rfl) (fun _ _ _ h=>h) rfl hSd (fun w _=>by go_simp) ?_
 refine Rg.bE 10 (.int .u64 u) rfl (by kernel_rfl) (by kernel_rfl) (by kernel_rfl) (fun _ _ _ h=>h) rfl hSd (fun w _=>by go_simp) ?_
 refine Rg.bE 11 (.slice (some ⟨W0,0,none⟩) 5 5) rfl (by kernel_rfl) (by kernel_rfl) (by kernel_rfl) (fun _ _ _ h=>h) rfl hSd (fun w _=>by go_simp) ?_
 refine Rg.bE 12 (.pointer (some ⟨W0,4,none⟩)) rfl (by kernel_rfl) (by kernel_rfl) (by kernel_rfl) (fun _ _ _ h=>h) rfl hSd (fun w _=>by go_simp) ?_
 refine Rg.bE 8 (.string ⟨⟨z1⟩⟩) rfl (by kernel_rfl) (by kernel_rfl) (by kernel_rfl) (fun _ _ _ h=>h) rfl hSd (fun w hS=>Rg.kv 9 P9 (.tmp 120) rfl ⟨W0,1,none⟩ (by kernel_rfl) _ (ft hS.1 (i:=1) rfl)) ?_
 refine Rg.bE 9 (.agg ⟨V⟩) rfl (by kernel_rfl) (by kernel_rfl) (by kernel_rfl) (fun _ _ _ h=>h) rfl hSd (fun w hS=>Rg.wu 24 4 WW (.tmp 9) rfl ⟨B9,0,none⟩ (by kernel_rfl) V hVl (fun k v hk=>by rw [Lib.add_plain,Nat.zero_add,Lib.cell_of_heap hS.2];simpa using hk)) ?_
 refine Rg.bE 13 (.string ⟨⟨z4⟩⟩) rfl (by kernel_rfl) (by kernel_rfl) (by kernel_rfl) (fun _ _ _ h=>h) rfl hSd (fun w hS=>Rg.kv 9 P9 (.tmp 125) rfl ⟨W0,4,none⟩ (by kernel_rfl) _ (ft hS.1 (i:=4) rfl)) ?_
 refine Rg.GD 5 14 _ _ (by kernel_rfl) rfl rfl rfl rfl ?_ ?_
 ·refine Rg.qp 42 Md (.tmp 117) rfl ⟨M,2,none⟩ (by kernel_rfl) rv cO' ⟨hSd,?_⟩
  refine Rg.fI 14 _ (by kernel_rfl) rfl rfl ?_
  refine Rg.sW 86 #[.tmp 126] #[9] rfl #[.string ⟨⟨z4⟩⟩] (by kernel_rfl) yB (Ui.id ⟨⟨z4⟩⟩ hzid _) (fun e w5 h=>?_)
  obtain⟨rfl,b5⟩:=h
  have b5:Below w1.heap.size w1 w5:=b5.nj
  have e5:w5.cell? ⟨M,2,none⟩=some rv:=(b5.cell (p:=⟨M,2,none⟩) hMlt).trans cO
  have hS5:=hS.below b5
  refine⟨_,rfl,hS5,?_⟩
  refine Rg.bE 15 (.agg ⟨.string ⟨⟨z1⟩⟩::(V++ .int .u64 u::Ui.row z4 32 0)⟩) rfl (by kernel_rfl) (by kernel_rfl) (by kernel_rfl) (fun _ _ _ h=>h) rfl hS5 (fun w _=>Rg.qo 95 #[(0,.tmp 121),(1,.tmp 122),(2,.tmp 123),(3,.tmp 127)] rfl #[(0,.string ⟨⟨z1⟩⟩),(1,.agg ⟨V⟩),(2,.int .u64 u),(3,.agg ⟨Ui.row z4 32 0⟩)] (by kernel_rfl) _ (Q6 ⟨⟨z1⟩⟩ _ hVl u _ hrl w)) ?_
  refine Rg.fI 16 _ (by kernel_rfl) rfl rfl ?_
  refine Rg.bs 42 95 38 Tryz.underlying42 Mg (by decide) (by decide) (.tmp 128) rfl (.string ⟨⟨z1⟩⟩::(V++ .int .u64 u::Ui.row z4 32 0)) (by kernel_rfl) hrow ⟨hS5.below ((Below.refl _ w5).alloc (Nat.le_refl _) _),?_⟩
  have b6:=b5.alloc b5.size (.cells ⟨.string ⟨⟨z1⟩⟩::(V++ .int .u64 u::Ui.row z4 32 0)⟩ 95)
  have hnw:=Tx.aw w5 (.cells ⟨.string ⟨⟨z1⟩⟩::(V++ .int .u64 u::Ui.row z4 32 0)⟩ 95)
  have hS6:=hS.below b6
  have hMs:=(b6.block M hMlt).trans hM
  have ht6:=aE ht b6
  have hr6:=aE hr b6
  have hh6:=aE hh b6
  have hs6:=b6.size
  have hC6:dE n0 M w (w5.alloc (.cells ⟨.string ⟨⟨z1⟩⟩::(V++ .int .u64 u::Ui.row z4 32 0)⟩ 95)):=hC.trans (dE.below b6)
  have hCs:=hC.size
  generalize hg:w5.heap.size=g at hnw ⊢
  generalize w5.alloc (.cells ⟨.string ⟨⟨z1⟩⟩::(V++ .int .u64 u::Ui.row z4 32 0)⟩ 95)=w6 at*
  refine Rg.fI 17 _ (by kernel_rfl) rfl rfl ?_
  obtain⟨i0,hi0,hz0,hz1,hz2⟩:=info_parts AG
  refine Rg.app (.tmp 118) (.tmp 129) 42 rfl n0 95 i0 _ 38 96 Tryz.underlying42 hi0 hz0 hz1 hz2 (by rfl) (by decide) rv nr _ (by kernel_rfl) hr6 ⟨g,0,none⟩ 1 1 (.string ⟨⟨z1⟩⟩::(V++ .int .u64 u::Ui.row z4 32 0)) (by kernel_rfl) hrow (fun k u hk=>?_) hone (by simp only [maxLen];omega) (by omega) (by omega) (fun v' w7 own7 g7=>⟨hS6.grown hr6 g7 (by decide) (by decide),?_⟩)
  ·rw [Lib.add_plain,Nat.zero_add,Lib.cell_of_heap hnw]
   simpa using hk
  have hS7:=hS6.grown hr6 g7 (by decide) (by decide)
  have ht7:=bN (by decide) ht6 hr6 g7
  have hh7:=bN (by decide) hh6 hr6 g7
  have hC7:=hC6.trans (dE.grown (M:=M) (.inr (.inr rfl)) hr6 g7)
  have hM7:=(g7.block M (az.aB hMs) (fun e=>by have:=(da hr6 M e.symm).1;omega)).trans hMs
  obtain⟨g',cap',rfl⟩:=ownsRow_succ own7
  obtain⟨⟨k0,k1,k2,k3⟩,l0,l1,l2,l3⟩:=cV hM7
  refine Rg.bE 18 (.pointer (some ⟨M,0,none⟩)) rfl (by kernel_rfl) (by kernel_rfl) (by kernel_rfl) (fun _ _ _ h=>h) rfl hS7 (fun w _=>by go_simp) ?_
  refine Rg.bE 19 (.pointer (some ⟨M,2,none⟩)) rfl (by kernel_rfl) (by kernel_rfl) (by kernel_rfl) (fun _ _ _ h=>h) rfl hS7 (fun w _=>by go_simp) ?_
  refine Rg.bE 20 (.pointer (some ⟨M,2,none⟩)) rfl (by kernel_rfl) (by kernel_rfl) (by kernel_rfl) (fun _ _ _ h=>h) rfl hS7 (fun w _=>by go_simp) ?_
  refine Rg.fI 21 _ (by kernel_rfl) rfl rfl ?_
  refine Rg.iq 42 Tc (.tmp 133) (.tmp 130) rfl ⟨M,2,none⟩ (by kernel_rfl) (some ⟨g',0,none⟩) (nr+1) cap' (by kernel_rfl) rv k2 l2 ⟨hS7.box hMW hBM _,?_⟩
  have hM8:=Ui.heap_set (i:=2) hM7 (.slice (some ⟨g',0,none⟩) (nr+1) cap')
  refine Rg.yA (by kernel_rfl) ?_
  rcases hev with⟨hpb,rfl⟩|⟨hpb,p,rfl⟩
  ·by_cases hrr:rr=0
   ·subst hrr;go_wp2;go_ret;exact⟨rfl,hC7.trans (dE.box 2 _),ownsRow_setCell_below ht7 hM0 _,ownsRow_setCell_below hh7 hM0 _,_,hM8,ownsRow_setCell_below own7 hM0 _⟩
   ·go_wp2;go_ret;exact⟨by rw [hpb];simp [hrr],hC7.trans (dE.box 2 _),ownsRow_setCell_below ht7 hM0 _,ownsRow_setCell_below hh7 hM0 _,_,hM8,ownsRow_setCell_below own7 hM0 _⟩
  ·by_cases hrr:rr=0
   ·subst hrr;go_wp2;go_ret;exact⟨rfl,hC7.trans (dE.box 2 _),ownsRow_setCell_below ht7 hM0 _,ownsRow_setCell_below hh7 hM0 _,_,hM8,ownsRow_setCell_below own7 hM0 _⟩
   ·go_wp2;go_ret;exact⟨by rw [hpb];simp [hrr],hC7.trans (dE.box 2 _),ownsRow_setCell_below ht7 hM0 _,ownsRow_setCell_below hh7 hM0 _,_,hM8,ownsRow_setCell_below own7 hM0 _⟩
 ·refine Rg.sW 86 #[.tmp 126] #[9] rfl #[.string ⟨⟨z4⟩⟩] (by kernel_rfl) yB (Ui.id ⟨⟨z4⟩⟩ hzid _) (fun e w5 h=>?_)
  obtain⟨rfl,b5⟩:=h
  have b5:Below w1.heap.size w1 w5:=b5.nj
  have e5:w5.cell? ⟨M,2,none⟩=some rv:=(b5.cell (p:=⟨M,2,none⟩) hMlt).trans cO
  have hS5:=hS.below b5
  refine⟨_,rfl,hS5,?_⟩
  refine Rg.bE 15 (.agg ⟨.string ⟨⟨z1⟩⟩::(V++ .int .u64 u::Ui.row z4 32 0)⟩) rfl (by kernel_rfl) (by kernel_rfl) (by kernel_rfl) (fun _ _ _ h=>h) rfl hS5 (fun w _=>Rg.qo 95 #[(0,.tmp 121),(1,.tmp 122),(2,.tmp 123),(3,.tmp 127)] rfl #[(0,.string ⟨⟨z1⟩⟩),(1,.agg ⟨V⟩),(2,.int .u64 u),(3,.agg ⟨Ui.row z4 32 0⟩)] (by kernel_rfl) _ (Q6 ⟨⟨z1⟩⟩ _ hVl u _ hrl w)) ?_
  refine Rg.GD 5 16 _ _ (by kernel_rfl) rfl rfl rfl rfl ?_ ?_
  ·refine Rg.qp 42 Md (.tmp 117) rfl ⟨M,2,none⟩ (by kernel_rfl) rv e5 ⟨hS5,?_⟩
   refine Rg.fI 16 _ (by kernel_rfl) rfl rfl ?_
   refine Rg.bs 42 95 38 Tryz.underlying42 Mg (by decide) (by decide) (.tmp 128) rfl (.string ⟨⟨z1⟩⟩::(V++ .int .u64 u::Ui.row z4 32 0)) (by kernel_rfl) hrow ⟨hS5.below ((Below.refl _ w5).alloc (Nat.le_refl _) _),?_⟩
   have b6:=b5.alloc b5.size (.cells ⟨.string ⟨⟨z1⟩⟩::(V++ .int .u64 u::Ui.row z4 32 0)⟩ 95)
   have hnw:=Tx.aw w5 (.cells ⟨.string ⟨⟨z1⟩⟩::(V++ .int .u64 u::Ui.row z4 32 0)⟩ 95)
   have hS6:=hS.below b6
   have hMs:=(b6.block M hMlt).trans hM
   have ht6:=aE ht b6
   have hr6:=aE hr b6
   have hh6:=aE hh b6
   have hs6:=b6.size
   have hC6:dE n0 M w (w5.alloc (.cells ⟨.string ⟨⟨z1⟩⟩::(V++ .int .u64 u::Ui.row z4 32 0)⟩ 95)):=hC.trans (dE.below b6)
   have hCs:=hC.size
   generalize hg:w5.heap.size=g at hnw ⊢
   generalize w5.alloc (.cells ⟨.string ⟨⟨z1⟩⟩::(V++ .int .u64 u::Ui.row z4 32 0)⟩ 95)=w6 at*
   refine Rg.fI 17 _ (by kernel_rfl) rfl rfl ?_
   obtain⟨i0,hi0,hz0,hz1,hz2⟩:=info_parts AG
   refine Rg.app (.tmp 118) (.tmp 129) 42 rfl n0 95 i0 _ 38 96 Tryz.underlying42 hi0 hz0 hz1 hz2 (by rfl) (by decide) rv nr _ (by kernel_rfl) hr6 ⟨g,0,none⟩ 1 1 (.string ⟨⟨z1⟩⟩::(V++ .int .u64 u::Ui.row z4 32 0)) (by kernel_rfl) hrow (fun k u hk=>?_) hone (by simp only [maxLen];omega) (by omega) (by omega) (fun v' w7 own7 g7=>⟨hS6.grown hr6 g7 (by decide) (by decide),?_⟩)
   ·rw [Lib.add_plain,Nat.zero_add,Lib.cell_of_heap hnw]
    simpa using hk
   have hS7:=hS6.grown hr6 g7 (by decide) (by decide)
   have ht7:=bN (by decide) ht6 hr6 g7
   have hh7:=bN (by decide) hh6 hr6 g7
   have hC7:=hC6.trans (dE.grown (M:=M) (.inr (.inr rfl)) hr6 g7)
   have hM7:=(g7.block M (az.aB hMs) (fun e=>by have:=(da hr6 M e.symm).1;omega)).trans hMs
   obtain⟨g',cap',rfl⟩:=ownsRow_succ own7
   obtain⟨⟨k0,k1,k2,k3⟩,l0,l1,l2,l3⟩:=cV hM7
   refine Rg.bE 18 (.pointer (some ⟨M,0,none⟩)) rfl (by kernel_rfl) (by kernel_rfl) (by kernel_rfl) (fun _ _ _ h=>h) rfl hS7 (fun w _=>by go_simp) ?_
   refine Rg.bE 19 (.pointer (some ⟨M,2,none⟩)) rfl (by kernel_rfl) (by kernel_rfl) (by kernel_rfl) (fun _ _ _ h=>h) rfl hS7 (fun w _=>by go_simp) ?_
   refine Rg.bE 20 (.pointer (some ⟨M,2,none⟩)) rfl (by kernel_rfl) (by kernel_rfl) (by kernel_rfl) (fun _ _ _ h=>h) rfl hS7 (fun w _=>by go_simp) ?_
   refine Rg.fI 21 _ (by kernel_rfl) rfl rfl ?_
   refine Rg.iq 42 Tc (.tmp 133) (.tmp 130) rfl ⟨M,2,none⟩ (by kernel_rfl) (some ⟨g',0,none⟩) (nr+1) cap' (by kernel_rfl) rv k2 l2 ⟨hS7.box hMW hBM _,?_⟩
   have hM8:=Ui.heap_set (i:=2) hM7 (.slice (some ⟨g',0,none⟩) (nr+1) cap')
   refine Rg.yA (by kernel_rfl) ?_
   rcases hev with⟨hpb,rfl⟩|⟨hpb,p,rfl⟩
   ·by_cases hrr:rr=0
    ·subst hrr;go_wp2;go_ret;exact⟨rfl,hC7.trans (dE.box 2 _),ownsRow_setCell_below ht7 hM0 _,ownsRow_setCell_below hh7 hM0 _,_,hM8,ownsRow_setCell_below own7 hM0 _⟩
    ·go_wp2;go_ret;exact⟨by rw [hpb];simp [hrr],hC7.trans (dE.box 2 _),ownsRow_setCell_below ht7 hM0 _,ownsRow_setCell_below hh7 hM0 _,_,hM8,ownsRow_setCell_below own7 hM0 _⟩
   ·by_cases hrr:rr=0
    ·subst hrr;go_wp2;go_ret;exact⟨rfl,hC7.trans (dE.box 2 _),ownsRow_setCell_below ht7 hM0 _,ownsRow_setCell_below hh7 hM0 _,_,hM8,ownsRow_setCell_below own7 hM0 _⟩
    ·go_wp2;go_ret;exact⟨by rw [hpb];simp [hrr],hC7.trans (dE.box 2 _),ownsRow_setCell_below ht7 hM0 _,ownsRow_setCell_below hh7 hM0 _,_,hM8,ownsRow_setCell_below own7 hM0 _⟩
  ·refine Rg.bs 42 95 38 Tryz.underlying42 Mg (by decide) (by decide) (.tmp 128) rfl (.string ⟨⟨z1⟩⟩::(V++ .int .u64 u::Ui.row z4 32 0)) (by kernel_rfl) hrow ⟨hS5.below ((Below.refl _ w5).alloc (Nat.le_refl _) _),?_⟩
   refine Rg.fI 5 _ (by kernel_rfl) rfl rfl ?_
   refine Rg.qp 42 Md (.tmp 117) rfl ⟨M,2,none⟩ (by kernel_rfl) rv ((((Below.refl _ w5).alloc (Nat.le_refl _) _).cell (p:=⟨M,2,none⟩) (Nat.lt_of_lt_of_le hMlt b5.size)).trans e5) ⟨(hS5.below ((Below.refl _ w5).alloc (Nat.le_refl _) _)),?_⟩
   have b6:=b5.alloc b5.size (.cells ⟨.string ⟨⟨z1⟩⟩::(V++ .int .u64 u::Ui.row z4 32 0)⟩ 95)
   have hnw:=Tx.aw w5 (.cells ⟨.string ⟨⟨z1⟩⟩::(V++ .int .u64 u::Ui.row z4 32 0)⟩ 95)
   have hS6:=hS.below b6
   have hMs:=(b6.block M hMlt).trans hM
   have ht6:=aE ht b6
   have hr6:=aE hr b6
   have hh6:=aE hh b6
   have hs6:=b6.size
   have hC6:dE n0 M w (w5.alloc (.cells ⟨.string ⟨⟨z1⟩⟩::(V++ .int .u64 u::Ui.row z4 32 0)⟩ 95)):=hC.trans (dE.below b6)
   have hCs:=hC.size
   generalize hg:w5.heap.size=g at hnw ⊢
   generalize w5.alloc (.cells ⟨.string ⟨⟨z1⟩⟩::(V++ .int .u64 u::Ui.row z4 32 0)⟩ 95)=w6 at*
   refine Rg.fI 17 _ (by kernel_rfl) rfl rfl ?_
   obtain⟨i0,hi0,hz0,hz1,hz2⟩:=info_parts AG
   refine Rg.app (.tmp 118) (.tmp 129) 42 rfl n0 95 i0 _ 38 96 Tryz.underlying42 hi0 hz0 hz1 hz2 (by rfl) (by decide) rv nr _ (by kernel_rfl) hr6 ⟨g,0,none⟩ 1 1 (.string ⟨⟨z1⟩⟩::(V++ .int .u64 u::Ui.row z4 32 0)) (by kernel_rfl) hrow (fun k u hk=>?_) hone (by simp only [maxLen];omega) (by omega) (by omega) (fun v' w7 own7 g7=>⟨hS6.grown hr6 g7 (by decide) (by decide),?_⟩)
   ·rw [Lib.add_plain,Nat.zero_add,Lib.cell_of_heap hnw]
    simpa using hk
   have hS7:=hS6.grown hr6 g7 (by decide) (by decide)
   have ht7:=bN (by decide) ht6 hr6 g7
   have hh7:=bN (by decide) hh6 hr6 g7
   have hC7:=hC6.trans (dE.grown (M:=M) (.inr (.inr rfl)) hr6 g7)
   have hM7:=(g7.block M (az.aB hMs) (fun e=>by have:=(da hr6 M e.symm).1;omega)).trans hMs
   obtain⟨g',cap',rfl⟩:=ownsRow_succ own7
   obtain⟨⟨k0,k1,k2,k3⟩,l0,l1,l2,l3⟩:=cV hM7
   refine Rg.bE 18 (.pointer (some ⟨M,0,none⟩)) rfl (by kernel_rfl) (by kernel_rfl) (by kernel_rfl) (fun _ _ _ h=>h) rfl hS7 (fun w _=>by go_simp) ?_
   refine Rg.bE 19 (.pointer (some ⟨M,2,none⟩)) rfl (by kernel_rfl) (by kernel_rfl) (by kernel_rfl) (fun _ _ _ h=>h) rfl hS7 (fun w _=>by go_simp) ?_
   refine Rg.bE 20 (.pointer (some ⟨M,2,none⟩)) rfl (by kernel_rfl) (by kernel_rfl) (by kernel_rfl) (fun _ _ _ h=>h) rfl hS7 (fun w _=>by go_simp) ?_
   refine Rg.fI 21 _ (by kernel_rfl) rfl rfl ?_
   refine Rg.iq 42 Tc (.tmp 133) (.tmp 130) rfl ⟨M,2,none⟩ (by kernel_rfl) (some ⟨g',0,none⟩) (nr+1) cap' (by kernel_rfl) rv k2 l2 ⟨hS7.box hMW hBM _,?_⟩
   have hM8:=Ui.heap_set (i:=2) hM7 (.slice (some ⟨g',0,none⟩) (nr+1) cap')
   refine Rg.yA (by kernel_rfl) ?_
   rcases hev with⟨hpb,rfl⟩|⟨hpb,p,rfl⟩
   ·by_cases hrr:rr=0
    ·subst hrr;go_wp2;go_ret;exact⟨rfl,hC7.trans (dE.box 2 _),ownsRow_setCell_below ht7 hM0 _,ownsRow_setCell_below hh7 hM0 _,_,hM8,ownsRow_setCell_below own7 hM0 _⟩
    ·go_wp2;go_ret;exact⟨by rw [hpb];simp [hrr],hC7.trans (dE.box 2 _),ownsRow_setCell_below ht7 hM0 _,ownsRow_setCell_below hh7 hM0 _,_,hM8,ownsRow_setCell_below own7 hM0 _⟩
   ·by_cases hrr:rr=0
    ·subst hrr;go_wp2;go_ret;exact⟨rfl,hC7.trans (dE.box 2 _),ownsRow_setCell_below ht7 hM0 _,ownsRow_setCell_below hh7 hM0 _,_,hM8,ownsRow_setCell_below own7 hM0 _⟩
    ·go_wp2;go_ret;exact⟨by rw [hpb];simp [hrr],hC7.trans (dE.box 2 _),ownsRow_setCell_below ht7 hM0 _,ownsRow_setCell_below hh7 hM0 _,_,hM8,ownsRow_setCell_below own7 hM0 _⟩
set_option maxHeartbeats 4000000 in
theorem Tg(M W0:Nat)(cap:Nat)(hc:1≤cap)(w:World)(hW:w.heap[W0]? =some (wQ [di])):
  Calls Tryz.prog 52 #[.pointer (some ⟨M,0,none⟩),.slice (some ⟨W0,0,none⟩) 1 1] w fun e w'=>e= .returned (.bool true)∧w'=w:=by
 have mixed:=mix
 have d0:w.cell? ⟨W0,0,none⟩=some (.string ⟨#[104,101,97,100,115]⟩):=ft hW (i:=0) rfl
 go_enter Tryz.func52,Tryz.ntmps52
 go_wp2
 go_rounds 1
 go_ret
 exact⟨rfl,rfl⟩
set_option maxHeartbeats 4000000 in
theorem IC(M W0:Nat)(z:List UInt8)(dQ:Int)(tv rv hv:Value)(w:World)(hM:w.heap[M]? =some (.cells #[.int .i64 dQ,tv,rv,hv] 47 (0,0)))(hW:w.heap[W0]? =some (wQ [bt,z]))(hMW:W0≠M)(v:Int)(pb:Bool)
  (hat:Calls Tryz.prog 85 #[.string ⟨⟨z⟩⟩] w fun e w''=>(∃ev,e= .returned (.tuple #[.int .i64 v,ev])∧(pb=true∧ev= .nilIface∨pb=false∧∃p,ev= .iface 160 (.pointer p)))∧Below w.heap.size w w''):
  Calls Tryz.prog 52 #[.pointer (some ⟨M,0,none⟩),.slice (some ⟨W0,0,none⟩) 2 2] w fun e w'=>e= .returned (.bool pb)∧∃w1,Below w.heap.size w w1∧w'=w1.setCell ⟨M,0,none⟩ (.int .i64 v):=by
 have mixed:=mix
 obtain⟨⟨c0,c1,c2,c3⟩,f0,f1,f2,f3⟩:=cV hM
 have d0:w.cell? ⟨W0,0,none⟩=some (.string ⟨#[118,101,114,115,105,111,110]⟩):=ft hW (i:=0) rfl
 have d1:w.cell? ⟨W0,1,none⟩=some (.string ⟨⟨z⟩⟩):=ft hW (i:=1) rfl
 have hMlt:=az.aB hM
 go_enter Tryz.func52,Tryz.ntmps52
 go_wp2_with (go_at_call 85;refine hat.mono ?_)
 rintro e w1 ⟨⟨ev,rfl,hev⟩,b1⟩
 obtain⟨⟨e0,e1,e2,e3⟩,g0,g1,g2,g3⟩:=cV ((b1.block M hMlt).trans hM)
 rcases hev with⟨hpb,rfl⟩|⟨hpb,p,rfl⟩
 ·subst hpb
  go_wp2
  go_ret
  exact⟨rfl,w1,b1,rfl⟩
 ·subst hpb
  go_wp2
  go_ret
  exact⟨rfl,w1,b1,rfl⟩
def bad(ws:List (List UInt8)):Prop:=∃z,ws[0]? =some z∧¬(z=bt∧ws.length=2)∧z≠di∧¬(z=lg∧ws.length=3)∧¬(z=nz∧ws.length=5)
set_option maxHeartbeats 4000000 in
theorem WX(M W0 n:Nat)(ws:List (List UInt8))(w:World)(hW:w.heap[W0]? =some (wQ ws))(hn:ws.length=n)(hn1:n≤100000)(hb:bad ws):
  Calls Tryz.prog 52 #[.pointer (some ⟨M,0,none⟩),.slice (some ⟨W0,0,none⟩) n n] w fun e w'=>e= .returned (.bool false)∧w'=w:=by
 have mixed:=mix
 obtain⟨z,hz,h1,h2,h3,h4⟩:=hb
 rw [hn]at h1 h3 h4
 have hpos:0<n:=by rw [←hn];exact(List.getElem?_eq_some_iff.1 hz).1
 have d0:w.cell? ⟨W0,0,none⟩=some (.string ⟨⟨z⟩⟩):=ft hW (i:=0) hz
 clear hz hn
 by_cases c1:z=bt
 ·subst c1
  have d0:w.cell? ⟨W0,0,none⟩=some (.string ⟨#[118,101,114,115,105,111,110]⟩):=d0
  have hn:¬n=2:=fun e=>h1 ⟨rfl,e⟩
  have hn':¬(n:Int)=2:=by omega
  clear h1 h2 h3 h4
  go_enter Tryz.func52,Tryz.ntmps52
  go_wp2
  go_ret
  exact⟨rfl,rfl⟩
 by_cases c2:z=lg
 ·subst c2
  have d0:w.cell? ⟨W0,0,none⟩=some (.string ⟨#[116,97,103]⟩):=d0
  have hn:¬n=3:=fun e=>h3 ⟨rfl,e⟩
  have hn':¬(n:Int)=3:=by omega
  clear h1 h2 h3 h4
  go_enter Tryz.func52,Tryz.ntmps52
  go_wp2
  go_ret
  exact⟨rfl,rfl⟩
 by_cases c3:z=nz
 ·subst c3
  have d0:w.cell? ⟨W0,0,none⟩=some (.string ⟨#[114,101,103]⟩):=d0
  have hn:¬n=5:=fun e=>h4 ⟨rfl,e⟩
  have hn':¬(n:Int)=5:=by omega
  clear h1 h2 h3 h4
  go_enter Tryz.func52,Tryz.ntmps52
  go_wp2
  go_ret
  exact⟨rfl,rfl⟩
 ·have q1:¬z=[118,101,114,115,105,111,110]:=c1
  have q2:¬z=[116,97,103]:=c2
  have q3:¬z=[114,101,103]:=c3
  have q4:¬z=[104,101,97,100,115]:=h2
  have r1:(z== [118,101,114,115,105,111,110])=false:=beq_eq_false_iff_ne.2 q1
  have r2:(z== [116,97,103])=false:=beq_eq_false_iff_ne.2 q2
  have r3:(z== [114,101,103])=false:=beq_eq_false_iff_ne.2 q3
  have r4:(z== [104,101,97,100,115])=false:=beq_eq_false_iff_ne.2 q4
  clear h1 h2 h3 h4 c1 c2 c3
  go_enter Tryz.func52,Tryz.ntmps52
  go_wp2
  go_ret
  exact⟨rfl,rfl⟩
end Ad
end
section
open Go Go.az Go.RowKit
namespace Rv
open Vl L
set_option maxHeartbeats 4000000 in
theorem GG(s:ByteArray)(hs:0<s.size)(hl:s.size≤4000)(h1:(s[0]).toNat=110)(hp:∀m,Lib.parseIntB 64 (s.data.toList.drop 1)≠ .ok m)(w:World)(hv:cZ w):Calls Tryz.prog 8 #[.string s] w fun e w'=>e= .returned (vO none)∧Below w.heap.size w w':=by
 have mixed:=mix
 have hemp:s.toList.isEmpty=false:=by rw [Lk.cS s _ rfl];exact decide_eq_false (by omega)
 have hle1:(1:Int)≤(s.size:Int):=by omega
 have hpi:∀w1,cZ w1→Calls Tryz.prog 25 #[.string (s.extract 1 s.size),.int .i64 10,.int .i64 64] w1 fun e w'=>(∃u t p,e= .returned (.tuple #[.int .i64 u,.iface t p]))∧Below w1.heap.size w1 w':=fun w1 hv1=>by
  obtain⟨ts,ps,hS⟩:=hv1.WJ
  obtain⟨tr,pr,hR⟩:=hv1.WK
  rcases hq:Lib.parseIntB 64 (s.extract 1 s.size).data.toList with m|_|_
  ·exact absurd (by rw [←rJ];exact hq) (hp m)
  ·refine(Any.strconv_ParseInt_10_at64_syntax Tryz.tO (s.extract 1 s.size) (by simp;omega) hq _ w1 hS (.inr ⟨_,_,rfl⟩)).mono ?_
   rintro e w2 ⟨N,rfl,_,_,h3⟩
   exact⟨⟨_,_,_,rfl⟩,h3⟩
  ·refine(Tryz.strconv_ParseInt_10_at64_range (s.extract 1 s.size) (by simp;omega) hq _ w1 hR (.inr ⟨_,_,rfl⟩)).mono ?_
   rintro e w2 ⟨N,rfl,_,_,h3⟩
   exact⟨⟨_,_,_,rfl⟩,h3⟩
 clear hp
 have hv2:=hv.below (((Below.refl _ w).alloc (Nat.le_refl _) (.cells #[.int .u8 0,.int .i64 0,.int .u64 0,.string ⟨#[]⟩] 24)).alloc (by simp) (.cells #[.int .u8 0,.int .i64 0,.int .u64 0,.string ⟨#[]⟩] 24))
 have hb2:=(((Below.refl _ w).alloc (Nat.le_refl _) (.cells #[.int .u8 0,.int .i64 0,.int .u64 0,.string ⟨#[]⟩] 24)).alloc (by simp) (.cells #[.int .u8 0,.int .i64 0,.int .u64 0,.string ⟨#[]⟩] 24))
 unfold vO vV
 go_enter Tryz.func8,Tryz.ntmps8
 go_wp2_with (go_at_call 25;refine(hpi _ hv2).mono ?_)
 rintro e w1 ⟨⟨u,t,p,rfl⟩,hb1⟩
 have hb1':Below (w.heap.size+2) ((w.alloc (.cells #[.int .u8 0,.int .i64 0,.int .u64 0,.string ⟨#[]⟩] 24)).alloc (.cells #[.int .u8 0,.int .i64 0,.int .u64 0,.string ⟨#[]⟩] 24)) w1:=by simpa using hb1
 obtain⟨g1,g2⟩:=blocks w w1 undef _ _ _ _ hb1'
 obtain⟨⟨a0,a1,a2,a3⟩,e0,e1,e2,e3⟩:=Tx.mD g1
 have hb5:=hb2.trans (hb1.mono (by simp;omega))
 clear hb1 hb1' g1 g2 hv hv2 hb2
 have hE:∀(x0 x1 x2 x3:Value),Below w.heap.size w ((((w1.setCell ⟨w.heap.size,0,none⟩ x0).setCell ⟨w.heap.size,1,none⟩ x1).setCell ⟨w.heap.size,2,none⟩ x2).setCell ⟨w.heap.size,3,none⟩ x3):=fun x0 x1 x2 x3=>
  (((hb5.setCell (p:=⟨w.heap.size,0,none⟩) (Nat.le_refl _) _).setCell (p:=⟨w.heap.size,1,none⟩) (Nat.le_refl _) _).setCell (p:=⟨w.heap.size,2,none⟩) (Nat.le_refl _) _).setCell (p:=⟨w.heap.size,3,none⟩) (Nat.le_refl _) _
 go_wp2
 exact bodyPost_ret (by simp [results,Tryz.results8,go_sem,a0,a1,a2,a3,vO,vV]) rfl ⟨rfl,hE _ _ _ _⟩
set_option maxHeartbeats 4000000 in
theorem Qa(s:ByteArray)(hs:0<s.size)(hl:s.size≤4000)(h1:(s[0]).toNat=102)(hp:(if(s.extract 1 s.size).size=0 then none else Ph.lM 0 (s.data.toList.drop 1))=none)(w:World)(hv:cZ w):Calls Tryz.prog 8 #[.string s] w fun e w'=>e= .returned (vO none)∧Below w.heap.size w w':=by
 have mixed:=mix
 have hemp:s.toList.isEmpty=false:=by rw [Lk.cS s _ rfl];exact decide_eq_false (by omega)
 have hle1:(1:Int)≤(s.size:Int):=by omega
 have hpi:∀w1,cZ w1→Calls Tryz.prog 26 #[.string (s.extract 1 s.size),.int .i64 16,.int .i64 64] w1 fun e w'=>(∃u t p,e= .returned (.tuple #[.int .u64 u,.iface t p]))∧Below w1.heap.size w1 w':=fun w1 hv1=>by
  have h:=Ph.parse (s.extract 1 s.size) (by simp;omega) w1 hv1
  rw [rJ,hp]at h
  exact h
 clear hp
 have hv2:=hv.below (((Below.refl _ w).alloc (Nat.le_refl _) (.cells #[.int .u8 0,.int .i64 0,.int .u64 0,.string ⟨#[]⟩] 24)).alloc (by simp) (.cells #[.int .u8 0,.int .i64 0,.int .u64 0,.string ⟨#[]⟩] 24))
 have hb2:=(((Below.refl _ w).alloc (Nat.le_refl _) (.cells #[.int .u8 0,.int .i64 0,.int .u64 0,.string ⟨#[]⟩] 24)).alloc (by simp) (.cells #[.int .u8 0,.int .i64 0,.int .u64 0,.string ⟨#[]⟩] 24))
 unfold vO vV
 go_enter Tryz.func8,Tryz.ntmps8
 go_wp2_with (go_at_call 26;refine(hpi _ hv2).mono ?_)
 rintro e w1 ⟨⟨u,t,p,rfl⟩,hb1⟩
 have hb1':Below (w.heap.size+2) ((w.alloc (.cells #[.int .u8 0,.int .i64 0,.int .u64 0,.string ⟨#[]⟩] 24)).alloc (.cells #[.int .u8 0,.int .i64 0,.int .u64 0,.string ⟨#[]⟩] 24)) w1:=by simpa using hb1
 obtain⟨g1,g2⟩:=blocks w w1 undef _ _ _ _ hb1'
 obtain⟨⟨a0,a1,a2,a3⟩,e0,e1,e2,e3⟩:=Tx.mD g1
 have hb5:=hb2.trans (hb1.mono (by simp;omega))
 clear hb1 hb1' g1 g2 hv hv2 hb2
 have hE:∀(x0 x1 x2 x3:Value),Below w.heap.size w ((((w1.setCell ⟨w.heap.size,0,none⟩ x0).setCell ⟨w.heap.size,1,none⟩ x1).setCell ⟨w.heap.size,2,none⟩ x2).setCell ⟨w.heap.size,3,none⟩ x3):=fun x0 x1 x2 x3=>
  (((hb5.setCell (p:=⟨w.heap.size,0,none⟩) (Nat.le_refl _) _).setCell (p:=⟨w.heap.size,1,none⟩) (Nat.le_refl _) _).setCell (p:=⟨w.heap.size,2,none⟩) (Nat.le_refl _) _).setCell (p:=⟨w.heap.size,3,none⟩) (Nat.le_refl _) _
 go_wp2
 exact bodyPost_ret (by simp [results,Tryz.results8,go_sem,a0,a1,a2,a3,vO,vV]) rfl ⟨rfl,hE _ _ _ _⟩
theorem head_eq(s:ByteArray)(hs:0<s.size):s.data.toList=s[0]::s.data.toList.drop 1:=by
 have h:0<s.data.toList.length:=hs
 have:=List.drop_eq_getElem_cons h
 rw [List.drop_zero]at this
 exact this
theorem read(s:ByteArray)(hl:s.size≤4000)(w:World)(hv:cZ w):Calls Tryz.prog 8 #[.string s] w fun e w'=>e= .returned (vO (rd s.data.toList))∧Below w.heap.size w w':=by
 by_cases hs:s.size=0
 ·have:s=⟨#[]⟩:=ByteArray.ext (Array.eq_empty_of_size_eq_zero hs)
  subst this
  exact L5 w
 ·have hs:0<s.size:=Nat.pos_of_ne_zero hs
  have hh:=head_eq s hs
  have e8:∀n:Nat,n<256→((s[0]).toNat=n↔s[0]=UInt8.ofNat n):=fun n hn=>⟨fun h=>by rw [←h];simp,fun h=>by rw [h];simp;omega⟩
  unfold rd
  by_cases h1:(s[0]).toNat=110
  ·have c1:s[0]=110:=(e8 110 (by decide)).1 h1
   rcases hq:Lib.parseIntB 64 (s.data.toList.drop 1)with m|_|_
   ·have hc:jg s.data.toList=some (1,m,0,[]):=by rw [hh,jg,if_pos c1,hq]
    rw [hc]
    exact L7 s hs hl h1 hq w hv
   ·have hc:jg s.data.toList=none:=by rw [hh,jg,if_pos c1,hq]
    rw [hc]
    exact GG s hs hl h1 (fun m h=>by rw [hq]at h;cases h) w hv
   ·have hc:jg s.data.toList=none:=by rw [hh,jg,if_pos c1,hq]
    rw [hc]
    exact GG s hs hl h1 (fun m h=>by rw [hq]at h;cases h) w hv
  ·have c1:¬s[0]=110:=fun h=>h1 ((e8 110 (by decide)).2 h)
   by_cases h2:(s[0]).toNat=102
   ·have c2:s[0]=102:=(e8 102 (by decide)).1 h2
    have hz:(s.extract 1 s.size).size=0↔s.data.toList.drop 1=[]:=by
     rw [←rJ]
     exact⟨fun h=>List.eq_nil_of_length_eq_zero h,fun h=>congrArg List.length h⟩
    cases hq:(if s.data.toList.drop 1=[]then none else Ph.lM 0 (s.data.toList.drop 1))with
    |some b=>
     have hc:jg s.data.toList=some (2,0,b,[]):=by rw [hh,jg,if_neg c1,if_pos c2,hq]
     rw [hc]
     refine L8 s hs hl h2 ⟨fun h=>?_,?_⟩ w hv
     ·rw [if_pos (hz.1 h)]at hq;cases hq
     ·by_cases hn:s.data.toList.drop 1=[]
      ·rw [if_pos hn]at hq;cases hq
      ·rw [if_neg hn]at hq;exact hq
    |none=>
     have hc:jg s.data.toList=none:=by rw [hh,jg,if_neg c1,if_pos c2,hq]
     rw [hc]
     refine Qa s hs hl h2 ?_ w hv
     by_cases hn:s.data.toList.drop 1=[]
     ·rw [if_pos (hz.2 hn)]
     ·rw [if_neg (fun h=>hn (hz.1 h))]
      rw [if_neg hn]at hq
      exact hq
   ·have c2:¬s[0]=102:=fun h=>h2 ((e8 102 (by decide)).2 h)
    by_cases h3:(s[0]).toNat=116
    ·have c3:s[0]=116:=(e8 116 (by decide)).1 h3
     have hc:jg s.data.toList=some (3,0,0,Wg.lL (s.data.toList.drop 1)):=by
      have:∀l,s.data.toList=s[0]::l→jg (s[0]::l)=some (3,0,0,Wg.lL l):=fun l _=>by rw [jg,if_neg c1,if_neg c2,if_pos c3]
      rw [hh]
      exact this _ hh
     rw [hc]
     exact L6 s hs hl h3 w hv
    ·have c3:¬s[0]=116:=fun h=>h3 ((e8 116 (by decide)).2 h)
     have hc:jg s.data.toList=some (0,0,0,[]):=by rw [hh,jg,if_neg c1,if_neg c2,if_neg c3]
     rw [hc]
     exact EJ s hs h1 h2 h3 w
end Rv
end
section
open Go Go.az Go.RowKit
namespace Ad
open L Td Te Vl Rv
structure St where
 dQ:Int
 tags:List (List UInt8×List UInt8)
 cT:List (List UInt8×(Int×Int×Nat×List UInt8)×Nat×List UInt8)
 cy:List (List UInt8)
def St.nil:St:=⟨0,[],[],[]⟩
def bB(s:St):List (List UInt8)→Option St
 | []=>none
 |a::r=>
  if a=di then some {s with cy:=s.cy++r}
  else match r with
   | [z]=>if a=bt then(match Lib.atoiAll z with| .ok v=>some {s with dQ:=v}|_=>none)else none
   | [z1,z2]=>if a=lg then some {s with tags:=s.tags++[(z1,z2)]}else none
   | [z1,z2,z3,z4]=>if a=nz then(match rd z2,Lib.parseUintB 64 z3 with|some v,.ok u=>some {s with cT:=s.cT++[(z1,v,u,z4)]}|_,_=>none)else none
   |_=>none
def EM(t:List UInt8×List UInt8):List Value:= .string ⟨⟨t.1⟩⟩::Ui.row t.2 32 0
def Al(r:List UInt8×(Int×Int×Nat×List UInt8)×Nat×List UInt8):List Value:=
 .string ⟨⟨r.1⟩⟩::([.int .u8 r.2.1.1,.int .i64 r.2.1.2.1,.int .u64 r.2.1.2.2.1,.string ⟨⟨r.2.1.2.2.2⟩⟩]++ .int .u64 r.2.2.1::Ui.row r.2.2.2 32 0)
def Holds(M n0:Nat)(s:St)(w:World):Prop:=∃tv rv hv,w.heap[M]? =some (.cells #[.int .i64 s.dQ,tv,rv,hv] 47 (0,0))∧
 w.ownsRow n0 93 33 tv s.tags.length (s.tags.map EM).flatten∧w.ownsRow n0 95 38 rv s.cT.length (s.cT.map Al).flatten∧w.ownsRow n0 91 32 hv s.cy.length (gW s.cy)
theorem WY(z:List UInt8)(hz:z.length≤4000)(w:World)(hv:cZ w):∃(v:Int)(pb:Bool),(∀v',Lib.atoiAll z= .ok v'↔pb=true∧v'=v)∧
  Calls Tryz.prog 85 #[.string ⟨⟨z⟩⟩] w fun e w''=>(∃ev,e= .returned (.tuple #[.int .i64 v,ev])∧(pb=true∧ev= .nilIface∨pb=false∧∃p,ev= .iface 160 (.pointer p)))∧Below w.heap.size w w'':=by
 have hsz:(⟨⟨z⟩⟩:ByteArray).size=z.length:=rfl
 obtain⟨ts,ps,hsyn⟩:=hv.WJ
 obtain⟨tr,pr,hran⟩:=hv.WK
 rcases h:Lib.atoiAll z with v|_|_
 ·skip
  refine⟨v,true,fun v'=>by simp [eq_comm],(Tryz.strconv_Atoi_ok ⟨⟨z⟩⟩ (by omega) v h w).mono ?_⟩
  rintro e w' ⟨rfl,h1⟩
  refine⟨⟨_,rfl,.inl ⟨rfl,rfl⟩⟩,?_⟩
  rcases h1 with rfl|⟨t,rfl⟩
  ·exact Below.refl _ _
  ·exact Lib.bytesWorld_below _ _ _
 ·skip
  refine⟨0,false,fun v'=>by simp,(Tryz.strconv_Atoi_syntax ⟨⟨z⟩⟩ (by omega) _ h (fun _ e=>by cases e) (fun e=>by cases e) _ w hsyn (.inr ⟨_,_,rfl⟩)).mono ?_⟩
  rintro e w' ⟨N,rfl,_,_,hb⟩
  exact⟨⟨_,rfl,.inr ⟨rfl,_,rfl⟩⟩,hb⟩
 ·skip
  refine⟨Lib.atoiSat z,false,fun v'=>by simp,(Tryz.strconv_Atoi_range ⟨⟨z⟩⟩ (by omega) h _ w hran (.inr ⟨_,_,rfl⟩)).mono ?_⟩
  rintro e w' ⟨N,rfl,_,_,hb⟩
  exact⟨⟨_,rfl,.inr ⟨rfl,_,rfl⟩⟩,hb⟩
theorem puC(z:List UInt8)(hz:z.length≤4000):∃(u:Nat)(pb:Bool),(∀u',Lib.parseUintB 64 z= .ok u'↔pb=true∧u'=u)∧∀w,cZ w→
  Calls Tryz.prog 26 #[.string ⟨⟨z⟩⟩,.int .i64 10,.int .i64 64] w fun e w''=>(∃ev,e= .returned (.tuple #[.int .u64 (u:Int),ev])∧(pb=true∧ev= .nilIface∨pb=false∧∃p,ev= .iface 160 (.pointer p)))∧Below w.heap.size w w'':=by
 have hsz:(⟨⟨z⟩⟩:ByteArray).size=z.length:=rfl
 rcases h:Lib.parseUintB 64 z with v|_|_
 ·skip
  refine⟨v,true,fun v'=>by simp [eq_comm],fun w hv=>(Tryz.strconv_ParseUint_10_at64_ok ⟨⟨z⟩⟩ (by omega) v h w).mono ?_⟩
  rintro e w' ⟨rfl,h1⟩
  refine⟨⟨_,rfl,.inl ⟨rfl,rfl⟩⟩,?_⟩
  rcases h1 with rfl|rfl
  ·exact Below.refl _ _
  ·exact Lib.bytesWorld_below _ _ _
 ·skip
  refine⟨0,false,fun v'=>by simp,fun w hv=>?_⟩
  obtain⟨ts,ps,hsyn⟩:=hv.WJ
  refine(Tryz.strconv_ParseUint_10_at64_syntax ⟨⟨z⟩⟩ (by omega) _ h (fun _ e=>by cases e) (fun e=>by cases e) _ w hsyn (.inr ⟨_,_,rfl⟩)).mono ?_
  rintro e w' ⟨N,rfl,_,_,hb⟩
  exact⟨⟨_,rfl,.inr ⟨rfl,_,rfl⟩⟩,hb⟩
 ·skip
  refine⟨18446744073709551615,false,fun v'=>by simp,fun w hv=>?_⟩
  obtain⟨tr,pr,hran⟩:=hv.WK
  refine(Tryz.strconv_ParseUint_10_at64_range ⟨⟨z⟩⟩ (by omega) h _ w hran (.inr ⟨_,_,rfl⟩)).mono ?_
  rintro e w' ⟨N,rfl,_,_,hb⟩
  exact⟨⟨_,rfl,.inr ⟨rfl,_,rfl⟩⟩,hb⟩
theorem cG(s:St)(a:List UInt8)(r:List (List UInt8)):bB s (a::r)=
  if a=di then some {s with cy:=s.cy++r}
  else match r with
   | [z]=>if a=bt then(match Lib.atoiAll z with| .ok v=>some {s with dQ:=v}|_=>none)else none
   | [z1,z2]=>if a=lg then some {s with tags:=s.tags++[(z1,z2)]}else none
   | [z1,z2,z3,z4]=>if a=nz then(match rd z2,Lib.parseUintB 64 z3 with|some v,.ok u=>some {s with cT:=s.cT++[(z1,v,u,z4)]}|_,_=>none)else none
   |_=>none:=rfl
theorem EN(s:St)(ws:List (List UInt8))(h:bad ws):bB s ws=none:=by
 obtain⟨z,hz,h1,h2,h3,h4⟩:=h
 match ws,hz with
 |a::r,hz=>
  simp only [List.getElem?_cons_zero,Option.some.injEq]at hz
  subst hz
  rw [cG,if_neg h2]
  match r with
  | []=>rfl
  | [z]=>show(if a=bt then _ else none)=none;rw [if_neg fun e=>h1 ⟨e,rfl⟩]
  | [z1,z2]=>show(if a=lg then _ else none)=none;rw [if_neg fun e=>h3 ⟨e,rfl⟩]
  | [_,_,_]=>rfl
  | [z1,z2,z3,z4]=>show(if a=nz then _ else none)=none;rw [if_neg fun e=>h4 ⟨e,rfl⟩]
  |_::_::_::_::_::_=>rfl
theorem Qb{ws:List (List UInt8)}(h:¬bad ws)(hn:0<ws.length):(∃z,ws=[bt,z])∨(∃r,ws=di::r)∨(∃z1 z2,ws=[lg,z1,z2])∨∃z1 z2 z3 z4,ws=[nz,z1,z2,z3,z4]:=by
 match ws,hn with
 |a::r,_=>
  by_cases h2:a=di
  ·exact .inr (.inl ⟨r,by rw [h2]⟩)
  by_cases h1:a=bt∧(a::r).length=2
  ·match r,h1 with
   | [z],h1=>exact .inl ⟨z,by rw [h1.1]⟩
   | [],h1=>simp at h1
   |_::_::_,h1=>simp at h1
  by_cases h3:a=lg∧(a::r).length=3
  ·match r,h3 with
   | [z1,z2],h3=>exact .inr (.inr (.inl ⟨z1,z2,by rw [h3.1]⟩))
   | [],h3=>simp at h3
   | [_],h3=>simp at h3
   |_::_::_::_,h3=>simp at h3
  by_cases h4:a=nz∧(a::r).length=5
  ·match r,h4 with
   | [z1,z2,z3,z4],h4=>exact .inr (.inr (.inr ⟨z1,z2,z3,z4,by rw [h4.1]⟩))
   | [],h4=>simp at h4
   | [_],h4=>simp at h4
   | [_,_],h4=>simp at h4
   | [_,_,_],h4=>simp at h4
   |_::_::_::_::_::_,h4=>simp at h4
  ·exact absurd ⟨a,rfl,h1,h2,h3,h4⟩ h
theorem Q7:¬bt=di:=by decide
theorem Q8:¬lg=di:=by decide
theorem Q9:¬nz=di:=by decide
theorem WZ(M W0 n0 n:Nat)(s:St)(ws:List (List UInt8))(w:World)(hv:cZ w)(hs:Holds M n0 s w)(hn0:n0≤w.heap.size)(hM0:M<n0)(hW:w.heap[W0]? =some (wQ ws))(hMW:W0≠M)(hn:ws.length=n)(hn1:n≤30001)(hn2:0<n)
  (hws:∀z∈ws,z.length≤4000) (ht0:s.tags.length≤100000) (hr0:s.cT.length≤100000) (hh0:s.cy.length≤100000):
  Calls Tryz.prog 52 #[.pointer (some ⟨M,0,none⟩),.slice (some ⟨W0,0,none⟩) n n] w fun e w'=>e= .returned (.bool (bB s ws).isSome)∧dE n0 M w w'∧∀s',bB s ws=some s'→Holds M n0 s' w':=by
 obtain⟨tv,rv,hv',h1,h2,h3,h4⟩:=hs
 by_cases hbad:bad ws
 ·refine(WX M W0 n ws w hW hn (by omega) hbad).mono ?_
  rintro e w' ⟨rfl,rfl⟩
  rw [EN s ws hbad]
  exact⟨rfl,dE.refl _ _ _,fun s' h=>by cases h⟩
 ·rcases Qb hbad (by omega)with⟨z,rfl⟩|⟨r,rfl⟩|⟨z1,z2,rfl⟩|⟨z1,z2,z3,z4,rfl⟩
  ·obtain⟨v,pb,hp,hc⟩:=WY z (hws z (by simp)) w hv
   subst hn
   refine(IC M W0 z s.dQ tv rv hv' w h1 hW hMW v pb hc).mono ?_
   rintro e w' ⟨rfl,w1,b1,rfl⟩
   have hC:dE n0 M w (w1.setCell ⟨M,0,none⟩ (.int .i64 v)):=(dE.below b1).trans (dE.box 0 _)
   have e1:bB s [bt,z]=(match Lib.atoiAll z with| .ok v=>some {s with dQ:=v}|_=>none):=by
    rw [cG,if_neg Q7]
    exact if_pos rfl
   rw [e1]
   rcases hA:Lib.atoiAll z with v'|_|_
   ·skip
    obtain⟨h5,h6⟩:=(hp v').1 hA
    subst h5 h6
    refine⟨rfl,hC,fun s' h=>?_⟩
    cases h
    exact⟨tv,rv,hv',Ui.heap_set (i:=0) ((b1.block M (az.aB h1)).trans h1) _,ownsRow_setCell_below (aE h2 b1) hM0 _,ownsRow_setCell_below (aE h3 b1) hM0 _,ownsRow_setCell_below (aE h4 b1) hM0 _⟩
   ·skip
    have h5:pb=false:=by
     cases pb with
     |false=>rfl
     |true=>have:=(hp v).2 ⟨rfl,rfl⟩;rw [hA]at this;cases this
    subst h5
    exact⟨rfl,hC,fun s' h=>by cases h⟩
   ·skip
    have h5:pb=false:=by
     cases pb with
     |false=>rfl
     |true=>have:=(hp v).2 ⟨rfl,rfl⟩;rw [hA]at this;cases this
    subst h5
    exact⟨rfl,hC,fun s' h=>by cases h⟩
  ·have e1:bB s (di::r)=some {s with cy:=s.cy++r}:=by
    rw [cG,if_pos rfl]
   rw [e1]
   match r,hn,hW,hws with
   | [],hn,hW,hws=>
    subst hn
    refine(Tg M W0 1 (by decide) w hW).mono ?_
    rintro e w' ⟨rfl,rfl⟩
    refine⟨rfl,dE.refl _ _ _,fun s' h=>?_⟩
    cases h
    exact⟨tv,rv,hv',h1,h2,h3,by simpa using h4⟩
   |z::r,hn,hW,hws=>
    subst hn
    refine(Tf M W0 n0 r.length (di::z::r) s.dQ tv rv hv' _ _ _ _ _ _ w h1 h2 h3 h4 hn0 hh0 hM0 hW hMW rfl rfl (by simp at hn1;omega) (fun z hz=>Nat.le_trans (hws z hz) (by decide))).mono ?_
    rintro e w' ⟨rfl,hC,k2,k3,hv2,k1,k4⟩
    refine⟨rfl,hC,fun s' h=>?_⟩
    cases h
    refine⟨tv,rv,hv2,k1,k2,k3,?_⟩
    have e2:(s.cy++z::r).length=s.cy.length+(r.length+1):=by simp
    have e3:gW (s.cy++z::r)=gW s.cy++gW ((di::z::r).drop 1):=by simp [gW]
    rw [e2,e3]
    exact k4
  ·have e1:bB s [lg,z1,z2]=some {s with tags:=s.tags++[(z1,z2)]}:=by
    rw [cG,if_neg Q8]
    exact if_pos rfl
   rw [e1]
   subst hn
   refine(YB M W0 n0 z1 z2 s.dQ tv rv hv' _ _ _ _ _ _ w h1 h2 h3 h4 hn0 ht0 hM0 hW hMW (Nat.le_trans (hws z1 (by simp)) (by decide)) (Nat.le_trans (hws z2 (by simp)) (by decide))).mono ?_
   rintro e w' ⟨rfl,hC,k3,k4,tv2,k1,k2⟩
   refine⟨rfl,hC,fun s' h=>?_⟩
   cases h
   refine⟨tv2,rv,hv',k1,?_,k3,k4⟩
   have e2:(s.tags++[(z1,z2)]).length=s.tags.length+1:=by simp
   have e3:((s.tags++[(z1,z2)]).map EM).flatten=(s.tags.map EM).flatten++(.string ⟨⟨z1⟩⟩::Ui.row z2 32 0):=by simp [EM]
   rw [e2,e3]
   exact k2
  ·obtain⟨u,pb,hp,hc⟩:=puC z3 (hws z3 (by simp))
   obtain⟨k,m,b,l,rr,hrd,hrc⟩:∃(k m:Int)(b:Nat)(l:List UInt8)(rr:Int),(rr=0∧rd z2=some (k,m,b,l)∨rr=12∧rd z2=none)∧vO (rd z2)= .tuple #[.agg ⟨[.int .u8 k,.int .i64 m,.int .u64 b,.string ⟨⟨l⟩⟩]⟩,.int .i64 rr]:=by
    cases h:rd z2 with
    |none=>exact⟨0,0,0,[],12,.inr ⟨rfl,rfl⟩,rfl⟩
    |some v=>
     obtain⟨k,m,b,l⟩:=v
     exact⟨k,m,b,l,0,.inl ⟨rfl,rfl⟩,rfl⟩
   subst hn
   refine(YC M W0 n0 z1 z2 z3 z4 s.dQ tv rv hv' _ _ _ _ _ _ w h1 h2 h3 h4 hn0 hr0 hM0 hW hMW (Nat.le_trans (hws z4 (by simp)) (by decide)) k m b ⟨⟨l⟩⟩ _ rfl rr u pb hv (fun w' hw'=>?_) hc).mono ?_
   ·have:=read ⟨⟨z2⟩⟩ (hws z2 (by simp)) w' hw'
    rw [show(⟨⟨z2⟩⟩:ByteArray).data.toList=z2 from rfl,hrc]at this
    exact this
   ·rintro e w' ⟨rfl,hC,k2,k4,rv2,k1,k3⟩
    have e1:bB s [nz,z1,z2,z3,z4]=(match rd z2,Lib.parseUintB 64 z3 with|some v,.ok u=>some {s with cT:=s.cT++[(z1,v,u,z4)]}|_,_=>none):=by
     rw [cG,if_neg Q9]
     exact if_pos rfl
    rw [e1]
    rcases hrd with⟨rfl,hrd⟩|⟨rfl,hrd⟩
    ·rw [hrd]
     rcases hA:Lib.parseUintB 64 z3 with v'|_|_
     ·skip
      obtain⟨h5,h6⟩:=(hp v').1 hA
      subst h5 h6
      refine⟨rfl,hC,fun s' h=>?_⟩
      cases h
      refine⟨tv,rv2,hv',k1,k2,?_,k4⟩
      have e2:(s.cT++[(z1,(k,m,b,l),v',z4)]).length=s.cT.length+1:=by simp
      have e3:((s.cT++[(z1,(k,m,b,l),v',z4)]).map Al).flatten=(s.cT.map Al).flatten++(.string ⟨⟨z1⟩⟩::([.int .u8 k,.int .i64 m,.int .u64 b,.string ⟨⟨l⟩⟩]++ .int .u64 v'::Ui.row z4 32 0)):=by simp [Al]
      rw [e2,e3]
      exact k3
     ·skip
      have h5:pb=false:=by
       cases pb with
       |false=>rfl
       |true=>have:=(hp u).2 ⟨rfl,rfl⟩;rw [hA]at this;cases this
      subst h5
      exact⟨rfl,hC,fun s' h=>by cases h⟩
     ·skip
      have h5:pb=false:=by
       cases pb with
       |false=>rfl
       |true=>have:=(hp u).2 ⟨rfl,rfl⟩;rw [hA]at this;cases this
      subst h5
      exact⟨rfl,hC,fun s' h=>by cases h⟩
    ·rw [hrd]
     exact⟨rfl,hC,fun s' h=>by cases h⟩
end Ad
end
section
open Go Go.RowKit
namespace Rl
def Mh(s:Nat)(J:Nat→World→Prop):Prop:=∀k W W',J k W→W.grownBy W' (some s)→J k W'
def rK(s B:Nat)(J:Nat→World→Prop):Prop:=
 ∀k W W' row,J k W→W.grownBy W' row→(∀r,row=some r→r=s∨(B≤r∧∃o:Obj,W.heap[r]? =some o∧o.isCells=false))→J k W'
theorem rK.put{s B:Nat}{J:Nat→World→Prop}(h:rK s B J){k:Nat}{W:World}{l:Nat}{o:Obj}(o':Obj)(hJ:J k W)(hB:B≤l)(hl:W.heap[l]? =some o)(ho:o.isCells=false):J k (W.putObj l o'):=
 h k W _ (some l) hJ (grownBy_putObj' W l o') fun r e=>by cases e;exact .inr ⟨hB,o,hl,ho⟩
theorem rK.alloc{s B:Nat}{J:Nat→World→Prop}(h:rK s B J){k:Nat}{W:World}(o:Obj)(hJ:J k W):J k (W.alloc o):=
 h k W _ none hJ (World.grownBy_alloc W o none) fun r e=>by cases e
section
variable {F:Fence} {n:Nat} {P:Program}
def kc{α:Type}(F:Fence)(n:Nat)(P:Program)(g:Nat)(lb:Array Value)(enc:α→Value)(xs:List α)(s:Nat)(w:World):Prop:=
 ∀(l:Nat)(J Jx:Nat→World→Prop)(W:World),W.heap[s]? =w.heap[s]? →Mh s J→Mh s Jx→
  (∀k x W1,xs[k]? =some x→J k W1→YieldAt F (n-1) P l #[enc x] W1 fun e W'=>
   (e= .returned (.bool true)∧J (k+1) W'∧W'.heap[s]? =W1.heap[s]?)∨(e= .returned (.bool false)∧Jx (k+1) W'))→
  J 0 W→
  CallsIn F n P g (#[.func (.yield l) #[] #[]]++lb) W fun e W'=>(∃v,e= .returned v)∧(J xs.length W'∨∃k,k≤xs.length∧Jx k W')
def Out(B s:Nat)(I Ix:Nat→World→Prop)(k:Nat)(W:World):Exit→Act→World→Prop
 | .normal,_,W'=>KeepsFrom B W W'∧W'.heap[s]? =W.heap[s]? ∧I k W'
 | .ret,_,W'=>KeepsFrom B W W'∧Ix k W'
 |_,_,_=>False
theorem law{α:Type}{g:Operand}{p:Tmp}{assign body:Code}{Q:Exit→Act→World→Prop}{a:Act}{w:World}(hro:F.round=none)(h1:1≤n)
  {gf:Nat} {lb:Array Value} (hg:a.eval g= .func (.func gf) #[] lb) (hFg:F.fn gf) (eg:∀args w,(callFunc gf args).run P w= .ok (.enter gf args) w)
  {enc:α→Value} {xs:List α} {s:Nat} (hs:s<w.heap.size) (hseq:kc F (n-1) P gf lb enc xs s w)
  (I Ix:Nat→World→Prop) (hI:rK s w.heap.size I) (hIx:rK s w.heap.size Ix) (h0:I 0 w) (a₁:α→Act)
  (hassign:∀(l:Nat)(x:α)(W:World)(K:Act→World→Prop),K (a₁ x) W→
   assign.wpIn (F.inRound l) (n-1-1) P (Exit.then K (fun _ _ _=>False)) {tmps:=(#[p].zip #[enc x]).foldl (fun t (p,v)=>t.setIfInBounds p v) a.tmps,defers:=[]} W)
  (hbody:∀(l k:Nat)(x:α)(W:World),xs[k]? =some x→I k W→w.heap.size+1<W.heap.size→body.wpIn (F.inRound l) (n-1-1) P (Out w.heap.size s I Ix (k+1) W) (a₁ x) W)
  (hdone:∀(D:Nat)(W:World),w.heap.size≤D→I xs.length W→W.heap[D]? =some (.deferred (some []))→Q .normal {a with defers:= {target:= .collected D,args:= #[]}::a.defers} W)
  (hstop:∀(D k:Nat)(W:World),w.heap.size≤D→k≤xs.length→Ix k W→W.heap[D]? =some (.deferred (some []))→Code.ret.wpIn F n P Q {a with defers:= {target:= .collected D,args:= #[]}::a.defers} W):
  (Code.rangeFunc g #[p] assign body).wpIn F n P Q a w:=by
 refine wpIn_rangeFunc fun fn hfn=>?_
 rw [hro]
 obtain⟨D,hD⟩:∃D,D=w.heap.size:=⟨_,rfl⟩
 obtain⟨mk,hmk⟩:∃mk:LoopState→Option Code→Loop,mk=fun st c=> {state:=st,pending:=c,fn,tmps:=a.tmps,params:= #[p],assign,body,defers:=D}:=⟨_,rfl⟩
 have e1:(w.alloc (.deferred (some []))).heap.size=D+1:=by rw [World.size_alloc,hD]
 obtain⟨V,hV⟩:∃V,V=(w.alloc (.deferred (some []))).alloc (.loop (mk .ready none)):=⟨_,rfl⟩
 have vl:V.heap[D+1]? =some (.loop (mk .ready none)):=by rw [hV,←e1];exact World.alloc_heap_new _ _
 have vd:V.heap[D]? =some (.deferred (some [])):=by
  rw [hV,hD];exact(Below.heap_alloc _ _ _ (by simp)).trans (World.alloc_heap_new w _)
 have vs:V.heap[s]? =w.heap[s]? :=by
  rw [hV];exact(Below.heap_alloc _ _ _ (by rw [e1];omega)).trans (Below.heap_alloc _ _ _ hs)
 have vI:I 0 V:=by rw [hV];exact hI.alloc _ (hI.alloc _ h0)
 refine⟨D+1,[{target:= .collected D,args:= #[]}],V,{target:= .fn (.func gf) lb,args:= #[.func (.yield (D+1)) #[] #[]]},V,gf,#[.func (.yield (D+1)) #[] #[]]++lb,V,?_,?_,?_,?_,fun _=>h1,?_⟩
 ·rw [hV,hmk,hD];exact run_enterLoop_outer _ _ _ _ _
 ·simp only [resolve,hg]
  simp [go_sem]
 ·intro f' hf'
  simp [Target.leads]at hf'
  subst hf'
  exact hFg
 ·simp [invoke,go_sem,eg]
 ·have keepL:∀{W W':World}{o:Obj}{d:Nat},D≤d→W.grownBy W' (some s)→W.heap[d]? =some o→W'.heap[d]? =some o:=fun hd hgr ho=>
   (hgr.block _ (Array.getElem?_eq_some_iff.1 ho).1 (fun e=>by cases e;omega)).trans ho
  refine(hseq (D+1) (fun k W=>I k W∧W.heap[D+1]? =some (.loop (mk .ready none))∧W.heap[D]? =some (.deferred (some [])))
   (fun k W=>Ix k W∧W.heap[D+1]? =some (.loop (mk .done (some .ret)))∧W.heap[D]? =some (.deferred (some []))) V vs
   (fun k W W' h hgr=>⟨hI k W W' _ h.1 hgr fun r e=>by cases e;exact .inl rfl,keepL (by omega) hgr h.2.1,keepL (Nat.le_refl _) hgr h.2.2⟩)
   (fun k W W' h hgr=>⟨hIx k W W' _ h.1 hgr fun r e=>by cases e;exact .inl rfl,keepL (by omega) hgr h.2.1,keepL (Nat.le_refl _) hgr h.2.2⟩) ?_ ⟨vI,vl,vd⟩).mono ?_
  ·rintro k x W hx ⟨hi,hl,hd⟩
   have hlt:D+1<W.heap.size:=(Array.getElem?_eq_some_iff.1 hl).1
   have hy:=run_yield (P:=P) (args:= #[enc x]) hl (by rw [hmk];rfl)
   rw [hmk]at hy
   refine⟨fn,_,assign,body,hy,roundIn_of_wpIn hfn (hassign _ x W _ ⟨_,run_beginRound hl (by rw [hmk]),?_⟩)⟩
   obtain⟨U,hU⟩:∃U,U=W.putObj (D+1) (.loop {mk .ready none with state:= .busy}):=⟨_,rfl⟩
   rw [←hU]
   have ul:U.heap[D+1]? =some (.loop {mk .ready none with state:= .busy}):=by rw [hU];exact World.putObj_heap_same hlt
   have ud:U.heap[D]? =some (.deferred (some [])):=by rw [hU];exact(World.putObj_heap_other (by omega)).trans hd
   have us:U.heap[s]? =W.heap[s]? :=by rw [hU];exact World.putObj_heap_other (by omega)
   have uI:I k U:=by rw [hU];exact hI.put _ hi (by omega) hl rfl
   refine wpIn_mono (hbody _ k x U hx uI (by rw [hU,World.putObj_size];omega)) ?_
   have fin:∀(jump:Option Code)(W3:World),KeepsFrom w.heap.size U W3→
     (Instr.endRound (D+1) jump).run P W3= .ok (.bool jump.isNone) (W3.putObj (D+1) (.loop (mk (if jump.isNone then .ready else .done) jump)))∧
     W3.heap[D+1]? =some (.loop {mk .ready none with state:= .busy})∧
     (W3.putObj (D+1) (.loop (mk (if jump.isNone then .ready else .done) jump))).heap[D+1]? =some (.loop (mk (if jump.isNone then .ready else .done) jump))∧
     (W3.putObj (D+1) (.loop (mk (if jump.isNone then .ready else .done) jump))).heap[D]? =some (.deferred (some [])):=fun jump W3 hk=>by
    have l3:=hk.same _ _ (by omega) ul rfl
    have hr:=run_endRound (P:=P) jump l3
    rw [hmk]at hr ⊢
    exact⟨hr,by rw [hmk]at l3;exact l3,World.putObj_heap_same (Array.getElem?_eq_some_iff.1 l3).1,(World.putObj_heap_other (by omega)).trans (hk.same _ _ (by omega) ud rfl)⟩
   rintro e a3 W3 hp
   cases e with
   |normal=>
    obtain⟨hk,hs3,hi3⟩:=hp
    obtain⟨hr,l3,l4,d4⟩:=fin none W3 hk
    exact⟨_,_,hr,.inl ⟨rfl,⟨hI.put _ hi3 (by omega) l3 rfl,l4,d4⟩,(World.putObj_heap_other (by omega)).trans (hs3.trans us)⟩⟩
   |ret=>
    obtain⟨hk,hi3⟩:=hp
    obtain⟨hr,l3,l4,d4⟩:=fin (some .ret) W3 hk
    exact⟨_,_,hr,.inr ⟨rfl,hIx.put _ hi3 (by omega) l3 rfl,l4,d4⟩⟩
   |exit id=>exact hp.elim
   |goto t=>exact hp.elim
   |panic ch=>exact hp.elim
   |outgrown=>exact hp.elim
  ·rintro e W ⟨⟨v,rfl⟩,⟨hi,hl,hd⟩|⟨k,hk,hi,hl,hd⟩⟩
   ·exact⟨none,_,by have:=run_endLoop (P:=P) hl (by rw [hmk];simp);rw [hmk]at this;exact this,hdone D _ (by omega) (hI.put _ hi (by omega) hl rfl) ((World.putObj_heap_other (by omega)).trans hd)⟩
   ·exact⟨some .ret,_,by have:=run_endLoop (P:=P) hl (by rw [hmk];simp);rw [hmk]at this;exact this,hstop D k _ (by omega) hk (hIx.put _ hi (by omega) hl rfl) ((World.putObj_heap_other (by omega)).trans hd)⟩
end
end Rl
end
section
open Go Go.RowKit Go.Shelf
namespace Ln
attribute [local go_sem] Oper.semAt_some
def cut:List UInt8→List (List UInt8)
 | []=>[]
 |c::l=>if c=10 then [c]::cut l else match cut l with
  | []=>[[c]]
  |a::r=>(c::a)::r
theorem CZ:∀(s:List UInt8),s≠[]→Lib.indexByte s 10= -1→cut s=[s]
 | [],h,_=>absurd rfl h
 |c::l,_,h=>by
  unfold Lib.indexByte at h
  by_cases hc:(c==10)=true
  ·rw [if_pos hc]at h;exact absurd h (by decide)
  ·rw [if_neg hc]at h
   have hc':c≠10:=fun e=>hc (by rw [e];rfl)
   by_cases h1:(Lib.indexByte l 10== -1)=true
   ·unfold cut
    rw [if_neg hc']
    cases l with
    |nil=>rfl
    |cons d l=>rw [CZ (d::l) (by simp) (eq_of_beq h1)]
   ·rw [if_neg h1]at h
    have:=Lib.indexByte_ge l 10
    omega
theorem C0:∀(s:List UInt8)(i:Nat),Lib.indexByte s 10=i→cut s=s.take (i+1)::cut (s.drop (i+1))
 | [],i,h=>by
  unfold Lib.indexByte at h
  omega
 |c::l,i,h=>by
  unfold Lib.indexByte at h
  by_cases hc:(c==10)=true
  ·rw [if_pos hc]at h
   obtain rfl:i=0:=by omega
   have hc':c=10:=eq_of_beq hc
   rw [cut,if_pos hc']
   simp
  ·rw [if_neg hc]at h
   have hc':c≠10:=fun e=>hc (by rw [e];rfl)
   by_cases h1:(Lib.indexByte l 10== -1)=true
   ·rw [if_pos h1]at h;omega
   ·rw [if_neg h1]at h
    have:=Lib.indexByte_ge l 10
    have h2:Lib.indexByte l 10≠ -1:=fun e=>h1 (by rw [e];rfl)
    have h3:=C0 l (i-1) (by omega)
    have h4:i-1+1=i:=by omega
    have h5:0<i:=by omega
    rw [cut,if_neg hc',h3,h4]
    simp
theorem cellOf{W:World}{B:Nat}{v:Value}{t:TypeId}(h:W.heap[B]? =some (.cells #[v] t (0,0))):W.cell? ⟨B,0,none⟩=some v∧W.frozen? ⟨B,0,none⟩=false:=by
 constructor<;>simp [World.cell?,World.frozen?,h]
theorem Mi{W:World}{B:Nat}{v:Value}{t:TypeId}(h:W.heap[B]? =some (.cells #[v] t (0,0)))(u:Value):(W.setCell ⟨B,0,none⟩ u).heap[B]? =some (.cells #[u] t (0,0)):=by
 simp [World.setCell,Array.getElem?_modify,h]
theorem C1(W:World)(B:Nat)(u:Value):W.grownBy (W.setCell ⟨B,0,none⟩ u) (some B):=
 ⟨rfl,rfl,rfl,by simp [World.setCell],fun k hk hne=>Below.heap_setCell _ _ _ _ (fun e=>hne (by rw [e]))⟩
theorem IF{W W':World}{o:Option Nat}(h:W.grownBy W' o):W.grownBy W'.drew o:=⟨h.os,h.tape,h.output,h.size,h.block⟩
theorem YD{R:List UInt8}{r:ByteArray}(h:r=⟨⟨R⟩⟩)(n:Nat):r.extract 0 n=⟨⟨R.take n⟩⟩:=by
 subst h
 apply ByteArray.ext
 apply Array.ext'
 simp
theorem YE{R:List UInt8}{r:ByteArray}(h:r=⟨⟨R⟩⟩)(n:Nat):r.extract n r.size=⟨⟨R.drop n⟩⟩:=by
 subst h
 apply ByteArray.ext
 apply Array.ext'
 rw [ByteArray.data_extract]
 show(Array.extract ⟨R⟩ n R.length).toList=_
 simp
 exact List.take_of_length_le (by simp)
def left(B:Nat)(W:World):Nat:=match W.cell? ⟨B,0,none⟩with
 |some (.string s)=>s.size
 |_=>0
theorem left_eq{W:World}{B t:Nat}{s:List UInt8}(h:W.heap[B]? =some (.cells #[.string ⟨⟨s⟩⟩] t (0,0))):left B W=s.length:=by
 unfold left
 rw [(cellOf h).1]
 rfl
theorem ib{R:List UInt8}{i:Int}(h:Lib.indexByte R 10=i)(w:World):Calls Tryz.prog 84 #[.string ⟨⟨R⟩⟩,.int .u8 10] w fun e w'=>e= .returned (.int .i64 i)∧w'=w:=by
 have h1:=Tryz.strings_IndexByte ⟨⟨R⟩⟩ 10 w
 rw [←h]
 exact h1
theorem ib2{R:List UInt8}{r:ByteArray}{i:Int}(hr:r=⟨⟨R⟩⟩)(h:Lib.indexByte R 10=i)(w:World):Calls Tryz.prog 84 #[.string r,.int .u8 10] w fun e w'=>e= .returned (.int .i64 i)∧w'=w:=by
 subst hr
 exact ib h w
theorem Mj:∀{R:List UInt8}{j:Nat},Lib.indexByte R 10=j→j+1≤R.length
 | [],j,h=>by unfold Lib.indexByte at h;omega
 |c::l,j,h=>by
  unfold Lib.indexByte at h
  split at h
  ·simp;omega
  ·split at h
   ·omega
   ·have:=Lib.indexByte_ge l 10
    rename_i h1 h2
    have h3:Lib.indexByte l 10≠ -1:=fun e=>h2 (by rw [e];rfl)
    have:=Mj (R:=l) (j:=j-1) (by omega)
    simp only [List.length_cons]
    omega
set_option maxHeartbeats 4000000 in
theorem Mk(F:Fence)(n:Nat)(h83:F.fn 83)(h84:F.fn 84)(hwide:F=Fence.wide)(hn:1≤n)(l B:Nat)(S:List UInt8)(hS:S.length≤100000)(J Jx:Nat→World→Prop)(hJB:Rl.Mh B J)
  (hY:∀k x W1,(cut S)[k]? =some x→J k W1→YieldAt F (n-1) Tryz.prog l #[Value.string ⟨⟨x⟩⟩] W1 fun e W'=>
   (e= .returned (.bool true)∧J (k+1) W'∧W'.heap[B]? =W1.heap[B]?)∨(e= .returned (.bool false)∧Jx (k+1) W'))
  (W:World) (hB:W.heap[B]? =some (.cells #[.string ⟨⟨S⟩⟩] 9 (0,0))) (h0:J 0 W):
  CallsIn F n Tryz.prog 83 #[.func (.yield l) #[] #[],.pointer (some ⟨B,0,none⟩)] W fun e W'=>(∃v,e= .returned v)∧(J (cut S).length W'∨∃k,k≤(cut S).length∧Jx k W'):=by
 subst hwide
 have mixed:=Tryz.oN.mixed
 refine callsIn_of_wp Tryz.func83 rfl h83 ?_ rfl
 simp only [Tryz.ntmps83,List.size_toArray,List.length_cons,List.length_nil,Nat.reduceAdd,Nat.reduceSub,Array.replicate_succ,Array.replicate_zero,List.push_toArray,List.append_toArray,List.nil_append,List.cons_append]
 gi_wp2
 gi_loopw [] (fun wr=>∃(k:Nat)(R:List UInt8),wr.heap[B]? =some (.cells #[.string ⟨⟨R⟩⟩] 9 (0,0))∧(∃pre,cut S=pre++cut R∧pre.length=k)∧R.length≤S.length∧J k wr) (fun wr=>left B wr)
 case atStart=>exact⟨0,S,hB,⟨[],rfl,rfl⟩,Nat.le_refl _,h0⟩
 case round=>
  obtain⟨k,R,hR,⟨pre,hp,hk⟩,hle,hJ⟩:=hrel
  obtain⟨hc,hfz⟩:=cellOf hR
  have hsz:(⟨⟨R⟩⟩:ByteArray).size=R.length:=rfl
  by_cases hnil:R=[]
  ·subst hnil
   gi_wp2
   go_end0
   have e:cut S=pre:=by rw [hp];simp [cut]
   rw [e]
   exact⟨⟨_,rfl⟩,.inl (by rw [hk];exact hJ)⟩
  ·have hpos:0<R.length:=List.length_pos_iff.2 hnil
   have hge:=Lib.indexByte_ge R 10
   by_cases hneg:Lib.indexByte R 10= -1
   ·have hcut:=CZ R hnil hneg
    have hx:(cut S)[k]? =some R:=by rw [hp,hcut,←hk];simp
    obtain⟨fn,tmps,assign,body,hy,hRd⟩:=hY k R (wr.setCell ⟨B,0,none⟩ (.string ⟨#[]⟩)) hx (hJB k _ _ hJ (C1 _ _ _))
    gi_wp2_with (gi_at_call 84;refine(callsIn_wide.2 (ib hneg _)).mono ?_;rintro e w1 ⟨rfl,rfl⟩)
    refine hRd.mono ?_
    rintro e W3 (⟨rfl,hJ3,hk3⟩|⟨rfl,hJx3⟩)
    ·have hR3:=hk3.trans (Mi hR (.string ⟨#[]⟩))
     gi_wp2
     go_roundw
     case rel=>exact⟨k+1,[],hR3,⟨pre++[R],by rw [hp,hcut];simp [cut],by simp [hk]⟩,by simp,hJ3⟩
     case measure=>rw [left_eq hR3,left_eq hR];exact hpos
    ·gi_wp2
     refine bodyPost_ret (results_none rfl _ _ _) rfl ?_
     exact⟨⟨_,rfl⟩,.inr ⟨k+1,by rw [hp,hcut];simp [hk],hJx3⟩⟩
   ·obtain⟨j,hj⟩:∃j:Nat,Lib.indexByte R 10=j:=⟨(Lib.indexByte R 10).toNat,by omega⟩
    have hcut:=C0 R j hj
    have hx:(cut S)[k]? =some (R.take (j+1)):=by rw [hp,hcut,←hk];simp
    have hjR:j+1≤R.length:=Mj hj
    obtain⟨r,hr⟩:∃r:ByteArray,r=⟨⟨R⟩⟩:=⟨_,rfl⟩
    have hrl:r.size=R.length:=by rw [hr];rfl
    rw [←hr]at hc hR
    have q1:(0:Int)≤(j:Int)+1:=by omega
    have q2:(j:Int)+1≤(r.size:Int):=by omega
    have q3:0<r.size:=by omega
    have q5:IntKind.i64.wrap ((j:Int)+1)=(j:Int)+1:=by
     unfold IntKind.wrap
     simp [IntKind.bits,IntKind.signed]
     omega
    have q4:r.size≤100000:=by omega
    have HRL:=Lib.hid hrl
    have HR:=Lib.hid hr
    clear hrl hr
    gi_wp2_with (gi_at_call 84;refine(callsIn_wide.2 (ib2 HR.out hj _)).mono ?_;rintro e w1 ⟨rfl,rfl⟩)
    gi_region_elder_o
    all_goals
     obtain⟨x1,hx1⟩:∃x1:ByteArray,x1=⟨⟨R.take (j+1)⟩⟩:=⟨_,rfl⟩
     obtain⟨x2,hx2⟩:∃x2:ByteArray,x2=⟨⟨R.drop (j+1)⟩⟩:=⟨_,rfl⟩
     rw [show r.extract 0 (j+1)=x1 from(YD HR.out _).trans hx1.symm,show r.extract (j+1) r.size=x2 from(YE HR.out _).trans hx2.symm]
     have hR2:=Mi hR (.string x2)
     have hJ2:=hJB k _ _ hJ (IF (C1 w1 B (.string x2)))
     obtain⟨fn,tmps,assign,body,hy,hRd⟩:=hY k (R.take (j+1)) _ hx hJ2
     rw [←hx1]at hy
     have HX1:=Lib.hid hx1
     have HX2:=Lib.hid hx2
     clear hx1 hx2
     gi_wp2
     refine hRd.mono ?_
     rintro e W3 (⟨rfl,hJ3,hk3⟩|⟨rfl,hJx3⟩)
     ·have hR3:=hk3.trans hR2
      rw [HX2.out]at hR3
      rw [HR.out]at hR
      have hl1:=left_eq hR3
      have hl2:=left_eq hR
      gi_wp2
      go_roundw
      case rel=>exact⟨k+1,R.drop (j+1),hR3,⟨pre++[R.take (j+1)],by rw [hp,hcut];simp,by simp [hk]⟩,by rw [List.length_drop];omega,hJ3⟩
      case measure=>rw [hl1,hl2,List.length_drop];omega
     ·gi_wp2
      refine bodyPost_ret (results_none rfl _ _ _) rfl ?_
      exact⟨⟨_,rfl⟩,.inr ⟨k+1,by rw [hp,hcut];simp [hk],hJx3⟩⟩
theorem gives(n:Nat)(hn:1≤n)(B:Nat)(S:List UInt8)(hS:S.length≤100000)(w:World)(hB:w.heap[B]? =some (.cells #[.string ⟨⟨S⟩⟩] 9 (0,0))):
  Rl.kc Fence.wide n Tryz.prog 83 #[.pointer (some ⟨B,0,none⟩)] (fun x=>Value.string ⟨⟨x⟩⟩) (cut S) B w:=
 fun l J Jx W hW hJ hJx hY h0=>Mk Fence.wide n trivial trivial rfl hn l B S hS J Jx hJ hY W (hW.trans hB) h0
theorem lines(s:ByteArray)(w:World):Calls Tryz.prog 51 #[.string s] w fun e w'=>e= .returned (.func (.func 83) #[] #[.pointer (some ⟨w.heap.size,0,none⟩)])∧w'=w.alloc (.cells #[.string s] 9):=by
 go_enter Tryz.func51,Tryz.ntmps51
 go_wp2
 go_ret
 exact⟨rfl,rfl⟩
end Ln
end
section
open Go Go.az Go.RowKit
namespace Te
open L Td Vl
set_option maxHeartbeats 4000000 in
theorem Ml(x:El t47)(c:Int)(hc:c≠0)(h15:∀w v',cQ w t47 x v'→Calls Tryz.prog 15 #[v'] w fun e w'=>e= .returned (.int .i64 c)∧Below w.heap.size w w')
  (w:World) (v':Value) (hl:cQ w t47 x v'):
  Calls Tryz.prog 14 #[v'] w fun e w'=>e= .returned (.tuple #[.string ⟨#[]⟩,.int .i64 c])∧Below w.heap.size w w':=by
 have mixed:=mix
 have hl1:=jd hl ((Below.refl _ w).alloc (Nat.le_refl _) (.cells v'.cells 47))
 obtain⟨tv,rv,hdv,rfl,ht,hr,hh⟩:=nf hl
 obtain⟨ot,ct,rfl,htt⟩:=cx rfl ht
 obtain⟨or',cr,rfl,hrr⟩:=cx rfl hr
 obtain⟨oh,ch,rfl,hhh⟩:=cx rfl hh
 have h15:=h15 _ _ hl1
 clear hl hl1 ht hr hh htt hrr hhh
 generalize (cK x).length=nt at*
 generalize (cv x).length=nr at*
 generalize (cf x).length=nh at*
 go_enter Tryz.func14,Tryz.ntmps14
 go_wp2_with (go_at_call 15;refine h15.mono ?_)
 rintro e w1 ⟨rfl,hb1⟩
 have hb1:=((Below.refl _ w).alloc (Nat.le_refl _) (.cells #[.int .i64 (gy x),.slice ot nt ct,.slice or' nr cr,.slice oh nh ch] 47)).trans (hb1.mono (by simp))
 go_wp2
 go_ret2
 exact⟨rfl,hb1⟩
end Te
end
section
open Go Go.az Go.RowKit
namespace Lo
theorem yC(z:Nat):∀rows:List (List Value),(∀r∈rows,r.length=z)→aW z (cW rows)=some rows.flatten
 | [],_=>rfl
 |r::rows,h=>by
  have ih:=yC z rows fun q hq=>h q (List.mem_cons_of_mem _ hq)
  have hr:=h r (List.mem_cons_self ..)
  show iff (Nat.beq (aY r) z) (andThen (aW z (cW rows)) fun d=>some (gL r d)) none=_
  rw [ih,aC,hr,show Nat.beq z z=true from Nat.beq_refl z]
  show some (gL r rows.flatten)=_
  rw [eH]
  rfl
theorem W2{fr:Nat→Option (List Value)}{v:Value}(h:jH v=true):Rd fr v v:=by
 cases v<;>first|exact .bool _|exact .int _ _|exact .string _|cases h
theorem wy{w:World}{base e size n:Nat}{v:Value}{t:Ty}(hp:cn t=true)(hz:al t=size){xs:List (El t)}(hn:n=xs.length)(h:w.ownsRow base e size v n (xs.map (ah t)).flatten):cQ w (.slice t) xs v:=by
 show VR ⟨fun _=>none,cP w⟩ No (dV (cW (xs.map (ah t)))) v
 have hl:(cW (xs.map (ah t))).length=n:=by rw [bx,List.length_map,hn]
 rcases h.2 with⟨rfl,h0⟩|⟨g,cap,cur,rfl,k1,k2,k3,k4,k5,k6⟩
 ·have:xs=[]:=List.eq_nil_of_length_eq_zero (by omega)
  subst this
  exact .data (.nF 0 0 rfl)
 ·have hr:jr size (cW (xs.map (ah t))) (xs.map (ah t)).flatten:=yC size _ fun r hr=>by
   obtain⟨y,_,rfl⟩:=List.mem_map.1 hr
   rw [aH,hz]
  have hw:eC cur.toList 0 (xs.map (ah t)).flatten:=by
   refine⟨?_,?_⟩
   ·rw [Nat.zero_add,h.1,Array.length_toList,k5]
    exact Nat.mul_le_mul_right _ k3
   ·rw [List.drop_zero,h.1]
    exact k6
  have:=Rd.data (fr:=cP w) (a':=⟨g,0,none⟩) (c':=cap) hr (by rw [hl];exact k3) (.inr ⟨rfl,cur.toList,qf (elem:=e) (fz:=(0,0)) k2,hw⟩) rfl fun i u u' h1 h2=>by
   rw [h1]at h2
   cases h2
   refine W2 ?_
   obtain⟨r,hr1,hu⟩:=List.mem_flatten.1 (List.mem_of_getElem? h1)
   obtain⟨y,_,rfl⟩:=List.mem_map.1 hr1
   exact gQ t y hp u hu
  rw [hl]at this
  exact .data this
end Lo
end
section
open Go Go.az Go.RowKit
namespace Pa
attribute [local go_sem] Oper.semAt_some
open L Td Te Vl Ad
def words(x:List UInt8):List (List UInt8):=(Lib.splitB ⟨#[32]⟩ 0 (Lib.countB ⟨(Lib.trimSuffix x [10]).toArray⟩ ⟨#[32]⟩) ⟨(Lib.trimSuffix x [10]).toArray⟩).map (·.data.toList)
def aS:St→List (List UInt8)→Option St
 |s,[]=>some s
 |s,l::ls=>match bB s (words l)with
  |none=>none
  |some s'=>aS s' ls
theorem AH(s:St):∀(ls:List (List UInt8))(l:List UInt8),aS s (ls++[l])=(aS s ls).bind fun s'=>bB s' (words l):=by
 intro ls
 induction ls generalizing s with
 |nil=>
  intro l
  show(match bB s (words l)with|none=>none|some s'=>aS s' [])=bB s (words l)
  cases bB s (words l)<;>rfl
 |cons a ls ih=>
  intro l
  show(match bB s (words a)with|none=>none|some s'=>aS s' (ls++[l]))=(match bB s (words a)with|none=>none|some s'=>aS s' ls).bind _
  cases bB s (words a)with
  |none=>rfl
  |some s'=>exact ih s' l
theorem AI(s:St):∀(ls ms:List (List UInt8)),aS s ls=none→aS s (ls++ms)=none:=by
 intro ls
 induction ls generalizing s with
 |nil=>intro ms h;cases h
 |cons a ls ih=>
  intro ms h
  have h:(match bB s (words a)with|none=>none|some s'=>aS s' ls)=none:=h
  show(match bB s (words a)with|none=>none|some s'=>aS s' (ls++ms))=none
  cases hc:bB s (words a)with
  |none=>rfl
  |some s'=>rw [hc]at h;exact ih s' ms h
theorem yD(x:List UInt8):(words x).length=Lib.countB ⟨(Lib.trimSuffix x [10]).toArray⟩ ⟨#[32]⟩+1:=by
 unfold words
 rw [List.length_map]
 exact Lib.splitB_all _ (by decide) _ _ _ rfl
theorem W4:∀args w,(callFunc 83 args).run Tryz.prog w= .ok (.enter 83 args) w:=enters_of Tryz.func83 (by kernel_rfl) rfl
def Kept(N:Nat)(w:World)(W:World):Prop:=Below N w W∧W.heap[N]? =some (.cells #[.int .i64 0,.slice none 0 0,.slice none 0 0,.slice none 0 0] 47 (0,0))∧W.heap[N+1]? =some (.cells #[.int .i64 0] 25 (0,0))
theorem C2{M n0:Nat}{st:St}{W W':World}{row:Option Nat}(h:Holds M n0 st W)(hg:W.grownBy W' row)(hr:∀r,row=some r→r≠M∧(r<n0∨∃o,W.heap[r]? =some o∧o.isCells=false)):Holds M n0 st W':=by
 obtain⟨tv,rv,hv,h1,h2,h3,h4⟩:=h
 have f:∀(k:Nat)(o:Obj),W.heap[k]? =some o→some k≠row→W'.heap[k]? =some o:=fun k o ho hk=>(hg.block k (az.aB ho) hk).trans ho
 have own:∀(e size n:Nat)(v:Value)(xs:List Value),W.ownsRow n0 e size v n xs→W'.ownsRow n0 e size v n xs:=fun e size n v xs h=>by
  refine⟨h.1,?_⟩
  rcases h.2 with h|⟨g,cap,cur,rfl,k1,k2,k3⟩
  ·exact .inl h
  ·refine .inr ⟨g,cap,cur,rfl,k1,f _ _ k2 fun e1=>?_,k3⟩
   obtain⟨_,h5|⟨o,h5,h6⟩⟩:=hr g e1.symm
   ·omega
   ·rw [k2]at h5
    cases h5
    cases h6
 exact⟨tv,rv,hv,f _ _ h1 fun e1=>(hr M e1.symm).1 rfl,own _ _ _ _ _ h2,own _ _ _ _ _ h3,own _ _ _ _ _ h4⟩
theorem dE.stays{n0 M:Nat}{W W':World}(h:dE n0 M W W'){k:Nat}{o:Obj}(hk:W.heap[k]? =some o)(h1:k≠M)(h2:k<n0):W'.heap[k]? =some o:=by
 rcases h.block k o hk h1 with h|⟨h3,_⟩
 ·exact h
 ·omega
theorem dE.keeps{n0 M B:Nat}{W W':World}(h:dE n0 M W W')(hM:M<B):KeepsFrom B W W':=
 ⟨h.size,fun k o hk ho hc=>by
  rcases h.block k o ho (by omega)with h1|⟨_,cs,t,_,rfl⟩
  ·exact h1
  ·cases hc⟩
theorem dE.toBelow{n0 M B:Nat}{W W':World}(h:dE n0 M W W')(hM:B≤M)(hn:B≤n0)(hB:B≤W.heap.size):Below B W W':=
 ⟨h.os,h.tape,h.output,h.size,fun k hk=>by
  have hlt:k<W.heap.size:=by omega
  have ho:=Array.getElem?_eq_getElem hlt
  rw [dE.stays h ho (by omega) (by omega),ho]⟩
theorem IG(x:List UInt8):wQ (words x)= .cells ((Lib.splitB ⟨#[32]⟩ 0 (Lib.countB ⟨(Lib.trimSuffix x [10]).toArray⟩ ⟨#[32]⟩) ⟨(Lib.trimSuffix x [10]).toArray⟩).map Value.string).toArray 9 (0,0):=by
 unfold wQ words
 rw [List.map_map]
 rfl
theorem C3(x:List UInt8):(Lib.trimSuffix x [10]).length≤x.length:=by
 unfold Lib.trimSuffix
 split<;>simp
theorem W5(x:List UInt8)(hx:x.length≤30000)(w:World):Calls Tryz.prog 54 #[.string ⟨⟨x⟩⟩,.string ⟨#[10]⟩] w fun e w'=>e= .returned (.string ⟨(Lib.trimSuffix x [10]).toArray⟩)∧w'=w:=
 Tryz.strings_TrimSuffix ⟨⟨x⟩⟩ ⟨#[10]⟩ w (show x.length≤_ by omega)
theorem Th(x:List UInt8)(hx:x.length≤30000)(m:Int)(w:World)(hm:w.cell? ⟨3,0,none⟩=some (.int .i64 m)):
  Calls Tryz.prog 53 #[.string ⟨(Lib.trimSuffix x [10]).toArray⟩,.string ⟨#[32]⟩] w fun e w'=>e= .returned (.slice (some ⟨w.heap.size,0,none⟩) (words x).length (words x).length)∧w'=w.alloc (wQ (words x)):=by
 have hl:=C3 x
 have:=Tryz.strings_Split ⟨(Lib.trimSuffix x [10]).toArray⟩ ⟨#[32]⟩ m w (show(Lib.trimSuffix x [10]).length<_ by omega) hm (by decide)
 rw [yD,IG]
 exact this
theorem wz:∀s:List UInt8,(Ln.cut s).flatten=s
 | []=>rfl
 |c::l=>by
  have ih:=wz l
  unfold Ln.cut
  split
  ·simp [ih]
  ·cases h:Ln.cut l with
   |nil=>rw [h]at ih;simp at ih;simp [ih]
   |cons a r=>rw [h]at ih;simp at ih;simp [ih]
theorem GH{s x:List UInt8}(h:x∈Ln.cut s):x.length≤s.length:=by
 have h2:=wz s
 have:x.Sublist (Ln.cut s).flatten:=List.sublist_flatten_of_mem h
 rw [h2]at this
 exact this.length_le
def wA(w:World)(st:St)(v:Value):Prop:=∃tv rv hv,v= .agg #[.int .i64 st.dQ,tv,rv,hv]∧w.ownsRow 0 93 33 tv st.tags.length (st.tags.map EM).flatten∧w.ownsRow 0 95 38 rv st.cT.length (st.cT.map Ad.Al).flatten∧w.ownsRow 0 91 32 hv st.cy.length (gW st.cy)
theorem qq{w:World}{b e size n:Nat}{v:Value}{xs:List Value}(h:w.ownsRow b e size v n xs):w.ownsRow 0 e size v n xs:=by
 refine⟨h.1,?_⟩
 rcases h.2 with h|⟨g,cap,cur,h1,h2,h3⟩
 ·exact .inl h
 ·exact .inr ⟨g,cap,cur,h1,Nat.zero_le _,h3⟩
theorem wA.below{w w':World}{st:St}{v:Value}(h:wA w st v)(hb:Below w.heap.size w w'):wA w' st v:=by
 obtain⟨tv,rv,hv,h1,h2,h3,h4⟩:=h
 exact⟨tv,rv,hv,h1,aE h2 hb,aE h3 hb,aE h4 hb⟩
def ZS:Value:= .agg #[.int .i64 0,.slice none 0 0,.slice none 0 0,.slice none 0 0]
theorem gS{W:World}{D k:Nat}{o x:Obj}(h:k≠D)(hk:W.heap[k]? =some o):(W.putObj D x).heap[k]? =some o:=(World.putObj_heap_other h).trans hk
theorem nk{w W:World}{N D:Nat}{x:Obj}(h:Below N w W)(hD:N≤D):Below N w (W.putObj D x):=
 h.trans ⟨rfl,rfl,rfl,by rw [World.putObj_size];exact Nat.le_refl _,fun k hk=>World.putObj_heap_other (by omega)⟩
theorem GJ{tmps:Array Value}{N:Nat}(h2:tmps.getD 2 undef= .pointer (some ⟨N,0,none⟩))(h3:tmps.getD 3 undef= .pointer (some ⟨N+1,0,none⟩)){W:World}{a b c d e:Value}(h4:W.heap[N]? =some (.cells #[a,b,c,d] 47 (0,0)))(h5:W.heap[N+1]? =some (.cells #[e] 25 (0,0))):
  (results Tryz.f17 tmps).run Tryz.prog W= .ok (.tuple #[.agg #[a,b,c,d],e]) W:=by
 obtain⟨⟨c0,c1,c2,c3⟩,_,_,_,_⟩:=cV h4
 obtain⟨d0,d1⟩:=Ln.cellOf h5
 have h2':tmps[2]?.getD undef= .pointer (some ⟨N,0,none⟩):=by simpa using h2
 have h3':tmps[3]?.getD undef= .pointer (some ⟨N+1,0,none⟩):=by simpa using h3
 simp [results,Tryz.f17,go_sem,h2',h3',c0,c1,c2,c3,d0]
def Ra(W:World)(N:Nat)(a b c d e:Value):World:=(((((W.setCell ⟨N,0,none⟩ a).setCell ⟨N,1,none⟩ b).setCell ⟨N,2,none⟩ c).setCell ⟨N,3,none⟩ d).setCell ⟨N+1,0,none⟩ e)
theorem EO(W:World)(N:Nat)(a b c d e:Value){x y z u:Value}(h0:W.heap[N]? =some (.cells #[x,y,z,u] 47 (0,0))){v:Value}(h1:W.heap[N+1]? =some (.cells #[v] 25 (0,0))):
  (∀B,KeepsFrom B W (Ra W N a b c d e))∧Below N W (Ra W N a b c d e)∧(Ra W N a b c d e).heap[N]? =some (.cells #[a,b,c,d] 47 (0,0))∧(Ra W N a b c d e).heap[N+1]? =some (.cells #[e] 25 (0,0))∧(∀k,N+2≤k→(Ra W N a b c d e).heap[k]? =W.heap[k]?):=by
 have f:∀(W:World)(i:Nat)(v:Value),(W.setCell ⟨N,i,none⟩ v).heap[N+1]? =W.heap[N+1]? :=fun W i v=>Below.heap_setCell _ _ _ _ (by show N+1≠N;omega)
 have s0:=Ui.heap_set (i:=3) (Ui.heap_set (i:=2) (Ui.heap_set (i:=1) (Ui.heap_set (i:=0) h0 a) b) c) d
 refine⟨fun B=>?_,?_,?_,?_,fun k hk=>?_⟩
 ·exact(((((KeepsOthers.setCell _ _ _).from B).trans ((KeepsOthers.setCell _ _ _).from B)).trans ((KeepsOthers.setCell _ _ _).from B)).trans ((KeepsOthers.setCell _ _ _).from B)).trans ((KeepsOthers.setCell _ _ _).from B)
 ·exact(((((Below.refl N W).setCell (p:=⟨N,0,none⟩) (Nat.le_refl _) _).setCell (p:=⟨N,1,none⟩) (Nat.le_refl _) _).setCell (p:=⟨N,2,none⟩) (Nat.le_refl _) _).setCell (p:=⟨N,3,none⟩) (Nat.le_refl _) _).setCell (p:=⟨N+1,0,none⟩) (Nat.le_succ _) _
 ·unfold Ra
  rw [Below.heap_setCell _ _ _ _ (by show N≠N+1;omega)]
  exact s0
 ·unfold Ra
  have h2:((((W.setCell ⟨N,0,none⟩ a).setCell ⟨N,1,none⟩ b).setCell ⟨N,2,none⟩ c).setCell ⟨N,3,none⟩ d).heap[N+1]? =some (.cells #[v] 25 (0,0)):=by rw [f,f,f,f];exact h1
  exact Ui.heap_set (i:=0) h2 _
 ·unfold Ra
  rw [Below.heap_setCell _ _ _ _ (by show k≠N+1;omega),Below.heap_setCell _ _ _ _ (by show k≠N;omega),Below.heap_setCell _ _ _ _ (by show k≠N;omega),Below.heap_setCell _ _ _ _ (by show k≠N;omega),Below.heap_setCell _ _ _ _ (by show k≠N;omega)]
theorem rL{w:World}{b e size n:Nat}{v:Value}{xs:List Value}(h:w.ownsRow b e size v n xs):∃oa l c,v= .slice oa l c:=by
 rcases h.2 with⟨h,_⟩|⟨g,cap,cur,h1,h2⟩
 ·exact⟨_,_,_,h⟩
 ·exact⟨_,_,_,h1⟩
theorem Mm{w W:World}{B e size n:Nat}{v:Value}{xs:List Value}(h:w.ownsRow B e size v n xs)(hf:∀k o,B≤k→w.heap[k]? =some o→o.isCells=true→W.heap[k]? =some o):W.ownsRow B e size v n xs:=by
 refine⟨h.1,?_⟩
 rcases h.2 with h|⟨g,cap,cur,h1,h2,h3,h4⟩
 ·exact .inl h
 ·exact .inr ⟨g,cap,cur,h1,h2,hf _ _ h2 h3 rfl,h4⟩
set_option maxHeartbeats 8000000 in
theorem parse(S:List UInt8)(hS:S.length≤30000)(hwd:∀x∈Ln.cut S,(words x).length≤30001∧∀z∈words x,z.length≤4000)
    (hst:∀k st,aS St.nil ((Ln.cut S).take k)=some st→st.tags.length≤100000∧st.cT.length≤100000∧st.cy.length≤100000)
    (T:St→ByteArray×Int) (hT:∀st,aS St.nil (Ln.cut S)=some st→∀w' v',cZ w'→wA w' st v'→Calls Tryz.prog 14 #[v'] w' fun e w''=>e= .returned (.tuple #[.string (T st).1,.int .i64 (T st).2])∧Below w'.heap.size w' w'') (m:Int) (w:World) (hv:cZ w) (hm:w.cell? ⟨3,0,none⟩=some (.int .i64 m)):
    Calls Tryz.prog 17 #[.string ⟨⟨S⟩⟩] w fun e w'=>Below w.heap.size w w'∧
      ((∃st v,aS St.nil (Ln.cut S)=some st∧(T st).2=0∧(T st).1=⟨⟨S⟩⟩∧e= .returned (.tuple #[v,.int .i64 0])∧wA w' st v)∨
       ((∀st,aS St.nil (Ln.cut S)=some st→¬((T st).2=0∧(T st).1=⟨⟨S⟩⟩))∧e= .returned (.tuple #[ZS,.int .i64 12]))):=by
  have mixed:=mix
  have hsz:(⟨⟨S⟩⟩:ByteArray).size=S.length:=rfl
  refine(callsIn_wide (n:=4)).1 ?_
  refine callsIn_of_wp_marks Tryz.func17 rfl trivial ?_ rfl
  simp only [Tryz.ntmps17,List.size_toArray,List.length_cons,List.length_nil,Nat.reduceAdd,Nat.reduceSub,Array.replicate_succ,Array.replicate_zero,List.push_toArray,List.append_toArray,List.nil_append,List.cons_append]
  gi_wp2_with (refine⟨trivial,?_⟩;gi_at_call 51;refine(callsIn_wide.2 (Ln.lines _ _)).mono ?_;rintro e w' ⟨rfl,rfl⟩)
  obtain⟨N,hN⟩:∃N,N=w.heap.size:=⟨_,rfl⟩
  obtain⟨w4,hw4⟩:∃w4,w4=(((w.alloc (.cells #[.int .i64 0,.slice none 0 0,.slice none 0 0,.slice none 0 0] 47)).alloc (.cells #[.int .i64 0] 25)).alloc (.cells #[.int .i64 0,.slice none 0 0,.slice none 0 0,.slice none 0 0] 47)).alloc (.cells #[.string ⟨⟨S⟩⟩] 9):=⟨_,rfl⟩
  have z4:w4.heap.size=N+4:=by rw [hw4];simp [hN]
  have q0:w4.heap[N]? =some (.cells #[.int .i64 0,.slice none 0 0,.slice none 0 0,.slice none 0 0] 47 (0,0)):=by
    rw [hw4,hN,Below.heap_alloc _ _ _ (by simp;omega),Below.heap_alloc _ _ _ (by simp;omega),Below.heap_alloc _ _ _ (by simp)]
    exact Tx.aw _ _
  have q1:w4.heap[N+1]? =some (.cells #[.int .i64 0] 25 (0,0)):=by
    rw [hw4,hN,Below.heap_alloc _ _ _ (by simp),Below.heap_alloc _ _ _ (by simp)]
    have:=Tx.aw (w.alloc (.cells #[.int .i64 0,.slice none 0 0,.slice none 0 0,.slice none 0 0] 47)) (.cells #[.int .i64 0] 25)
    simpa using this
  have q2:w4.heap[N+2]? =some (.cells #[.int .i64 0,.slice none 0 0,.slice none 0 0,.slice none 0 0] 47 (0,0)):=by
    rw [hw4,hN,Below.heap_alloc _ _ _ (by simp)]
    have:=Tx.aw ((w.alloc (.cells #[.int .i64 0,.slice none 0 0,.slice none 0 0,.slice none 0 0] 47)).alloc (.cells #[.int .i64 0] 25)) (.cells #[.int .i64 0,.slice none 0 0,.slice none 0 0,.slice none 0 0] 47)
    simpa using this
  have q3:w4.heap[N+3]? =some (.cells #[.string ⟨⟨S⟩⟩] 9 (0,0)):=by
    have:=Tx.aw (((w.alloc (.cells #[.int .i64 0,.slice none 0 0,.slice none 0 0,.slice none 0 0] 47)).alloc (.cells #[.int .i64 0] 25)).alloc (.cells #[.int .i64 0,.slice none 0 0,.slice none 0 0,.slice none 0 0] 47)) (.cells #[.string ⟨⟨S⟩⟩] 9)
    rw [←hw4]at this
    simpa [hN]using this
  have qB:Below N w w4:=by
    rw [hw4,hN]
    exact((((Below.refl _ w).alloc (Nat.le_refl _) _).alloc (by simp) _).alloc (by simp;omega) _).alloc (by simp;omega) _
  rw [←hw4,←hN]
  clear hw4
  have qK:Kept N w w4:=⟨qB,q0,q1⟩
  have HN:=Lib.hid hN
  clear hN
  refine Rl.law rfl (by decide) (gf:=83) (lb:= #[.pointer (some ⟨N+3,0,none⟩)]) rfl trivial W4 (enc:=fun x=>Value.string ⟨⟨x⟩⟩) (xs:=Ln.cut S) (s:=N+3) (by omega)
    (Ln.gives 3 (by decide) (N+3) S (by omega) w4 q3)
    (fun k W=>∃st,aS St.nil ((Ln.cut S).take k)=some st∧Holds (N+2) (N+4) st W∧Kept N w W)
    (fun k W=>aS St.nil (Ln.cut S)=none∧Below N w W∧W.heap[N]? =some (.cells #[.int .i64 0,.slice none 0 0,.slice none 0 0,.slice none 0 0] 47 (0,0))∧W.heap[N+1]? =some (.cells #[.int .i64 12] 25 (0,0)))
    ?hI ?hIx ?h0
    (fun x=> {tmps:= #[.string ⟨⟨S⟩⟩,undef,.pointer (some ⟨N,0,none⟩),.pointer (some ⟨N+1,0,none⟩),.pointer (some ⟨N+1+1,0,none⟩),.string ⟨⟨x⟩⟩,undef,undef,.string ⟨⟨S⟩⟩,.int .i64 S.length,.bool (decide ((30000:Int)<S.length)),undef,.string ⟨⟨S⟩⟩,.func (.func 83) #[] #[.pointer (some ⟨N+3,0,none⟩)],.string ⟨⟨x⟩⟩,undef,undef,undef,undef,undef,undef,undef,undef,undef,undef,undef,undef,undef,undef,undef,undef,undef,undef,undef,undef],defers:=[]}) ?assign ?body ?done ?stop
  case hI=>
    rintro k W W' row ⟨st,h1,h2,h3⟩ hg hr
    rw [z4]at hr
    refine⟨st,h1,C2 h2 hg (fun r e=>?_),?_⟩
    · rcases hr r e with rfl|⟨h4,h5⟩
      · exact⟨by omega,.inl (by omega)⟩
      · exact⟨by omega,.inr h5⟩
    · obtain⟨k1,k2,k3⟩:=h3
      have hne:∀k,k<N+2→some k≠row:=fun k hk e=>by
        rcases hr k e.symm with h|⟨h,_⟩<;>omega
      refine⟨?_,?_,?_⟩
      · exact k1.grown hg (Nat.le_of_lt (az.aB k2)) (fun k e=>by rcases hr k e with h|⟨h,_⟩<;>omega)
      · exact(hg.block N (az.aB k2) (hne N (by omega))).trans k2
      · exact(hg.block (N+1) (az.aB k3) (hne (N+1) (by omega))).trans k3
  case hIx=>
    rintro k W W' row ⟨h1,k1,k2,k3⟩ hg hr
    rw [z4]at hr
    have hne:∀k,k<N+2→some k≠row:=fun k hk e=>by
      rcases hr k e.symm with h|⟨h,_⟩<;>omega
    refine⟨h1,?_,?_,?_⟩
    · exact k1.grown hg (Nat.le_of_lt (az.aB k2)) (fun k e=>by rcases hr k e with h|⟨h,_⟩<;>omega)
    · exact(hg.block N (az.aB k2) (hne N (by omega))).trans k2
    · exact(hg.block (N+1) (az.aB k3) (hne (N+1) (by omega))).trans k3
  case h0=>exact⟨St.nil,rfl,⟨_,_,_,q2,World.ownsRow_nil _ _ _ _,World.ownsRow_nil _ _ _ _,World.ownsRow_nil _ _ _ _⟩,qK⟩
  case assign=>
    intro l x W K hK
    gi_wp2
    exact hK
  case body=>
    rintro l k x W hx ⟨st,ht,hH,hK⟩ hlt
    have hxm:=List.mem_of_getElem? hx
    have hxl:x.length≤30000:=Nat.le_trans (GH hxm) hS
    obtain⟨hw1,hw2⟩:=hwd x hxm
    obtain⟨g1,g2,g3⟩:=hst k st ht
    obtain⟨hb,h0,h1⟩:=hK
    have hbw:Below w.heap.size w W:=by rw [←HN.out];exact hb
    have hvW:=hv.below hbw
    have hmW:W.cell? ⟨3,0,none⟩=some (.int .i64 m):=(hbw.cell (p:=⟨3,0,none⟩) (by have:=hv.size;show 3<_;omega)).trans hm
    have hwp:0<(words x).length:=by rw [yD];omega
    have bA:Below W.heap.size W (W.alloc (wQ (words x))):=(Below.refl _ W).alloc (Nat.le_refl _) _
    have hHA:Holds (N+2) (N+4) st (W.alloc (wQ (words x))):=by
      obtain⟨tv,rv,hv',k1,k2,k3,k4⟩:=hH
      exact⟨tv,rv,hv',(bA.block _ (az.aB k1)).trans k1,aE k2 bA,aE k3 bA,aE k4 bA⟩
    have hsz4:N+5<W.heap.size:=by rw [z4]at hlt;omega
    have hcall:=WZ (N+2) W.heap.size (N+4) _ st (words x) (W.alloc (wQ (words x))) (hvW.below bA) hHA (by simp;omega) (by omega) (Tx.aw _ _) (by omega) rfl hw1 hwp hw2 g1 g2 g3
    have htn:aS St.nil ((Ln.cut S).take (k+1))=bB st (words x):=by
      obtain⟨h5,h6⟩:=List.getElem?_eq_some_iff.1 hx
      rw [List.take_succ_eq_append_getElem h5,AH,ht,h6]
      rfl
    obtain⟨n,hn⟩:∃n,n=(words x).length:=⟨_,rfl⟩
    rw [←hn]at hcall hw1 hwp
    have hsp:=Th x hxl m W hmW
    rw [←hn]at hsp
    clear hn hw2 hwd hst hHA
    gi_wp2_with (first
      |(refine⟨trivial,?_⟩;gi_at_call 54;refine(CallsIn.inRound l (callsIn_wide.2 (W5 x hxl _))).mono ?_;rintro e w5 ⟨rfl,rfl⟩)
      |(refine⟨trivial,?_⟩;gi_at_call 53;refine(CallsIn.inRound l (callsIn_wide.2 hsp)).mono ?_;rintro e w5 ⟨rfl,rfl⟩)
      |(refine⟨trivial,?_⟩;gi_at_call 52;refine(CallsIn.inRound l (callsIn_wide.2 hcall)).mono ?_))
    rintro e w6 ⟨rfl,hC,hS'⟩
    have hCW:dE (N+4) (N+2) w5 w6:=(dE.below bA).trans hC
    have hb6:Below N w w6:=hb.trans (dE.toBelow hCW (by omega) (by omega) (Nat.le_of_lt (az.aB h0)))
    have r0:=dE.stays hCW h0 (by omega) (by omega)
    have r1:=dE.stays hCW h1 (by omega) (by omega)
    cases hc:bB st (words x)with
    |some st'=>
      rw [hc]at hS' htn
      have hH6:=hS' st' rfl
      gi_wp2
      refine⟨dE.keeps hCW (by rw [z4];omega),?_,st',htn,hH6,hb6,r0,r1⟩
      have hlt3:N+3<w5.heap.size:=by omega
      rw [dE.stays hCW (Array.getElem?_eq_getElem hlt3) (by omega) (by omega),Array.getElem?_eq_getElem hlt3]
    |none=>
      rw [hc]at htn
      have htn':aS St.nil (Ln.cut S)=none:=by
        rw [←List.take_append_drop (k+1) (Ln.cut S)]
        exact AI _ _ _ htn
      clear hS'
      obtain⟨⟨c0,c1,c2,c3⟩,f0,f1,f2,f3⟩:=cV r0
      obtain⟨d0,d1⟩:=Ln.cellOf r1
      have kf:=dE.keeps (B:=w4.heap.size) hCW (by rw [z4];omega)
      have hfin:=EO w6 N (.int .i64 0) (.slice none 0 0) (.slice none 0 0) (.slice none 0 0) (.int .i64 12) r0 r1
      have kf2:=kf.trans (hfin.1 w4.heap.size)
      have hb7:=hb6.trans hfin.2.1
      have hN7:=hfin.2.2.1
      have hN8:=hfin.2.2.2.1
      clear hfin
      gi_wp2
      exact⟨kf2,htn',hb7,hN7,hN8⟩
  case done=>
    rintro D W hD ⟨st,ht,⟨tv,rv,hv',k1,k2,k3,k4⟩,hb,h0,h1⟩ hDf
    rw [List.take_length]at ht
    have hbw:Below w.heap.size w W:=by rw [←HN.out];exact hb
    have hvW:=hv.below hbw
    obtain⟨t1,t2,t3,rfl⟩:=rL k2
    obtain⟨r1',r2',r3',rfl⟩:=rL k3
    obtain⟨s1,s2,s3,rfl⟩:=rL k4
    have hl:wA W st (.agg #[.int .i64 st.dQ,.slice t1 t2 t3,.slice r1' r2' r3',.slice s1 s2 s3]):=⟨_,_,_,rfl,qq k2,qq k3,qq k4⟩
    obtain⟨⟨c0,c1,c2,c3⟩,f0,f1,f2,f3⟩:=cV (M:=N+1+1) k1
    have hc14:=hT st ht W _ hvW hl
    clear hst hT hwd
    gi_wp2_with (refine⟨trivial,?_⟩;gi_at_call 14;refine(callsIn_wide.2 hc14).mono ?_)
    rintro e w6 ⟨rfl,b6⟩
    have hb6:Below N w w6:=hb.trans (b6.mono (Nat.le_of_lt (az.aB h0)))
    have r0:=(b6.block N (az.aB h0)).trans h0
    have r1:=(b6.block (N+1) (az.aB h1)).trans h1
    have rM:=(b6.block (N+2) (az.aB k1)).trans k1
    have rD:=(b6.block D (az.aB hDf)).trans hDf
    have o2:=aE k2 b6
    have o3:=aE k3 b6
    have o4:=aE k4 b6
    obtain⟨⟨p0,p1,p2,p3⟩,g0,g1,g2,g3⟩:=cV (M:=N+1+1) rM
    obtain⟨⟨q0,q1,q2,q3⟩,u0,u1,u2,u3⟩:=cV r0
    obtain⟨d0,d1⟩:=Ln.cellOf r1
    clear c0 c1 c2 c3 f0 f1 f2 f3 hc14 hl
    have hbad:=EO w6 N (.int .i64 0) (.slice none 0 0) (.slice none 0 0) (.slice none 0 0) (.int .i64 12) r0 r1
    have hgood:=EO w6 N (.int .i64 st.dQ) (.slice t1 t2 t3) (.slice r1' r2' r3') (.slice s1 s2 s3) (.int .i64 0) r0 r1
    have HB:=Lib.hid hbad
    have HG:=Lib.hid hgood
    clear hbad hgood
    obtain⟨t,ht1⟩:∃t,t=(T st).1:=⟨_,rfl⟩
    obtain⟨c,hc1⟩:∃c,c=(T st).2:=⟨_,rfl⟩
    rw [←ht1,←hc1]
    have HT1:=Lib.hid ht1
    have HC1:=Lib.hid hc1
    clear ht1 hc1
    have hbadEnd:¬(c=0∧t=⟨⟨S⟩⟩)→∀st',aS St.nil (Ln.cut S)=some st'→¬((T st').2=0∧(T st').1=⟨⟨S⟩⟩):=fun hn st' h=>by
      rw [ht]at h
      cases h
      rw [←HT1.out,←HC1.out]
      exact hn
    have HE:=Lib.hid hbadEnd
    clear hbadEnd
    by_cases hc0:c=0
    · by_cases hts:t=⟨⟨S⟩⟩
      · subst hc0 hts
        gi_wp2
        obtain⟨_,v2,v3,v4,v5⟩:=HG.out
        have rD':=(v5 D (by omega)).trans rD
        refine⟨by simp,.inl ⟨_,_,rfl,run_takeDeferred rD',?_⟩⟩
        refine⟨.tuple #[.agg #[.int .i64 st.dQ,.slice t1 t2 t3,.slice r1' r2' r3',.slice s1 s2 s3],.int .i64 0],GJ rfl rfl (gS (by omega) v3) (gS (by omega) v4),?_,.inl ⟨st,_,ht,HC1.out.symm,HT1.out.symm,rfl,_,_,_,rfl,?_,?_,?_⟩⟩
        · rw [←HN.out]
          exact nk (hb6.trans v2) (by omega)
        all_goals
          refine qq (Mm (B:=N+4) (w:=w6) (by assumption) fun k o hk ho hc=>?_)
          by_cases e:k=D
          · subst e
            rw [rD]at ho
            cases ho
            cases hc
          · exact(World.putObj_heap_other e).trans ((v5 k (by omega)).trans ho)
      · have hne:(t.toList==S)=false:=beq_eq_false_iff_ne.2 fun e=>hts (by
          rw [Rv.XK]at e
          apply ByteArray.ext
          apply Array.ext'
          exact e)
        have hne2:¬t.toList=S:=beq_eq_false_iff_ne.1 hne
        subst hc0
        gi_wp2
        obtain⟨_,v2,v3,v4,v5⟩:=HB.out
        have rD':=(v5 D (by omega)).trans rD
        refine⟨by simp,.inl ⟨_,_,rfl,run_takeDeferred rD',?_⟩⟩
        refine⟨.tuple #[ZS,.int .i64 12],GJ rfl rfl (gS (by omega) v3) (gS (by omega) v4),?_,.inr ⟨HE.out (fun h=>hts h.2),rfl⟩⟩
        rw [←HN.out]
        exact nk (hb6.trans v2) (by omega)
    · gi_wp2
      obtain⟨_,v2,v3,v4,v5⟩:=HB.out
      have rD':=(v5 D (by omega)).trans rD
      refine⟨by simp,.inl ⟨_,_,rfl,run_takeDeferred rD',?_⟩⟩
      refine⟨.tuple #[ZS,.int .i64 12],GJ rfl rfl (gS (by omega) v3) (gS (by omega) v4),?_,.inr ⟨HE.out (fun h=>hc0 h.1),rfl⟩⟩
      rw [←HN.out]
      exact nk (hb6.trans v2) (by omega)
  case stop=>
    rintro D k W hD hk ⟨h1,hb,h2,h3⟩ hDf
    obtain⟨⟨c0,c1,c2,c3⟩,f0,f1,f2,f3⟩:=cV h2
    obtain⟨d0,d1⟩:=Ln.cellOf h3
    gi_wp2
    refine⟨by simp,.inl ⟨_,_,rfl,run_takeDeferred hDf,?_⟩⟩
    refine⟨.tuple #[ZS,.int .i64 12],GJ rfl rfl (gS (by omega) h2) (gS (by omega) h3),?_,.inr ⟨fun st h=>(by rw [h1]at h;cases h),rfl⟩⟩
    rw [←HN.out]
    exact nk hb (by omega)
end Pa
end
end Go.Proofs.YtdmpneafeadbbaaGreatDoor
end
