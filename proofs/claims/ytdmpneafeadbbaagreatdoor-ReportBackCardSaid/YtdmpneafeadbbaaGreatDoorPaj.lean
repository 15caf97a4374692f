/- What the card of ReportBack leans on, part 10: written with few blanks and short names by a program out of longer texts. Conditions: those of each lemma. -/
import Derived.Test.YtdmpneafeadbbaaGreatDoorPai
import Derived.Deep.DeepCutAuto
import Derived.Deep.RegionLaw
import Derived.Laws.CopyOwn
import Derived.BigQuiet
import Derived.Deep.QuietTactic
import Derived.WalkSpells
import Derived.Lib.ItoaLen
import Derived.Deep.RegionHeld3
import Derived.Lib.ItoaMem
import Derived.Lib.Bytealg
import Derived.ProofKit
import Derived.Laws.Cells
import Derived.Deep.RegionWith
set_option maxRecDepth 100000
set_option linter.unusedVariables false
set_option linter.unusedSimpArgs false
noncomputable section
namespace Go.Proofs.YtdmpneafeadbbaaGreatDoor
section
open Go Go.az Go.RowKit
namespace Es
def sp(c:UInt8):Bool:=c==32||c==92
def lJ(c:UInt8):List UInt8:=if c=32 then [92,115]else if c=92 then [92,92]else [c]
def iC(l:List UInt8):List UInt8:=l.flatMap lJ
def tI(l:List UInt8):Nat:=l.count 92+l.count 32
theorem k9(a b:List UInt8):iC (a++b)=iC a++iC b:=by simp [iC]
theorem ek(a b:List UInt8):tI (a++b)=tI a+tI b:=by simp [tI,List.count_append];omega
theorem tJ(c:UInt8):tI [c]=if c=32∨c=92 then 1 else 0:=by
 unfold tI
 by_cases h:c=92
 ·subst h;rfl
 ·by_cases h2:c=32
  ·subst h2;rfl
  ·rw [List.count_singleton,List.count_singleton]
   simp [h,h2]
theorem CT(c:UInt8):(lJ c).length=1+tI [c]:=by
 rw [tJ]
 unfold lJ
 by_cases h:c=32
 ·simp [h]
 ·by_cases h2:c=92<;>simp [h,h2]
theorem oE(l:List UInt8):(iC l).length=l.length+tI l:=by
 induction l with
 |nil=>rfl
 |cons c l ih=>
  have:c::l=[c]++l:=rfl
  rw [this,k9,ek,List.length_append,List.length_append,ih]
  have:iC [c]=lJ c:=by simp [iC]
  rw [this,CT]
  simp
  omega
theorem Ap(l:List UInt8):tI l≤l.length:=by
 induction l with
 |nil=>exact Nat.le_refl _
 |cons c l ih=>
  have:c::l=[c]++l:=rfl
  rw [this,ek,List.length_append,tJ]
  simp only [List.length_singleton]
  split<;>omega
theorem LA(l:List UInt8)(h:tI l=0):iC l=l:=by
 induction l with
 |nil=>rfl
 |cons c l ih=>
  have e:c::l=[c]++l:=rfl
  rw [e,ek]at h
  have h1:tI [c]=0:=by omega
  rw [tJ]at h1
  rw [e,k9,ih (by omega)]
  have:iC [c]=lJ c:=by simp [iC]
  rw [this]
  unfold lJ
  by_cases g:c=32
  ·simp [g]at h1
  ·by_cases g2:c=92
   ·simp [g2]at h1
   ·simp [g,g2]
theorem take_succ(s:ByteArray)(k:Nat)(h:k<s.size):s.data.toList.take (k+1)=s.data.toList.take k++[s[k]]:=by
 rw [List.take_succ_eq_append_getElem (by simpa using h)];rfl
theorem jI{B:Nat}{a w:World}(h:Below B a w)(q:Nat):Below B a (w.drewN q):=⟨h.os,h.tape,h.output,h.size,h.block⟩
theorem PU(s:ByteArray):(⟨s.data.toList.toArray⟩:ByteArray)=s:=by
 cases s
 simp
theorem LB{w:World}{g j:Nat}{cur:List Value}{T:TypeId}{fz:Nat×Nat}(v:Value)(h:w.heap[g]? =some (.cells cur.toArray T fz)):(w.setCell ⟨g,j,none⟩ v).heap[g]? =some (.cells (cur.set j v).toArray T fz):=by
 simp [World.setCell,Array.getElem?_modify,h]
theorem CU(s:ByteArray)(k:Nat)(h:k<s.size):iC (s.data.toList.take (k+1))=iC (s.data.toList.take k)++lJ s[k]:=by
 rw [take_succ s k h,k9]
 simp [iC]
theorem LC(s:ByteArray)(k:Nat)(h:k<s.size):(iC (s.data.toList.take k)).length+(lJ s[k]).length≤(iC s.data.toList).length:=by
 have h1:=CU s k h
 have h2:iC s.data.toList=iC (s.data.toList.take (k+1))++iC (s.data.toList.drop (k+1)):=by rw [←k9,List.take_append_drop]
 rw [h2,h1]
 simp
theorem take_set(cur:List Value)(j:Nat)(v:Value)(bs:List Value)(hj:j<cur.length)(h:cur.take j=bs):(cur.set j v).take (j+1)=bs++[v]:=by
 rw [List.take_succ_eq_append_getElem (by simpa using hj),List.take_set_of_le (Nat.le_refl _),h]
 simp
theorem sP(cur:List Value)(j:Nat)(vs bs:List Value)(hj:j+vs.length≤cur.length)(h:cur.take j=bs):(Go.splice cur j vs).take (j+vs.length)=bs++vs:=by
 unfold Go.splice
 rw [h,←List.append_assoc]
 have:(bs++vs).length=j+vs.length:=by
  rw [List.length_append,←h,List.length_take];omega
 rw [←this,List.take_left']
 rfl
theorem yu{w:World}{a:Addr}{x y:Value}(hs:a.spot=none)(h0:w.cell? ⟨a.block,a.off,none⟩=some x)(h1:w.cell? ⟨a.block,a.off+1,none⟩=some y):∀(j:Nat)(v:Value),[x,y][j]? =some v→w.drew.cell? (a.add j)=some v:=by
 obtain⟨b,o,s⟩:=a
 simp only at hs
 subst hs
 intro j v hv
 match j,hv with
 |0,hv=>cases hv;exact h0
 |1,hv=>cases hv;exact h1
def WC(s:ByteArray)(w:World)(s5 s6:Value)(wx:World):Prop:=∃q,s5= .int .i64 ((s.size:Int)+tI s.data.toList)∧s6= .bool (decide (tI s.data.toList≠0))∧wx=w.drewN q
set_option maxHeartbeats 4000000 in
theorem replace(s:ByteArray)(w:World)(N B x:Nat)(a1 a2 a3:Addr)(k1 k2 k3:Nat)(hF:Re.CQ w N B x a1 a2 a3 k1 k2 k3)(hs:s.size≤4000):
  Calls Tryz.prog 203 #[.pointer (some ⟨B,x,none⟩),.string s] w fun e w'=>e= .returned (.string ⟨(iC s.data.toList).toArray⟩)∧Below w.heap.size w w':=by
 have mixed:=mix
 have hlist:=hF.list
 have h30:=hF.b3.1
 have h31:=hF.b3.2
 obtain⟨b3,o3,p3⟩:=a3
 obtain rfl:p3=none:=hF.CR.2.2
 have HF:=Lib.hid hF
 clear hF
 go_enter Tryz.func203,Tryz.ntmps203
 go_upto_if 26 with fail
 go_cut [5,6] (fun s5 s6 wx=>WC s w s5 s6 wx)
 case first=>
  have hc1:=List.count_le_length (a:=(92:UInt8)) (l:=s.data.toList)
  have hc2:=List.count_le_length (a:=(32:UInt8)) (l:=s.data.toList)
  have hlen:s.data.toList.length=s.size:=rfl
  rw [hlen]at hc1 hc2
  have hN1:=Tryz.strings_Count_one s 92
  have hN2:=Tryz.strings_Count_one s 32
  have e1:Lib.countByte s.data.toList 92=((s.data.toList.count 92:Nat):Int):=rfl
  have e2:Lib.countByte s.data.toList 32=((s.data.toList.count 32:Nat):Int):=rfl
  rw [e1]at hN1
  rw [e2]at hN2
  clear e1 e2 hlen
  obtain⟨n1,q1⟩:∃n,n=s.data.toList.count 92:=⟨_,rfl⟩
  obtain⟨n2,q2⟩:∃n,n=s.data.toList.count 32:=⟨_,rfl⟩
  rw [←q1]at hN1 hc1
  rw [←q2]at hN2 hc2
  have HQ:=Lib.hid (And.intro q1 q2)
  clear q1 q2
  by_cases h16:16≤s.size
  ·go_wp2_with fail
   go_loopw [5,6,32] (fun v5 v6 v32 wr=>∃(k m q:Nat),v32= .int .i64 k∧v5= .int .i64 ((s.size:Int)+m)∧v6= .bool (decide (m≠0))∧wr=w.drewN q∧((k=0∧m=0)∨(k=1∧m=n1)∨(k=2∧m=n1+n2))) (fun _ _ v32 _=>2-(intOf v32).toNat)
   case atStart=>exact⟨0,0,0,rfl,by simp,rfl,rfl,.inl ⟨rfl,rfl⟩⟩
   case round=>
    obtain⟨k,m,q,rfl,rfl,rfl,rfl,hk⟩:=hrel
    have hr92:w.cell? ⟨B,x+92,none⟩=some (.slice (some a2) 2 k2):=HF.out.tab 92 (by decide)
    have hr32:w.cell? ⟨B,x+32,none⟩=some (.slice (some a1) 2 k1):=HF.out.tab 32 (by decide)
    replace h30:w.cell? ⟨b3,o3,none⟩=some (.string ⟨#[92]⟩):=h30
    replace h31:w.cell? ⟨b3,o3+1,none⟩=some (.string ⟨#[32]⟩):=h31
    have d92:((⟨#[92]⟩:ByteArray)[0]'(by decide)).toNat=92:=rfl
    have d32:((⟨#[32]⟩:ByteArray)[0]'(by decide)).toNat=32:=rfl
    rcases hk with⟨rfl,rfl⟩|⟨rfl,rfl⟩|⟨rfl,rfl⟩
    ·by_cases hn:n1=0
     ·subst hn
      go_wp2_with (go_at_call 117;refine(hN1 _).mono ?_;rintro e w' ⟨rfl,rfl⟩)
      exact⟨⟨1,0,q,rfl,by simp,rfl,rfl,.inr (.inl ⟨rfl,rfl⟩)⟩,by simp [intOf]⟩
     ·have hb:((n1:Int) !=0)=true:=by simpa using hn
      go_wp2_with (go_at_call 117;refine(hN1 _).mono ?_;rintro e w' ⟨rfl,rfl⟩)
      go_region
      go_wp2
      exact⟨⟨1,n1,q+1,rfl,rfl,by simp [hn],rfl,.inr (.inl ⟨rfl,rfl⟩)⟩,by simp [intOf]⟩
    ·by_cases hn:n2=0
     ·subst hn
      go_wp2_with (go_at_call 117;refine(hN2 _).mono ?_;rintro e w' ⟨rfl,rfl⟩)
      exact⟨⟨2,m+0,q,rfl,by simp,by simp,rfl,.inr (.inr ⟨rfl,rfl⟩)⟩,by simp [intOf]⟩
     ·have hb:((n2:Int) !=0)=true:=by simpa using hn
      go_wp2_with (go_at_call 117;refine(hN2 _).mono ?_;rintro e w' ⟨rfl,rfl⟩)
      go_region
      go_wp2
      exact⟨⟨2,m+n2,q+1,rfl,by push_cast;rw [Int.add_assoc],by simp [hn],rfl,.inr (.inr ⟨rfl,rfl⟩)⟩,by simp [intOf]⟩
    ·go_wp2
     go_meet
     obtain⟨q1,q2⟩:=HQ.out
     exact⟨q,by unfold tI;rw [←q1,←q2],by unfold tI;rw [←q1,←q2],rfl⟩
  ·clear hN1 hN2 hc1 hc2 HQ
   go_wp2_with fail
   go_loop [5,6,10] (fun v5 v6 v10=>∃k:Nat,k≤s.size∧v10= .int .i64 k∧v5= .int .i64 ((s.size:Int)+tI (s.data.toList.take k))∧v6= .bool (decide (tI (s.data.toList.take k)≠0))) (fun _ _ v10=>s.size-(intOf v10).toNat)
   case atStart=>exact⟨0,Nat.zero_le _,rfl,by simp [tI],by simp [tI]⟩
   case round=>
    obtain⟨k,hk,rfl,rfl,rfl⟩:=hrel
    by_cases hlt:k<s.size
    ·have HT:=Lib.hid (take_succ s k hlt)
     have hm:=Ap (s.data.toList.take k)
     rw [List.length_take]at hm
     have hm2:tI (s.data.toList.take k)≤4000:=by omega
     clear hm
     have htab:=HF.out.tab (s[k]).toNat (s[k]).toNat_lt
     have h256:(s[k]).toNat<256:=(s[k]).toNat_lt
     have hn1:=fun n c=>Go.run_neq_slice_nil_any w 61 5 (some a1) n c 0 0 Tryz.underlying61
     have hn2:=fun n c=>Go.run_neq_slice_nil_any w 61 5 (some a2) n c 0 0 Tryz.underlying61
     have hn3:=fun n c=>Go.run_neq_slice_nil_any w 61 5 none n c 0 0 Tryz.underlying61
     simp only [Option.isNone_some,Option.isNone_none,Bool.not_false,Bool.not_true]at hn1 hn2 hn3
     have h1:=tJ s[k]
     by_cases h32:s[k]=32
     ·have e:Re.vY a1 a2 k1 k2 (s[k]).toNat= .slice (some a1) 2 k1:=by rw [h32];rfl
      rw [e]at htab
      rw [if_pos (.inl h32)]at h1
      have H1:=Lib.hid h1
      clear h1 e h32
      go_wp2
      exact⟨⟨k+1,by omega,by go_num,by rw [HT.out,ek,H1.out];push_cast;rw [Int.add_assoc],by rw [HT.out,ek,H1.out];simp⟩,by simp [intOf];omega⟩
     ·by_cases h92:s[k]=92
      ·have e:Re.vY a1 a2 k1 k2 (s[k]).toNat= .slice (some a2) 2 k2:=by rw [h92];rfl
       rw [e]at htab
       rw [if_pos (.inr h92)]at h1
       have H1:=Lib.hid h1
       clear h1 e h92 h32
       go_wp2
       exact⟨⟨k+1,by omega,by go_num,by rw [HT.out,ek,H1.out];push_cast;rw [Int.add_assoc],by rw [HT.out,ek,H1.out];simp⟩,by simp [intOf];omega⟩
      ·have e:Re.vY a1 a2 k1 k2 (s[k]).toNat= .slice none 0 0:=by
        unfold Re.vY
        rw [if_neg (show¬(s[k]).toNat=32 from fun h=>h32 (UInt8.toNat_inj.1 h)),if_neg (show¬(s[k]).toNat=92 from fun h=>h92 (UInt8.toNat_inj.1 h))]
       rw [e]at htab
       rw [if_neg (by simp [h32,h92])]at h1
       have H1:=Lib.hid h1
       clear h1 e h92 h32
       go_wp2
       exact⟨⟨k+1,by omega,by go_num,by rw [HT.out,ek,H1.out];simp,by rw [HT.out,ek,H1.out];simp⟩,by simp [intOf];omega⟩
    ·have hkk:k=s.size:=by omega
     subst hkk
     have hT:s.data.toList.take s.size=s.data.toList:=List.take_of_length_le (Nat.le_refl _)
     rw [hT]
     clear hT
     go_wp2
     go_meet
     exact⟨0,rfl,by simp,rfl⟩
 case rest=>
  obtain⟨q,rfl,rfl,rfl⟩:=hcut
  by_cases hz:tI s.data.toList=0
  ·have hd:decide (tI s.data.toList≠0)=false:=by simp [hz]
   rw [hd]
   have HZ:=Lib.hid hz
   clear hz hd
   go_wp2
   go_ret
   refine⟨?_,jI (Below.refl _ _) q⟩
   rw [LA _ HZ.out,PU]
   rfl
  ·obtain⟨i0,hi,hz0,hz1,hz2⟩:=info_parts Bu.infoByte
   have hm:=Ap s.data.toList
   have hmm:=oE s.data.toList
   have hsl:s.data.toList.length=s.size:=rfl
   rw [hsl]at hm hmm
   have hzd:decide (tI s.data.toList≠0)=true:=by simp [hz]
   rw [hzd]
   have hsum:((s.size:Int)+tI s.data.toList)=((iC s.data.toList).length:Nat):=by rw [hmm];push_cast;rfl
   rw [hsum]
   have hmb:(iC s.data.toList).length≤8000:=by omega
   have HM:=Lib.hid hmm
   clear hsum hzd hz hm hmm hsl
   obtain⟨m,qm⟩:∃m,m=(iC s.data.toList).length:=⟨_,rfl⟩
   rw [←qm]at hmb ⊢
   have HE:=Lib.hid qm
   clear qm
   go_wp2_with (refine wpList_make_full _ rfl _ _ 61 rfl w.heap.size 5 i0 (.int .u8 0) 1 Tryz.underlying61 hi hz0 hz1 .i64 .i64 _ _ m rfl rfl rfl rfl ?b2 ?b3 ?b4 ?_)
   case b2=>omega
   case b3=>unfold maxLen;omega
   intro w1 hown hgrow
   have hw1:Below w.heap.size w w1:=Below.grown (w:=w.drewN q) (row:=none) (jI (Below.refl _ _) q) hgrow (Nat.le_refl _) (fun k hk=>by cases hk)
   obtain⟨cur,hcur,hcs⟩:∃cur,w1.heap[w.heap.size]? =some (.cells cur 5 (0,0))∧cur.size=m:=by
    rcases hown.2 with⟨h,_⟩|⟨g,cap,cur,h1,_,h3,_,_,h6,_⟩
    ·cases h
    ·cases h1;exact⟨cur,h3,by omega⟩
   clear hown hgrow hz2 hz1 hz0 hi
   have hbuf:∃cur:List Value,w1.heap[w.heap.size]? =some (.cells cur.toArray 5 (0,0))∧cur.length=m∧cur.take 0=[]:=⟨cur.toList,by simpa using hcur,by simpa using hcs,rfl⟩
   clear hcur hcs cur
   go_wp2
   go_loopw [13,14] (fun v13 v14 wr=>∃k:Nat,k≤s.size∧v14= .int .i64 k∧v13= .int .i64 ((iC (s.data.toList.take k)).length:Nat)∧Below w.heap.size w wr∧∃cur:List Value,wr.heap[w.heap.size]? =some (.cells cur.toArray 5 (0,0))∧cur.length=m∧cur.take (iC (s.data.toList.take k)).length=Lib.byteCells (iC (s.data.toList.take k)))
    (fun _ v14 _=>s.size-(intOf v14).toNat)
   case atStart=>
    obtain⟨cur,h1,h2,h3⟩:=hbuf
    exact⟨0,Nat.zero_le _,rfl,rfl,hw1,cur,h1,h2,rfl⟩
   case round=>
    clear hbuf hw1
    obtain⟨k,hk,rfl,rfl,hwr,cur,hb,hcl,htk⟩:=hrel
    by_cases hlt:k<s.size
    ·have hfit:=LC s k hlt
     rw [←HE.out]at hfit
     have HS:=Lib.hid (CU s k hlt)
     have hj1:(iC (s.data.toList.take k)).length≤8000:=by omega
     obtain⟨j,qj⟩:∃j,j=(iC (s.data.toList.take k)).length:=⟨_,rfl⟩
     rw [←qj]at hfit hj1 htk ⊢
     have HJ:=Lib.hid qj
     clear qj
     have h256:(s[k]).toNat<256:=(s[k]).toNat_lt
     have htab:wr.cell? ⟨B,x+(s[k]).toNat,none⟩=some (Re.vY a1 a2 k1 k2 (s[k]).toNat):=by rw [hwr.cell HF.out.lt.1];exact HF.out.tab (s[k]).toNat h256
     by_cases h32:s[k]=32
     ·have e:Re.vY a1 a2 k1 k2 (s[k]).toNat= .slice (some a1) 2 k1:=by rw [h32];rfl
      rw [e]at htab
      have e1:lJ s[k]=[92,115]:=by unfold lJ;rw [if_pos h32]
      rw [e1]at hfit
      have H1:=Lib.hid e1
      clear e1 e h32
      simp only [List.length_cons,List.length_nil]at hfit
      have hn3:=fun n c=>Go.run_neq_slice_nil_any wr 61 5 (some a1) n c 0 0 Tryz.underlying61
      simp only [Option.isNone_some,Bool.not_false]at hn3
      have hx0:wr.cell? ⟨a1.block,a1.off,none⟩=some (.int .u8 92):=(hwr.cell (p:=⟨a1.block,a1.off,none⟩) HF.out.lt.2.1).trans HF.out.b1.1
      have hx1:wr.cell? ⟨a1.block,a1.off+1,none⟩=some (.int .u8 115):=(hwr.cell (p:=⟨a1.block,a1.off+1,none⟩) HF.out.lt.2.1).trans HF.out.b1.2
      have hcopy:=Lib.hid (yu HF.out.CR.1 hx0 hx1)
      have hmin:=Lib.hid (show [Value.int IntKind.u8 92,Value.int IntKind.u8 115].length=Nat.min 2 (m-j)from(Nat.min_eq_left (show 2≤m-j by omega)).symm)
      have hfit2:=Lib.hid (show j+ [Value.int IntKind.u8 92,Value.int IntKind.u8 115].length≤cur.length by show j+2≤cur.length;omega)
      have hone:=Lib.hid (show∀v∈ [Value.int IntKind.u8 92,Value.int IntKind.u8 115],v.oneCell'=true by intro v hv;simp at hv;rcases hv with rfl|rfl<;>rfl)
      have hne:¬m=j:=by omega
      have hI:((s[k]).toNat:Int)<256:=by omega
      have hle:j≤m:=by omega
      have HB:=Lib.hid (And.intro hb (And.intro hcl htk))
      have hwd:=Lib.hid (jI hwr 1)
      clear hb hcl htk
      go_wp2
      go_region_law ((refine step_copy_splice rfl (.tmp 105) (.tmp 111) 61 61 rfl 5 Tryz.underlying61 (by kernel_rfl) (some ⟨w.heap.size,j,none⟩) (some a1) (m-j) (m-j) 2 k1 (by simp [Act.eval,Act.put]) (by simp [Act.eval,Act.put]) w.heap.size j cur 5 HB.out.1 [.int .u8 92,.int .u8 115] hmin.out (fun _=>⟨rfl,a1,rfl,hcopy.out⟩) hfit2.out hone.out w.heap.size w hwd.out (Nat.le_refl _) ?_);intro w2 hb2 hw2)
      go_wp2
      obtain⟨hb,hcl,htk⟩:=HB.out
      have hlen:(iC (s.data.toList.take (k+1))).length=j+2:=by rw [HS.out,List.length_append,←HJ.out,H1.out];rfl
      have hts:=sP cur j [.int .u8 92,.int .u8 115] _ hfit2.out htk
      refine⟨⟨k+1,by omega,by go_num,by rw [hlen];push_cast;rfl,hw2,_,hb2.out,by rw [Go.length_splice _ _ _ hfit2.out];exact hcl,?_⟩,by simp [intOf];omega⟩
      rw [hlen,HS.out,H1.out]
      refine hts.trans ?_
      simp [Lib.byteCells]
     ·by_cases h92:s[k]=92
      ·have e:Re.vY a1 a2 k1 k2 (s[k]).toNat= .slice (some a2) 2 k2:=by rw [h92];rfl
       rw [e]at htab
       have e1:lJ s[k]=[92,92]:=by unfold lJ;rw [if_neg h32,if_pos h92]
       rw [e1]at hfit
       have H1:=Lib.hid e1
       clear e1 e h92 h32
       simp only [List.length_cons,List.length_nil]at hfit
       have hn3:=fun n c=>Go.run_neq_slice_nil_any wr 61 5 (some a2) n c 0 0 Tryz.underlying61
       simp only [Option.isNone_some,Bool.not_false]at hn3
       have hx0:wr.cell? ⟨a2.block,a2.off,none⟩=some (.int .u8 92):=(hwr.cell (p:=⟨a2.block,a2.off,none⟩) HF.out.lt.2.2.1).trans HF.out.b2.1
       have hx1:wr.cell? ⟨a2.block,a2.off+1,none⟩=some (.int .u8 92):=(hwr.cell (p:=⟨a2.block,a2.off+1,none⟩) HF.out.lt.2.2.1).trans HF.out.b2.2
       have hcopy:=Lib.hid (yu HF.out.CR.2.1 hx0 hx1)
       have hmin:=Lib.hid (show [Value.int IntKind.u8 92,Value.int IntKind.u8 92].length=Nat.min 2 (m-j)from(Nat.min_eq_left (show 2≤m-j by omega)).symm)
       have hfit2:=Lib.hid (show j+ [Value.int IntKind.u8 92,Value.int IntKind.u8 92].length≤cur.length by show j+2≤cur.length;omega)
       have hone:=Lib.hid (show∀v∈ [Value.int IntKind.u8 92,Value.int IntKind.u8 92],v.oneCell'=true by intro v hv;simp at hv;rcases hv with rfl|rfl<;>rfl)
       have hne:¬m=j:=by omega
       have hI:((s[k]).toNat:Int)<256:=by omega
       have hle:j≤m:=by omega
       have HB:=Lib.hid (And.intro hb (And.intro hcl htk))
       have hwd:=Lib.hid (jI hwr 1)
       clear hb hcl htk
       go_wp2
       go_region_law ((refine step_copy_splice rfl (.tmp 105) (.tmp 111) 61 61 rfl 5 Tryz.underlying61 (by kernel_rfl) (some ⟨w.heap.size,j,none⟩) (some a2) (m-j) (m-j) 2 k2 (by simp [Act.eval,Act.put]) (by simp [Act.eval,Act.put]) w.heap.size j cur 5 HB.out.1 [.int .u8 92,.int .u8 92] hmin.out (fun _=>⟨rfl,a2,rfl,hcopy.out⟩) hfit2.out hone.out w.heap.size w hwd.out (Nat.le_refl _) ?_);intro w2 hb2 hw2)
       go_wp2
       obtain⟨hb,hcl,htk⟩:=HB.out
       have hlen:(iC (s.data.toList.take (k+1))).length=j+2:=by rw [HS.out,List.length_append,←HJ.out,H1.out];rfl
       have hts:=sP cur j [.int .u8 92,.int .u8 92] _ hfit2.out htk
       refine⟨⟨k+1,by omega,by go_num,by rw [hlen];push_cast;rfl,hw2,_,hb2.out,by rw [Go.length_splice _ _ _ hfit2.out];exact hcl,?_⟩,by simp [intOf];omega⟩
       rw [hlen,HS.out,H1.out]
       refine hts.trans ?_
       simp [Lib.byteCells]
      ·have e:Re.vY a1 a2 k1 k2 (s[k]).toNat= .slice none 0 0:=by
        unfold Re.vY
        rw [if_neg (show¬(s[k]).toNat=32 from fun h=>h32 (UInt8.toNat_inj.1 h)),if_neg (show¬(s[k]).toNat=92 from fun h=>h92 (UInt8.toNat_inj.1 h))]
       rw [e]at htab
       have e1:lJ s[k]=[s[k]]:=by unfold lJ;rw [if_neg h32,if_neg h92]
       rw [e1]at hfit
       have H1:=Lib.hid e1
       clear e1 e h92 h32
       simp only [List.length_singleton]at hfit
       have hn3:=fun n c=>Go.run_neq_slice_nil_any wr 61 5 none n c 0 0 Tryz.underlying61
       simp only [Option.isNone_none,Bool.not_true]at hn3
       obtain⟨v0,hcell⟩:∃v0,wr.cell? ⟨w.heap.size,j,none⟩=some v0:=by
        refine⟨cur[j]'(by omega),?_⟩
        rw [Lib.cell_of_heap hb]
        simp [List.getElem?_eq_getElem (show j<cur.length by omega)]
       have hfz:wr.frozen? ⟨w.heap.size,j,none⟩=false:=Lib.frozen_of_heap hb j
       have HB:=Lib.hid (And.intro hb (And.intro hcl htk))
       clear hb hcl htk
       go_wp2
       obtain⟨hb,hcl,htk⟩:=HB.out
       have hlen:(iC (s.data.toList.take (k+1))).length=j+1:=by rw [HS.out,List.length_append,←HJ.out,H1.out];rfl
       refine⟨⟨k+1,by omega,by go_num,by rw [hlen];push_cast;rfl,hwr.setCell (p:=⟨w.heap.size,j,none⟩) (Nat.le_refl _) _,cur.set j (.int .u8 (s[k]).toNat),LB _ hb,by rw [List.length_set];exact hcl,?_⟩,by simp [intOf];omega⟩
       rw [hlen,take_set cur j _ _ (by omega) htk,HS.out,H1.out]
       simp [Lib.byteCells]
    ·have hkk:k=s.size:=by omega
     subst hkk
     have hT:s.data.toList.take s.size=s.data.toList:=List.take_of_length_le (Nat.le_refl _)
     rw [hT]at htk ⊢
     have hmE:=HE.out
     rw [←hmE]at htk ⊢
     have hcur:cur=Lib.byteCells (iC s.data.toList):=by rw [←htk,List.take_of_length_le (by omega)]
     have hcells:∀(jj:Nat)(hj:jj<(iC s.data.toList).length),wr.cell? ((⟨w.heap.size,0,none⟩:Addr).add jj)=some (.int .u8 ((iC s.data.toList)[jj].toNat:Int)):=fun jj hj=>by
      have ha:(⟨w.heap.size,0,none⟩:Addr).add jj=⟨w.heap.size,jj,none⟩:=by
       cases jj with
       |zero=>rfl
       |succ j=>simp [Addr.add]
      rw [ha,Lib.cell_of_heap hb,hcur]
      simp [Lib.byteCells,List.getElem?_map,List.getElem?_eq_getElem hj]
     have hconv:=run_convert_bytes_back (P:=Tryz.prog) wr 61 9 5 ⟨w.heap.size,0,none⟩ m (iC s.data.toList) Tryz.underlying61 Tryz.underlying5 Tryz.underlying9 hcells
     rw [←hmE]at hconv
     clear hcells hcur hT htk hcl hb hmE
     go_wp2
     go_ret
     exact⟨rfl,hwr⟩
end Es
end
section
open Go Go.az Go.RowKit
namespace Er
theorem dJ{w1:World}{N:Nat}{p:Addr}{v:Value}(hp:p.block≠N∨2≤p.off)(h:w1.cell? p=some v):((w1.drew.setCell ⟨N,0,none⟩ (.int .u32 1)).setCell ⟨N,0+1,none⟩ (.int .i32 0)).cell? p=some v:=by
 rw [World.cell?_setCell_other _ ⟨N,0+1,none⟩ p _ (fun h=>?_),World.cell?_setCell_other _ ⟨N,0,none⟩ p _ (fun h=>?_),World.cell?_drew]
 ·exact h
 ·subst h
  rcases hp with h|h
  ·exact h rfl
  ·exact absurd (show 2≤0 from h) (by decide)
 ·subst h
  rcases hp with h|h
  ·exact h rfl
  ·exact absurd (show 2≤0+1 from h) (by decide)
theorem CV{w1:World}{N B x:Nat}{a1 a2 a3:Addr}{c1 c2 c3:Nat}(h:Re.CQ w1 N B x a1 a2 a3 c1 c2 c3):Re.CQ ((w1.drew.setCell ⟨N,0,none⟩ (.int .u32 1)).setCell ⟨N,0+1,none⟩ (.int .i32 0)) N B x a1 a2 a3 c1 c2 c3 where
 r:=dJ (.inr (show 2≤3 by decide)) h.r
 tab:=fun b hb=>dJ (.inl h.ne.1) (h.tab b hb)
 list:=dJ (.inl h.ne.1) h.list
 b1:=⟨dJ (.inl h.ne.2.1) h.b1.1,dJ (.inl h.ne.2.1) h.b1.2⟩
 b2:=⟨dJ (.inl h.ne.2.2.1) h.b2.1,dJ (.inl h.ne.2.2.1) h.b2.2⟩
 b3:=⟨dJ (.inl h.ne.2.2.2) h.b3.1,dJ (.inl h.ne.2.2.2) h.b3.2⟩
 CR:=h.CR
 WB:=h.WB
 ne:=h.ne
 lt:=by simpa [World.setCell]using h.lt
theorem once{xs:List Value}{sF:aD}(hx:xs.length=4)(hs:∀v∈xs,jH v=true)(hrun:nD Tb.T 300 12 62 [.pointer (some ⟨0,0,none⟩)] (Rb.I2 xs)=some (.tuple ⟨[]⟩,sF))(hn:2≤sF.next)(hheld:∀{w w1:World}{N M:Nat},Rb.Made sF w N M w1→On.Lt N 0 w1)
  {w0 w:World} {N:Nat} (h:Nr.SA xs w0 N w):
  Calls Tryz.prog 61 #[.pointer (some ⟨N,0,none⟩),.func (.func 62) #[.pointer (some ⟨N,0,none⟩)] #[]] w fun e w'=>e= .returned (.tuple #[])∧
   ∃w1 M,Rb.Made sF (w.setCell ⟨N,0+1,none⟩ (.int .i32 1)) N M w1∧w'=(w1.drew.setCell ⟨N,0,none⟩ (.int .u32 1)).setCell ⟨N,0+1,none⟩ (.int .i32 0)∧Below w0.heap.size w0 w1∧w0.heap.size≤N:=by
 obtain⟨M,cap,cur,hN,hM,hsz,hcap,htk,hne,hlN,hlM,hb⟩:=h
 have hN1:(w.setCell ⟨N,0+1,none⟩ (.int .i32 1)).heap[N]? =some (.cells #[.int .u32 0,.int .i32 1,.int .u32 0,.nilIface,.slice (some ⟨M,0,none⟩) 4 cap] 132 (0,0)):=by
  simp [World.setCell,Array.getElem?_modify,hN]
 have hM1:(w.setCell ⟨N,0+1,none⟩ (.int .i32 1)).heap[M]? =some (.cells cur 9 (0,0)):=by
  rw [Below.heap_setCell _ _ _ _ (fun e=>hne e.symm)];exact hM
 have hf:=Rb.Ly hx hs hrun hn hN1 hM1 hsz hcap htk hne
 have c0:w.cell? ⟨N,0,none⟩=some (.int .u32 0):=by rw [Lib.cell_of_heap hN];rfl
 have c1:w.cell? ⟨N,0+1,none⟩=some (.int .i32 0):=by rw [Lib.cell_of_heap hN];rfl
 refine(On.Lv N 0 w (Rb.Made sF (w.setCell ⟨N,0+1,none⟩ (.int .i32 1)) N M) c0 c1 (Lib.frozen_of_heap hN 0) (Lib.frozen_of_heap hN 1) (fun w1 h=>hheld h) hf).mono fun e w' ⟨h1,w1,h2,h3⟩=>⟨h1,w1,M,h2,h3,?_,hlN⟩
 obtain⟨π,δ,D,H,_,_,⟨g1,g2,g3,g4⟩,g5⟩:=h2
 have hsz2:(w.setCell ⟨N,0+1,none⟩ (.int .i32 1)).heap.size=w.heap.size:=by simp [World.setCell]
 refine⟨g1.trans hb.os,g2.trans hb.tape,g3.trans hb.output,Nat.le_trans hb.size (hsz2▸g4),fun k hk=>?_⟩
 rw [g5 k (by rw [hsz2];exact Nat.lt_of_lt_of_le hk hb.size) (by omega) (by omega),Below.heap_setCell _ _ _ _ (show k≠N by omega)]
 exact hb.block k hk
set_option maxHeartbeats 2000000 in
theorem replace(s:ByteArray)(w0 w:World)(N:Nat)(h:Nr.SA Re.xs w0 N w)(hs:s.size≤4000):
  Calls Tryz.prog 23 #[.pointer (some ⟨N,0,none⟩),.string s] w fun e w'=>e= .returned (.string ⟨(Es.iC s.data.toList).toArray⟩)∧Below w0.heap.size w0 w':=by
 have mixed:=mix
 have ho:=once (sF:=Re.sF) rfl (fun v hv=>by
  simp only [Re.xs,List.mem_cons,List.not_mem_nil,or_false]at hv
  rcases hv with rfl|rfl|rfl|rfl<;>rfl) Re.run (by decide) (fun h=>(Re.facts h).1) h
 have hmf:∀(fn:Fn)(first cap:Array Value)(w:World),(Instr.makeFunc fn first cap).run Tryz.prog w= .ok (.func fn first cap) w:=fun _ _ _ _=>rfl
 clear h
 go_enter Tryz.func23,Tryz.ntmps23
 go_wp2_with (go_at_call 61;refine ho.mono ?_)
 rintro e w' ⟨rfl,w1,M,hm,hw',hb,hlN⟩
 obtain⟨_,B,x,a1,a2,a3,c1,c2,c3,hF⟩:=Re.facts hm
 have hF':Re.CQ w' N B x a1 a2 a3 c1 c2 c3:=hw'▸CV hF
 have hb':Below w0.heap.size w0 w':=hw'▸(hb.drew.setCell (p:=⟨N,0,none⟩) hlN _).setCell (p:=⟨N,0+1,none⟩) hlN _
 have hR:=Es.replace s w' N B x a1 a2 a3 c1 c2 c3 hF' hs
 have hr:=hF'.r
 clear hm hw' hb hF hF' ho
 have hmt:∀(w:World),(method 366 192 (.pointer (some ⟨B,x,none⟩)) "Replace").run Tryz.prog w= .ok (203,.pointer (some ⟨B,x,none⟩)) w:=fun _=>by kernel_rfl
 go_wp2_with (go_at_call 203;refine hR.mono ?_)
 rintro e w2 ⟨rfl,hw2⟩
 have hw2:=hb'.trans (hw2.mono hb'.size)
 go_wp2
 go_ret
 exact⟨rfl,hw2⟩
end Er
end
section
open Go Go.az Go.RowKit
namespace L
def v0:El t24:=((0:Int),(0:Int),(0:Int),([]:List UInt8),())
def vZ(l:List UInt8):El t24×Int×Unit:=
 iff (Nat.blt 30 (aY l)) (v0,(4:Int),()) (iff (Tx.dh l) (((3:Int),(0:Int),(0:Int),l,()),(0:Int),()) (v0,(8:Int),()))
def WD(l:List UInt8):Option (El t24×Int×Unit):=iff (Nat.ble (aY l) 1000000000) (some (vZ l)) none
def XE(_:Nat)(a:bg [t9]):Option (bg [t24,t25]):=WD a.1
def SB(n:Nat):bu:=⟨36,[t9],[t24,t25],XE n,false,none⟩
theorem LD:Go.az.Enters Tryz.prog 36:=⟨_,Tryz.func36,by kernel_rfl,by kernel_rfl⟩
theorem LF(l:List UInt8):Tx.CO ⟨⟨l⟩⟩=ar (aO [t24,t25] (vZ l)):=by
 have hs:(⟨⟨l⟩⟩:ByteArray).size=l.length:=rfl
 unfold Tx.CO vZ
 rw [hs,iff_eq,aC]
 by_cases h:30<l.length
 ·rw [if_pos h,if_pos ((bK _ _).2 h)];rfl
 ·rw [if_neg h,if_neg (fun h'=>h ((bK _ _).1 h'))]
  cases hp:Tx.dh l with
  |true=>rfl
  |false=>rfl
theorem SC(n:Nat):aJ Tryz.prog fg 36 (bu.spec (SB n)):=
 qc LD rfl rfl fun a r h w=>by
  obtain⟨l,_⟩:=a
  have key:∀l:List UInt8,WD l=some r→Calls Tryz.prog 36 #[.string ⟨⟨l⟩⟩] w fun e w'=>e= .returned (ar (aO [t24,t25] r))∧Below w.heap.size w w':=fun l h=>by
   obtain⟨h1,h2⟩:=aj h
   cases h2
   have h1:=Nat.le_of_ble_eq_true h1
   rw [aC]at h1
   refine(Tx.text ⟨⟨l⟩⟩ w (by unfold maxLen;show l.length≤_;omega)).mono fun e w' ⟨g1,g2⟩=>⟨?_,g2⟩
   rw [g1,LF]
  exact key l h
end L
end
section
open Go Go.az
namespace L
def WE(n:Nat)(x0:Int):Option (Int×Int×Unit):=
 some
 (fO Go.IntKind.i64 (Nat.land (eU Go.IntKind.i64 (aP Go.IntKind.i64 (Int.fdiv x0 (Int.ofNat 4503599627370496)))) 2047),
  fO Go.IntKind.u64 (Nat.land (eU Go.IntKind.u64 x0) 4503599627370495),())
def Yg(n:Nat)(a:bg [t22]):Option (bg [t3,t22]):=WE n (a.1)
def WG:dU:=⟨[],[],[]⟩
def Q0(n:Nat):bu:=⟨134,[t22],[t3,t22],Yg n,false,none⟩
theorem PV(n:Nat):aJ Tryz.prog fg 134 (bu.spec (Q0 n)):=
 bc (tab:=[]) (fn:=Tryz.f134) WG n mix Tb.bT (fun _ h=>by cases h) Tryz.func134 rfl (by kernel_rfl) (fun h=>by cases h) (fun⟨x0,_⟩=>by kernel_rfl)
def Aq(n:Nat)(x0:Int)(x1:Int)(x2:Bool):Option (Int×Unit):=
 iff x2 (some (Int.ofNat 5,()))
 (iff (cB x0 (Int.ofNat 2047)) (some (Int.ofNat 4,()))
  (iff (!cB x0 (Int.ofNat 0)) (some (Int.ofNat 3,()))
   (iff (!cB x1 (Int.ofNat 0)) (some (Int.ofNat 2,())) (some (Int.ofNat 1,())))))
def LG(n:Nat)(x0:Int):Option (Int×Unit):=
 andThen
 (iff
  (cB
   (fO Go.IntKind.i64
    (Nat.land (eU Go.IntKind.i64 (aP Go.IntKind.i64 (Int.fdiv x0 (Int.ofNat 4503599627370496)))) 2047))
   (Int.ofNat 2047))
  (some
   (Sum.inl
    ((fO Go.IntKind.i64
       (Nat.land (eU Go.IntKind.i64 (aP Go.IntKind.i64 (Int.fdiv x0 (Int.ofNat 4503599627370496)))) 2047),
      fO Go.IntKind.u64 (Nat.land (eU Go.IntKind.u64 x0) 4503599627370495),
      !cB (fO Go.IntKind.u64 (Nat.land (eU Go.IntKind.u64 x0) 4503599627370495)) (Int.ofNat 0),()),
     (),())))
  (some
   (Sum.inl
    ((fO Go.IntKind.i64
       (Nat.land (eU Go.IntKind.i64 (aP Go.IntKind.i64 (Int.fdiv x0 (Int.ofNat 4503599627370496)))) 2047),
      fO Go.IntKind.u64 (Nat.land (eU Go.IntKind.u64 x0) 4503599627370495),false,()),
     (),()))))
 (cq fun(x:(Int×Int×Bool×Unit)×Unit×Unit)=>
  Aq n x.1.1 x.1.2.1 x.1.2.2.1)
def PW(n:Nat)(a:bg [t22]):Option (bg [t5]):=LG n (a.1)
def WH:dU:=⟨[],[(3,Cut.mk [(3,bj.d (Ty.int Go.IntKind.i64)),(4,bj.d (Ty.int Go.IntKind.u64)),(10,bj.d Ty.bool)]
 [] [] 0)],[]⟩
def LH(n:Nat):bu:=⟨104,[t22],[t5],PW n,false,none⟩
theorem PX(n:Nat):aJ Tryz.prog fg 104 (bu.spec (LH n)):=
 bc (tab:=[Q0 n]) (fn:=Tryz.f104) WH n mix Tb.bT (Cons.all (.cons (PV n) .nil)) Tryz.func104 rfl (by kernel_rfl) (fun h=>by cases h) (fun⟨x0,_⟩=>by kernel_rfl)
def Yh(n:Nat)(x0:Int):Option (Int×Unit):=
 andThen (PW n (x0,()))
 fun(y1:bg (bu.B (LH n)))=>
 iff (cB y1.1 (Int.ofNat 5)) (some (Int.ofNat 9221120237041090560,())) (some (x0,()))
def XF(n:Nat)(a:bg [t22]):Option (bg [t22]):=Yh n (a.1)
def Yi:dU:=⟨[],[],[]⟩
def SD(n:Nat):bu:=⟨71,[t22],[t22],XF n,false,none⟩
theorem SE(n:Nat):aJ Tryz.prog fg 71 (bu.spec (SD n)):=
 bc (tab:=[LH n]) (fn:=Tryz.f71) Yi n mix Tb.bT (Cons.all (.cons (PX n) .nil)) Tryz.func71 rfl (by kernel_rfl) (fun h=>by cases h) (fun⟨x0,_⟩=>by kernel_rfl)
def Yj(n:Nat)(x0:Int):Option (El t24×Unit):=
 andThen (XF n (x0,()))
 fun(y1:bg (bu.B (SD n)))=>
 some ((Int.ofNat 2,Int.ofNat 0,y1.1,[],()),())
def XG(n:Nat)(a:bg [t22]):Option (bg [t24]):=Yj n (a.1)
def Yk:dU:=⟨[],[],[]⟩
def SF(n:Nat):bu:=⟨35,[t22],[t24],XG n,false,none⟩
theorem SG(n:Nat):aJ Tryz.prog fg 35 (bu.spec (SF n)):=
 bc (tab:=[SD n]) (fn:=Tryz.f35) Yk n mix Tb.bT (Cons.all (.cons (SE n) .nil)) Tryz.func35 rfl (by kernel_rfl) (fun h=>by cases h) (fun⟨x0,_⟩=>by kernel_rfl)
def Yl(n:Nat)(x0:Int):Option (El t24×Unit):=
 some ((Int.ofNat 1,x0,Int.ofNat 0,[],()),())
def r34(n:Nat)(a:bg [t2]):Option (bg [t24]):=Yl n (a.1)
def Ym:dU:=⟨[],[],[]⟩
def WI(n:Nat):bu:=⟨34,[t2],[t24],r34 n,false,none⟩
theorem SH(n:Nat):aJ Tryz.prog fg 34 (bu.spec (WI n)):=
 bc (tab:=[]) (fn:=Tryz.f34) Ym n mix Tb.bT (fun _ h=>by cases h) Tryz.func34 rfl (by kernel_rfl) (fun h=>by cases h) (fun⟨x0,_⟩=>by kernel_rfl)
def PY(n:Nat)(x0:Bool):Option (Int×Unit):=
 iff x0 (some (Int.ofNat 8,())) (some (Int.ofNat 0,()))
def mF(n:Nat)(x0:El t24)(x1:El t24):Option (Int×Unit):=
 andThen
 (iff
  (!gV
    (Ty.pair (Ty.int Go.IntKind.u8)
     (Ty.pair (Ty.int Go.IntKind.i64)
      (Ty.pair (Ty.int Go.IntKind.u64) (Ty.pair Ty.str Ty.unit))))
    x0 x1)
  (some (Sum.inl ((true,()),(),())))
  (some (Sum.inl ((cB x0.1 (Int.ofNat 0),()),(),()))))
 (cq fun(x:(Bool×Unit)×Unit×Unit)=>PY n x.1.1)
def SI(n:Nat)(x0:El t24):Option (Int×Unit):=
 andThen
 (iff (cB x0.1 (Int.ofNat 1))
  (some (Sum.inl (((),(),()),(),x0,(Int.ofNat 1,x0.2.1,Int.ofNat 0,[],()),())))
  (iff (cB x0.1 (Int.ofNat 2))
   (andThen (XG n (x0.2.2.1,()))
    fun(y1:bg (bu.B (SF n)))=>
    some (Sum.inl (((),(),()),(),x0,y1.1,())))
   (iff (cB x0.1 (Int.ofNat 3))
    (andThen (XE n (x0.2.2.2.1,()))
     fun(y2:bg (bu.B (SB n)))=>
     some (Sum.inl (((),(),()),(),x0,y2.1,())))
    (some
     (Sum.inl (((),(),()),(),x0,(Int.ofNat 0,Int.ofNat 0,Int.ofNat 0,[],()),()))))))
 (cq
  fun
   (x:
    (Unit×Unit×Unit)×
     Unit×El t24×El t24×Unit)=>
  mF n x.2.2.1 x.2.2.2.1)
def SJ(n:Nat)(a:bg [t24]):Option (bg [t25]):=SI n (a.1)
def Yn:dU:=⟨[],[(9,Cut.mk [(1,bj.at 0 0),(3,bj.at 1 0)] []
 [(0,bj.d t24),(1,bj.d t24)] 2),(10,Cut.mk [(31,bj.d Ty.bool)] [] [] 0)],[]⟩
def LI(n:Nat):bu:=⟨12,[t24],[t25],SJ n,false,none⟩
theorem ED(n:Nat):aJ Tryz.prog fg 12 (bu.spec (LI n)):=
 bc (tab:=[SB n,SF n,WI n]) (fn:=Tryz.f12) Yn n mix Tb.bT (Cons.all (.cons (SC n) (.cons (SG n) (.cons (SH n) .nil)))) Tryz.func12 rfl (by kernel_rfl) (fun h=>by cases h) (fun⟨x0,_⟩=>by kernel_rfl)
end L
end
section
open Go Go.az Go.RowKit
namespace Vl
structure cZ(w:World):Prop where
 pow:Lib.TabIs Tryz.prog w "internal/strconv.uint64pow10" .u64 Lib.pow10Tab
 WJ:∃t p,w.cell? ⟨1,0,none⟩=some (.iface t p)
 WK:∃t p,w.cell? ⟨2,0,none⟩=some (.iface t p)
 size:6≤w.heap.size
theorem cZ.below{w w':World}(h:cZ w)(hb:Below w.heap.size w w'):cZ w':=by
 have hs:=h.size
 refine⟨?_,?_,?_,Nat.le_trans hs hb.size⟩
 ·have h1:=h.pow
  have hg:Tryz.prog.globalNamed "internal/strconv.uint64pow10" =some 0:=by kernel_rfl
  unfold Lib.TabIs World.var? at h1 ⊢
  rw [hg]at h1 ⊢
  simp only [Option.bind_some]at h1 ⊢
  rw [hb.block 0 (by omega)]
  exact h1
 ·obtain⟨t,p,h1⟩:=h.WJ
  exact⟨t,p,(hb.cell (p:=⟨1,0,none⟩) (show 1<w.heap.size by omega)).trans h1⟩
 ·obtain⟨t,p,h1⟩:=h.WK
  exact⟨t,p,(hb.cell (p:=⟨2,0,none⟩) (show 2<w.heap.size by omega)).trans h1⟩
theorem v8(w:World)(k:Nat)(os:Array Obj):Below w.heap.size w (Go.Sort.grow (w.drewN k) os):=
 ⟨rfl,rfl,rfl,by show w.heap.size≤(w.heap++os).size;simp,fun j hj=>by
  show(w.heap++os)[j]? =_
  rw [Array.getElem?_append_left hj]⟩
def sQ(b:Nat):List UInt8:=[UInt8.ofNat (b / 72057594037927936),UInt8.ofNat (b / 281474976710656),UInt8.ofNat (b / 1099511627776),UInt8.ofNat (b / 4294967296),UInt8.ofNat (b / 16777216),UInt8.ofNat (b / 65536),UInt8.ofNat (b / 256),UInt8.ofNat b]
def lK(k n:Int)(b:Nat)(t:List UInt8):List UInt8:=if k=1 then 110::Lib.itoa n else if k=2 then 102::Bd.hex (sQ b)else 116::Es.iC t
def vV(k n b:Int)(t:ByteArray):Value:= .agg #[.int .u8 k,.int .i64 n,.int .u64 b,.string t]
theorem Ar(c:UInt8)(l:List UInt8):(⟨#[c]⟩:ByteArray)++⟨l.toArray⟩=⟨(c::l).toArray⟩:=by
 apply ByteArray.ext
 simp
set_option maxHeartbeats 2000000 in
theorem Ir(k n b c:Int)(t:ByteArray)(w:World)(hc:∀w,Calls Tryz.prog 12 #[vV k n b t] w fun e w'=>e= .returned (.int .i64 c)∧Below w.heap.size w w')(hne:c≠0):
  Calls Tryz.prog 6 #[vV k n b t] w fun e w'=>e= .returned (.tuple #[.string ⟨#[]⟩,.int .i64 c])∧Below w.heap.size w w':=by
 have mixed:=mix
 unfold vV at hc ⊢
 have hb:(c !=0)=true:=by simpa using hne
 go_enter Tryz.func6,Tryz.ntmps6
 go_wp2_with (go_at_call 12;refine(hc _).mono ?_)
 rintro e w1 ⟨rfl,hw1⟩
 have hw1:=((Below.refl _ _).alloc (Nat.le_refl _) (Obj.cells #[Value.int IntKind.u8 k,Value.int IntKind.i64 n,Value.int IntKind.u64 b,Value.string t] 24)).trans (hw1.mono (by simp))
 go_wp2
 go_ret2
 exact⟨rfl,hw1⟩
set_option maxHeartbeats 2000000 in
theorem Is(n b:Int)(t:ByteArray)(w:World)(hv:cZ w)(hc:∀w,Calls Tryz.prog 12 #[vV 1 n b t] w fun e w'=>e= .returned (.int .i64 0)∧Below w.heap.size w w')(h0: -9223372036854775808≤n)(h1:n≤9223372036854775807):
  Calls Tryz.prog 6 #[vV 1 n b t] w fun e w'=>e= .returned (.tuple #[.string ⟨(110::Lib.itoa n).toArray⟩,.int .i64 0])∧Below w.heap.size w w':=by
 have mixed:=mix
 unfold vV at hc ⊢
 have hf:=fun w1 (h:cZ w1)=>Tryz.strconv_FormatInt_10 n h0 h1 w1 h.pow
 have hlen:=Lib.itoa_length_le n h0 h1
 clear h0 h1
 go_enter Tryz.func6,Tryz.ntmps6
 go_wp2_with (go_at_call 12;refine(hc _).mono ?_)
 rintro e w1 ⟨rfl,hw1⟩
 have hbk:w1.heap[w.heap.size]? =some (.cells #[.int .u8 1,.int .i64 n,.int .u64 b,.string t] 24 (0,0)):=(hw1.block _ (by simp)).trans (Tx.aw _ _)
 obtain⟨⟨c0,c1,c2,c3⟩,f0,f1,f2,f3⟩:=Tx.mD hbk
 have hw1:=((Below.refl _ _).alloc (Nat.le_refl _) (Obj.cells #[Value.int IntKind.u8 1,Value.int IntKind.i64 n,Value.int IntKind.u64 b,Value.string t] 24)).trans (hw1.mono (by simp))
 have hf1:=hf w1 (hv.below hw1)
 obtain⟨l,ql⟩:∃l,l=Lib.itoa n:=⟨_,rfl⟩
 rw [←ql]at hf1 hlen
 have HL:=Lib.hid ql
 clear ql
 have hadd:=Ar 110 l
 clear hf
 go_wp2_with (go_at_call 20;refine hf1.mono ?_)
 rintro e w2 ⟨rfl,k,os,rfl⟩
 have hb:=hw1.trans ((v8 w1 k os).mono hw1.size)
 go_wp2
 go_ret2
 refine⟨?_,hb⟩
 rw [HL.out]
 rfl
theorem yv{xs:List Value}{w w':World}{N:Nat}(h:Nr.SA xs w N w'):Below w.heap.size w w':=by
 obtain⟨M,cap,cur,_,_,_,_,_,_,_,_,hb⟩:=h
 exact hb
set_option maxHeartbeats 2000000 in
theorem It(k n b:Int)(t:ByteArray)(w:World)(h1:k≠1)(h2:k≠2)(ht:t.size≤4000)(hc:∀w,Calls Tryz.prog 12 #[vV k n b t] w fun e w'=>e= .returned (.int .i64 0)∧Below w.heap.size w w'):
    Calls Tryz.prog 6 #[vV k n b t] w fun e w'=>e= .returned (.tuple #[.string ⟨(116::Es.iC t.data.toList).toArray⟩,.int .i64 0])∧Below w.heap.size w w':=by
  have mixed:=mix
  unfold vV at hc ⊢
  have hk1:(k==1)=false:=by simpa using h1
  have hk2:(k==2)=false:=by simpa using h2
  have hlen:=Es.oE t.data.toList
  have hcl:=Es.Ap t.data.toList
  have hsl:t.data.toList.length=t.size:=rfl
  rw [hsl]at hlen hcl
  have hl:(Es.iC t.data.toList).length≤8000:=by omega
  clear hlen hcl hsl h1 h2
  go_enter Tryz.func6,Tryz.ntmps6
  go_wp2_with (go_at_call 12;refine(hc _).mono ?_)
  rintro e w1 ⟨rfl,hw1⟩
  have hbk:w1.heap[w.heap.size]? =some (.cells #[.int .u8 k,.int .i64 n,.int .u64 b,.string t] 24 (0,0)):=(hw1.block _ (by simp)).trans (Tx.aw _ _)
  obtain⟨⟨c0,c1,c2,c3⟩,f0,f1,f2,f3⟩:=Tx.mD hbk
  have hlt:w.heap.size<w1.heap.size:=by have:=hw1.size;simp at this;omega
  have hw1:=((Below.refl _ _).alloc (Nat.le_refl _) (Obj.cells #[Value.int IntKind.u8 k,Value.int IntKind.i64 n,Value.int IntKind.u64 b,Value.string t] 24)).trans (hw1.mono (by simp))
  have hd0:w1.drew.cell? ⟨w.heap.size,3,none⟩=some (.string t):=by rw [World.cell?_drew];exact c3
  have hbd:Below w.heap.size w w1.drew:=hw1.drew
  have hadd:=Ar 116 (Es.iC t.data.toList)
  have hfit:¬(9223372036854775807<1+(Es.iC t.data.toList).length):=by omega
  go_wp2
  go_region_held3 (fun w'=>w'.cell? ⟨w.heap.size,3,none⟩=some (.string t)∧Below w.heap.size w w') (first|exact⟨hd0,hbd⟩|exact⟨q1,q2⟩|exact⟨q3,q4⟩)
    (first
      |(go_at_call 22;refine(Nr.PS w1.drew).mono ?_;rintro e w2 ⟨N,rfl,hN⟩;
         have q2:Below w.heap.size w w2:=hbd.trans ((yv hN).mono hbd.size);
         have q1:w2.cell? ⟨w.heap.size,3,none⟩=some (.string t):=((yv hN).cell (p:=⟨w.heap.size,3,none⟩) hlt).trans hd0)
      |(go_at_call 23;refine(Er.replace t _ _ _ hN ht).mono ?_;rintro e w3 ⟨rfl,h3⟩;
         have q4:Below w.heap.size w w3:=hbd.trans (h3.mono hbd.size);
         have q3:w3.cell? ⟨w.heap.size,3,none⟩=some (.string t):=(h3.cell (p:=⟨w.heap.size,3,none⟩) hlt).trans hd0))
  all_goals first
    |(exfalso;omega)
    |(go_wp2;go_ret2;exact⟨rfl,q4⟩)
def row(b:Nat)(k:Nat):List Value:=Lib.byteCells ((sQ b).take k)++List.replicate (8-k) (.int .u8 0)
theorem gR{b k:Nat}{w:World}{M:Nat}{v:Int}(hk:k<8)(h:w.heap[M]? =some (.cells (row b k).toArray 59 (0,0)))(hv:v=(((sQ b).getD k 0).toNat:Int)):
  (w.setCell ⟨M,k,none⟩ (.int .u8 v)).heap[M]? =some (.cells (row b (k+1)).toArray 59 (0,0)):=by
 subst hv
 have:(row b k).set k (.int .u8 (((sQ b).getD k 0).toNat:Int))=row b (k+1):=by
  have hk':k=0∨k=1∨k=2∨k=3∨k=4∨k=5∨k=6∨k=7:=by omega
  rcases hk' with rfl|rfl|rfl|rfl|rfl|rfl|rfl|rfl<;>rfl
 rw [←this]
 simp [World.setCell,Array.getElem?_modify,h]
set_option maxHeartbeats 4000000 in
theorem Iu(n:Int)(b:Nat)(t:ByteArray)(w:World)(hb:b<18446744073709551616)(hc:∀w,Calls Tryz.prog 12 #[vV 2 n b t] w fun e w'=>e= .returned (.int .i64 0)∧Below w.heap.size w w'):
  Calls Tryz.prog 6 #[vV 2 n b t] w fun e w'=>e= .returned (.tuple #[.string ⟨(102::Bd.hex (sQ b)).toArray⟩,.int .i64 0])∧Below w.heap.size w w':=by
 have mixed:=mix
 unfold vV at hc ⊢
 go_enter Tryz.func6,Tryz.ntmps6
 go_wp2_with (go_at_call 12;refine(hc _).mono ?_)
 rintro e w1 ⟨rfl,hw1⟩
 have hbk:w1.heap[w.heap.size]? =some (.cells #[.int .u8 2,.int .i64 n,.int .u64 b,.string t] 24 (0,0)):=(hw1.block _ (by simp)).trans (Tx.aw _ _)
 obtain⟨⟨c0,c1,c2,c3⟩,f0,f1,f2,f3⟩:=Tx.mD hbk
 have hlt:w.heap.size<w1.heap.size:=by have:=hw1.size;simp at this;omega
 have hw1:=((Below.refl _ _).alloc (Nat.le_refl _) (Obj.cells #[Value.int IntKind.u8 2,Value.int IntKind.i64 n,Value.int IntKind.u64 b,Value.string t] 24)).trans (hw1.mono (by simp))
 go_wp2
 go_loopw [22] (fun vi wr=>∃k:Nat,vi= .int .i64 k∧k≤8∧wr.heap[w1.heap.size]? =some (.cells (row b k).toArray 59 (0,0))∧Below w1.heap.size w1 wr) (fun vi _=>8-(intOf vi).toNat)
 case atStart=>
  refine⟨0,rfl,Nat.zero_le _,Tx.aw _ _,(Below.refl _ _).alloc (Nat.le_refl _) _⟩
 case round=>
  obtain⟨k,rfl,hk,hb1,hw⟩:=hrel
  by_cases hk8:k<8
  ·have d2:=(hw.cell (p:=⟨w.heap.size,2,none⟩) hlt).trans c2
   have dj:∀j,j<8→wr.frozen? ⟨w1.heap.size,j,none⟩=false:=fun j hj=>Lib.frozen_of_heap hb1 j
   have hk':k=0∨k=1∨k=2∨k=3∨k=4∨k=5∨k=6∨k=7:=by omega
   clear hk hk8
   rcases hk' with rfl|rfl|rfl|rfl|rfl|rfl|rfl|rfl
   ·have e1:=Lib.cell_of_heap hb1 0
    have e2:=dj 0 (by decide)
    go_wp2
    refine⟨⟨1,rfl,by decide,gR (by decide) hb1 ?_,hw.setCell (Nat.le_refl _) _⟩,by decide⟩
    simp [sQ]
    omega
   ·have e1:=Lib.cell_of_heap hb1 1
    have e2:=dj 1 (by decide)
    go_wp2
    refine⟨⟨2,rfl,by decide,gR (by decide) hb1 ?_,hw.setCell (Nat.le_refl _) _⟩,by decide⟩
    simp [sQ]
   ·have e1:=Lib.cell_of_heap hb1 2
    have e2:=dj 2 (by decide)
    go_wp2
    refine⟨⟨3,rfl,by decide,gR (by decide) hb1 ?_,hw.setCell (Nat.le_refl _) _⟩,by decide⟩
    simp [sQ]
   ·have e1:=Lib.cell_of_heap hb1 3
    have e2:=dj 3 (by decide)
    go_wp2
    refine⟨⟨4,rfl,by decide,gR (by decide) hb1 ?_,hw.setCell (Nat.le_refl _) _⟩,by decide⟩
    simp [sQ]
   ·have e1:=Lib.cell_of_heap hb1 4
    have e2:=dj 4 (by decide)
    go_wp2
    refine⟨⟨5,rfl,by decide,gR (by decide) hb1 ?_,hw.setCell (Nat.le_refl _) _⟩,by decide⟩
    simp [sQ]
   ·have e1:=Lib.cell_of_heap hb1 5
    have e2:=dj 5 (by decide)
    go_wp2
    refine⟨⟨6,rfl,by decide,gR (by decide) hb1 ?_,hw.setCell (Nat.le_refl _) _⟩,by decide⟩
    simp [sQ]
   ·have e1:=Lib.cell_of_heap hb1 6
    have e2:=dj 6 (by decide)
    go_wp2
    refine⟨⟨7,rfl,by decide,gR (by decide) hb1 ?_,hw.setCell (Nat.le_refl _) _⟩,by decide⟩
    simp [sQ]
   ·have e1:=Lib.cell_of_heap hb1 7
    have e2:=dj 7 (by decide)
    go_wp2
    refine⟨⟨8,rfl,by decide,gR (by decide) hb1 ?_,hw.setCell (Nat.le_refl _) _⟩,by decide⟩
    simp [sQ]
  ·have hk:k=8:=by omega
   subst hk
   have hrow:row b 8=Lib.byteCells (sQ b):=rfl
   have hB:=fun(hW:w1.heap.size<wr.heap.size)=>Bd.QY w1.heap.size 0 8 (sQ b) wr (show 8≤1000 by decide) hW (fun j hj=>by
    rw [Lib.cell_of_heap hb1,hrow]
    have hj8:j<8:=hj
    have hk':j=0∨j=1∨j=2∨j=3∨j=4∨j=5∨j=6∨j=7:=by omega
    rcases hk' with rfl|rfl|rfl|rfl|rfl|rfl|rfl|rfl<;>rfl)
   have hl:w1.heap.size<wr.heap.size:=by
    rcases Nat.lt_or_ge w1.heap.size wr.heap.size with h|h
    ·exact h
    ·rw [Array.getElem?_eq_none h]at hb1;cases hb1
   have hB:=hB hl
   have hadd:=Ar 102 (Bd.hex (sQ b))
   have hlen:(Bd.hex (sQ b)).length=16:=Bd.jb (sQ b)
   obtain⟨hx,qx⟩:∃hx,hx=Bd.hex (sQ b):=⟨_,rfl⟩
   rw [←qx]at hB hadd hlen
   have HX:=Lib.hid qx
   clear qx
   go_wp2_with (go_at_call 21;refine hB.mono ?_)
   rintro e w2 ⟨rfl,h2⟩
   have hb:=hw1.trans ((hw.mono (Nat.le_of_lt hlt)).trans (h2.mono (by omega)))
   go_wp2
   go_ret2
   refine⟨?_,hb⟩
   rw [←HX.out]
   rfl
end Vl
end
section
open Go Go.az Go.RowKit Go.Sort
namespace Fu
theorem small(i:Nat)(h:i<100)(w:World):Calls Tryz.prog 89 #[.int .i64 i] w fun e w'=>e= .returned (.string ⟨(Lib.decDigits i).toArray⟩)∧w'=w:=
 Any.internal_strconv_small {Tryz.oP with} i h w
theorem numDigits(u:Nat)(h1:1≤u)(h2:u<18446744073709551616)(w:World)(htab:Lib.TabIs Tryz.prog w "internal/strconv.uint64pow10" .u64 Lib.pow10Tab):
  Calls Tryz.prog 90 #[.int .u64 u] w fun e w'=>e= .returned (.int .i64 (Lib.nDigits u))∧w'=w:=
 Any.internal_strconv_numDigits {Tryz.oP with} u h1 h2 w htab
theorem SK(bm off cap:Nat)(u:Nat)(d:Array UInt8)(w:World)(hH:Holds (fun(b:UInt8)=>Value.int .u8 (b.toNat:Int)) w bm off d)(hu:u<10^d.size)(hu64:u<18446744073709551616)(hsz:d.size<4611686018427387904):
  Calls Tryz.prog 91 #[.slice (some ⟨bm,off,none⟩) d.size cap,.int .u64 u] w fun e w'=>
   e= .returned (.tuple #[])∧∃(n v':Nat)(dk:Array UInt8),w'=(putRow (fun(b:UInt8)=>Value.int .u8 (b.toNat:Int)) w bm off dk).drewN n∧Lib.FmtInv d.size u 0 v' dk:=
 Any.internal_strconv_formatBase10 {Tryz.oP with} bm off cap u d w hH hu hu64 hsz
set_option maxHeartbeats 6400000 in
theorem inner(u:Nat)(hu64:u<18446744073709551616)(w:World)(htab:Lib.TabIs Tryz.prog w "internal/strconv.uint64pow10" .u64 Lib.pow10Tab):
  Calls Tryz.prog 108 #[.int .u64 u,.int .i64 10] w fun e w'=>e= .returned (.string ⟨(Lib.decDigits u).toArray⟩)∧Below w.heap.size w w':=by
 have mixed:=mix
 by_cases hs:u<100
 ·have hd:decide ((u:Int)<100)=true:=decide_eq_true (by omega)
  have hsm:=fun w1=>small u hs w1
  go_enter Tryz.func108,Tryz.ntmps108
  go_wp2_with (go_at_call 89;refine(hsm _).mono ?_;rintro e w' ⟨rfl,rfl⟩)
  go_ret
  exact⟨rfl,Below.refl _ _⟩
 ·have hd:decide ((u:Int)<100)=false:=decide_eq_false (by omega)
  have hu1:1≤u:=by omega
  have hnd20:Lib.nDigits u≤20:=by have:=Lib.numDigits_eq u hu1 hu64;split at this<;>omega
  have hb3:Lib.nDigits u≤24:=by omega
  have hal:Tryz.prog.arrayLen 152=24:=by simp [Program.arrayLen,Tryz.underlying152]
  have hsl1:∀W,(Instr.sliceAt 152 (.pointer (some ⟨w.heap.size,0,none⟩)) none (some (.int .i64 (Lib.nDigits u:Int))) none).run Tryz.prog W= .ok (.slice (some ⟨w.heap.size,0,none⟩) (Lib.nDigits u) 24) W:=fun W=>by
   rw [run_sliceAt_array_h W 152 ⟨w.heap.size,0,none⟩ (by simp [Program.arrayLen,Program.elem,Tryz.underlying152]) .i64 (Lib.nDigits u:Int) (by omega) (by rw [hal];omega)]
   go_simp
  have hH0:Holds (fun(b:UInt8)=>Value.int .u8 (b.toNat:Int)) (w.alloc (.cells Lib.zeros24 152)) w.heap.size 0 (Array.replicate (Lib.nDigits u) 0):=fun j hj=>by
   have hj':j<Lib.nDigits u:=by simpa using hj
   refine⟨?_,World.frozen?_alloc_new _ _ _ _⟩
   rw [World.cell?_alloc_new,Lib.zeros24_at _ (by omega),getElem!_pos _ j hj]
   simp
  have hfmt:=SK w.heap.size 0 24 u (Array.replicate (Lib.nDigits u) 0) (w.alloc (.cells Lib.zeros24 152)) hH0 (by rw [Array.size_replicate];exact Lib.lt_pow_nDigits u) hu64 (by rw [Array.size_replicate];omega)
  rw [Array.size_replicate]at hfmt
  have HH0:=Lib.hid hH0
  clear hH0 hal
  have hnd:=numDigits u hu1 hu64 (w.alloc (.cells Lib.zeros24 152)) (Lib.tabIs_alloc htab _)
  go_enter Tryz.func108,Tryz.ntmps108
  go_wp2_with (go_at_call 90;refine hnd.mono ?_;rintro e w' ⟨rfl,rfl⟩)
  go_at_call 91
  refine hfmt.mono ?_
  rintro e w' ⟨rfl,k,v',dk,rfl,hF⟩
  have hcv:(convert 61 9 (.slice (some ⟨w.heap.size,0,none⟩) (Lib.nDigits u) 24)).run Tryz.prog ((putRow (fun(b:UInt8)=>Value.int .u8 (b.toNat:Int)) (w.alloc (.cells Lib.zeros24 152)) w.heap.size 0 dk).drewN k)= .ok (.string ⟨(Lib.decDigits u).toArray⟩) ((putRow (fun(b:UInt8)=>Value.int .u8 (b.toNat:Int)) (w.alloc (.cells Lib.zeros24 152)) w.heap.size 0 dk).drewN k):=by
   have h:=run_convert_bytes_back (P:=Tryz.prog) ((putRow (fun(b:UInt8)=>Value.int .u8 (b.toNat:Int)) (w.alloc (.cells Lib.zeros24 152)) w.heap.size 0 dk).drewN k) 61 9 5 ⟨w.heap.size,0,none⟩ 24 (Lib.decDigits u) Tryz.underlying61 Tryz.underlying5 Tryz.underlying9 (fun j hj=>by
    rw [Lib.row_is_numeral hF j hj,Lib.add_plain,World.cell?_drewN]
    exact cell?_putRow (fun(b:UInt8)=>Value.int .u8 (b.toNat:Int)) _ w.heap.size 0 _ dk HH0.out (by rw [hF.size,Array.size_replicate]) j (by rw [hF.size];rw [Lib.decDigits_length]at hj;exact hj))
   rw [Lib.decDigits_length]at h
   exact h
  go_wp2
  go_ret
  refine⟨rfl,?_⟩
  have eg:∃os,(putRow (fun(b:UInt8)=>Value.int .u8 (b.toNat:Int)) (w.alloc (.cells Lib.zeros24 152)) w.heap.size 0 dk).drewN k=grow (w.drewN k) os:=by
   rw [alloc_eq_grow]
   obtain⟨os',_,e⟩:=putRow_grow_new (fun(b:UInt8)=>Value.int .u8 (b.toNat:Int)) w #[.cells Lib.zeros24 152] w.heap.size 0 dk (Nat.le_refl _)
   exact⟨os',by rw [e];rfl⟩
  obtain⟨os,eo⟩:=eg
  rw [eo]
  exact Vl.v8 w k os
set_option maxHeartbeats 800000 in
theorem fmt(u:Nat)(h:u<18446744073709551616)(w:World)(htab:Lib.TabIs Tryz.prog w "internal/strconv.uint64pow10" .u64 Lib.pow10Tab):
  Calls Tryz.prog 76 #[.int .u64 u,.int .i64 10] w fun e w'=>e= .returned (.string ⟨(Lib.decDigits u).toArray⟩)∧Below w.heap.size w w':=by
 have mixed:=mix
 have hi:=inner u h w htab
 clear h
 go_enter Tryz.func76,Tryz.ntmps76
 go_wp2_with (go_at_call 108;refine hi.mono ?_;rintro e w' ⟨rfl,hb⟩)
 go_ret
 exact⟨rfl,hb⟩
set_option maxHeartbeats 800000 in
theorem LJ(u:Nat)(h:u<9223372036854775808)(w:World)(hv:Vl.cZ w):Calls Tryz.prog 42 #[.int .i64 u] w fun e w'=>e= .returned (.string ⟨(Lib.decDigits u).toArray⟩)∧Below w.heap.size w w':=by
 have mixed:=mix
 have h76:=fun w1 (h1:Vl.cZ w1)=>fmt u (by omega) w1 h1.pow
 have hw:IntKind.u64.wrap (u:Int)=(u:Int):=by rw [IntKind.wrap_u64];omega
 clear h
 go_enter Tryz.func42,Tryz.ntmps42
 go_wp2_with (go_at_call 76;refine(h76 _ hv).mono ?_;rintro e w' ⟨rfl,hb⟩)
 go_ret
 exact⟨rfl,hb⟩
set_option maxHeartbeats 800000 in
theorem LK(u:Nat)(h:u<18446744073709551616)(w:World)(hv:Vl.cZ w):Calls Tryz.prog 43 #[.int .u64 u] w fun e w'=>e= .returned (.string ⟨(Lib.decDigits u).toArray⟩)∧Below w.heap.size w w':=by
 have mixed:=mix
 have h76:=fun w1 (h1:Vl.cZ w1)=>fmt u h w1 h1.pow
 clear h
 go_enter Tryz.func43,Tryz.ntmps43
 go_wp2_with (go_at_call 76;refine(h76 _ hv).mono ?_;rintro e w' ⟨rfl,hb⟩)
 go_ret
 exact⟨rfl,hb⟩
end Fu
end
section
open Go Go.az Go.RowKit
namespace L
theorem we{w:World}{t:Ty}{x:List (El t)}{v':Value}(h:cQ w (.slice t) x v'):(x=[]∧∃c,v'= .slice none 0 c)∨
  ∃(a:Addr)(c:Nat),v'= .slice (some a) x.length c∧x.length≤c∧(x=[]∨(a.spot=none∧∃cc cs',cP w a.block=some cc∧eC cc a.off cs'∧aR ⟨fun _=>none,cP w⟩ No (x.map (ah t)).flatten cs')):=by
 rcases VR.cJ (show VR ⟨fun _=>none,cP w⟩ No (dV (cW (x.map (ah t)))) v' from h)with⟨h1,h2⟩|⟨cs,cs',z,c',a',h1,h2,h3,h4,_,h5,_⟩
 ·refine .inl ⟨?_,h2⟩
  have:(cW (x.map (ah t))).length=0:=by rw [h1];rfl
  rw [bx,List.length_map]at this
  exact List.eq_nil_of_length_eq_zero this
 ·rw [bx,List.length_map]at h1 h3
  refine .inr ⟨a',c',h1,h3,?_⟩
  rcases h4 with h4|⟨h4,cc,h6,h7⟩
  ·left
   have:(cW (x.map (ah t))).length=0:=by rw [h4];rfl
   rw [bx,List.length_map]at this
   exact List.eq_nil_of_length_eq_zero this
  ·have e:=(kU t).rb h2
   exact .inr ⟨h4,cc,cs',h6,h7,by show aR _ No (x.map (kU t).cells).flatten cs';rw [←e];exact h5⟩
theorem yx{P:Program}{w:World}{B:Nat}{cc:List Value}(hB:cP w B=some cc):∀(n x:Nat)(ns:List Int)(ba:ByteArray),
  x+n≤cc.length→(cc.drop x).take n=ns.map (Value.int .u8)→(Extern.Bytes.loadBytes ⟨B,x,none⟩ n ba).run P w= .ok (ns.foldl (fun r n=>r.push (UInt8.ofNat n.toNat)) ba) w
 |0,x,ns,ba,_,h=>by
  have:ns=[]:=by simpa using h.symm
  subst this
  rfl
 |n+1,x,ns,ba,hr,h=>by
  rw [List.drop_eq_getElem_cons (i:=x) (by omega),List.take_succ_cons]at h
  cases ns with
  |nil=>cases h
  |cons m ns=>
   rw [List.map_cons]at h
   injection h with h1 h2
   obtain⟨elem,fz,hH⟩:=kj hB
   have hc:w.cell? ⟨B,x,none⟩=some (.int .u8 m):=by
    simp only [World.cell?,hH,Option.isSome_none,Bool.false_eq_true,if_false]
    rw [←Array.getElem?_toList,List.getElem?_eq_getElem (by show x<cc.length;omega)]
    exact congrArg some h1
   have hadd:(Addr.mk B x none).add 1=⟨B,x+1,none⟩:=rfl
   simp only [Extern.Bytes.loadBytes,Sem.run_bind,run_load,hc,Result.andThen_ok,hadd]
   rw [yx hB n (x+1) ns _ (by omega) h2]
   rfl
def AV(x:List Int):List UInt8:=x.map fun n=>UInt8.ofNat n.toNat
theorem LM(ns:List Int)(l:List UInt8):ns.foldl (fun r n=>r.push (UInt8.ofNat n.toNat)) (⟨⟨l⟩⟩:ByteArray)=⟨⟨l++AV ns⟩⟩:=by
 induction ns generalizing l with
 |nil=>simp [AV]
 |cons n ns ih=>
  rw [List.foldl_cons]
  have:(⟨⟨l⟩⟩:ByteArray).push (UInt8.ofNat n.toNat)=⟨⟨l++[UInt8.ofNat n.toNat]⟩⟩:=by
   apply ByteArray.ext
   simp [ByteArray.push]
  rw [this,ih]
  simp [AV]
theorem Gw:∀x:List Int,(x.map (ah t5)).flatten=x.map (Value.int .u8)
 | []=>rfl
 |n::x=>congrArg (Value.int .u8 n:: ·) (Gw x)
theorem wg{w:World}{x:List Int}{v':Value}(h:cQ w t61 x v'):(Extern.Bytes.bytesOf v').run Tryz.prog w= .ok ⟨⟨AV x⟩⟩ w:=by
 rcases we (show cQ w (.slice t5) x v' from h)with⟨rfl,c,rfl⟩|⟨a,c,rfl,_,h1⟩
 ·rfl
 ·rcases h1 with rfl|⟨hs,cc,cs',h2,⟨h3,h4⟩,h5⟩
  ·rfl
  ·obtain⟨b,o,s⟩:=a
   simp only at hs
   subst hs
   have hfl:(x.map (ah t5)).flatten=x.map (Value.int .u8):=Gw x
   rw [hfl]at h5
   have hr:cs'=x.map (Value.int .u8):=h5.ints fun v hv=>by
    obtain⟨n,_,rfl⟩:=List.mem_map.1 hv
    exact⟨_,_,rfl⟩
   subst hr
   rw [List.length_map]at h3 h4
   show(Extern.Bytes.loadBytes ⟨b,o,none⟩ x.length ByteArray.empty).run Tryz.prog w=_
   rw [yx h2 x.length o x _ h3 h4]
   exact congrArg (fun q=>Result.ok q w) (LM x [])
set_option maxHeartbeats 4000000 in
theorem Iv(w:World)(a' b':Value)(la lb:List UInt8)(ha:(Extern.Bytes.bytesOf a').run Tryz.prog w= .ok ⟨⟨la⟩⟩ w)(hb:(Extern.Bytes.bytesOf b').run Tryz.prog w= .ok ⟨⟨lb⟩⟩ w):
  Calls Tryz.prog 79 #[a',b'] w fun e w'=>e= .returned (.int .i64 (Lib.compareBytes la lb))∧w'=w:=by
 have mixed:=mix
 have hrun:(Extern.BytealgCompare.compare #[a',b']).run Tryz.prog w= .ok (.int .i64 (Lib.compareBytes la lb)) w:=by
  change Sem.run Tryz.prog (do pure (goInt (Extern.BytealgCompare.cmp (←Extern.Bytes.bytesOf a') (←Extern.Bytes.bytesOf b')))) w=_
  simp only [Sem.run_bind,ha,hb,Result.andThen,Sem.run_pure]
  rw [Lib.cmp_eq]
  rfl
 go_enter Tryz.func79,Tryz.ntmps79
 go_wp2
 rw [run_callFunc_extern Tryz.func112 (by kernel_rfl) (by kernel_rfl) (by kernel_rfl) (e:=Extern.BytealgCompare.compare) (by kernel_rfl),hrun]
 simp only [Result.andThen]
 rw [Oper.upon_value]
 go_wp2
 go_ret
 exact⟨rfl,rfl⟩
theorem LN:Go.az.Enters Tryz.prog 79:=⟨_,Tryz.func79,by kernel_rfl,by kernel_rfl⟩
def Yo(x y:List Int):Int:=Lib.compareBytes (AV x) (AV y)
def r79(_:Nat)(a:bg [t61,t61]):Option (bg [t3]):=some (Yo a.1 a.2.1,())
def SM(n:Nat):bu:=⟨79,[t61,t61],[t3],r79 n,true,none⟩
theorem LO(n:Nat):aJ Tryz.prog fg 79 (bu.spec (SM n)):=
 xk LN rfl fun a r h w args' hl=>by
  obtain⟨x,y,_⟩:=a
  cases h
  obtain⟨v1,l1,rfl,h1,h2⟩:=(show aR _ No (aT t61 x::aT t61 y::[]) args' from hl).split
  obtain⟨v2,l2,rfl,h3,h4⟩:=h2.split
  rw [h4.empty]
  exact(Iv w v1 v2 _ _ (wg h1) (wg h3)).mono fun e w' ⟨g1,g2⟩=>⟨g1,by rw [g2];exact Below.refl _ _⟩
end L
end
section
open Go Go.az
namespace Bg
section
variable {P:Program} {ops:Array Oper} {rest:List Oper} {o:Oper} {a:Act} {Q:Exit→Act→World→Prop} {w:World}
theorem load(T:TypeId)(n:Nat)(hT:∀w,(isAgg T).run P w= .ok true w∧(sizeOf T).run P w= .ok n w)(hgd:o.guard=none)(x:Operand)(ho:o.op= .load T x)(ad:Addr)(hx:a.eval x= .pointer (some ad))(cs:List Value)(hlen:cs.length=n)
  (hc:∀j v,cs[j]? =some v→w.cell? (ad.add j)=some v) (h:wpList P ops Q rest (a.put o.dst (.agg ⟨cs⟩)) w):wpList P ops Q (o::rest) a w:=
 wpList_plain hgd fun K hK=>by
  have h1:=run_loadCells_list (P:=P) w ad cs hc
  rw [hlen]at h1
  unfold Oper.wp execOp
  simp only [ho,Instr.loadAt,loadVar,hx,Instr.sureAddr,Sem.run_bind,Sem.run_pure,Result.andThen_ok,(hT w).1,(hT w).2,h1,if_true]
  exact hK _ _ h
theorem store(T:TypeId)(n:Nat)(hT:∀w,(isAgg T).run P w= .ok true w∧(sizeOf T).run P w= .ok n w)(hgd:o.guard=none)(p x:Operand)(ho:o.op= .store T p x)(b:Nat)(hp:a.eval p= .pointer (some ⟨b,0,none⟩))(cs:List Value)(hx:a.eval x= .agg ⟨cs⟩)(hlen:cs.length=n)
  (h1:∀v∈cs,v.oneCell'=true) (zs:Array Value) (T':TypeId) (hb:w.heap[b]? =some (.cells zs T' (0,0))) (hz:zs.size=n) (h:wpList P ops Q rest (a.put o.dst undef) (putObj w b (.cells ⟨cs⟩ T' (0,0)))):wpList P ops Q (o::rest) a w:=
 wpList_plain hgd fun K hK=>by
  have h2:=iI (P:=P) b T' (0,0) 0 cs 0 zs w hb h1 (by omega) (fun y _ _ h=>by omega)
  have h3:ia zs (0+0) cs=⟨cs⟩:=by
   have hl:zs.toList.length=zs.size:=rfl
   unfold ia
   rw [List.drop_eq_nil_of_le (by omega)]
   simp
  rw [h3]at h2
  unfold Oper.wp execOp
  simp only [ho,Instr.storeAt,storeVar,hp,hx,Instr.sureAddr,Sem.run_bind,Sem.run_pure,Result.andThen_ok,(hT w).2]
  rw [if_neg (show¬((Value.agg ⟨cs⟩).cells.size≠n)from fun h=>h hlen),show(storeCells ⟨b,0,none⟩ (Value.agg ⟨cs⟩).cells.toList).run P w=_ from h2]
  exact hK _ _ h
theorem qg(T:TypeId)(n:Nat)(hT:∀w,(isAgg T).run P w= .ok true w∧(sizeOf T).run P w= .ok n w)(hgd:o.guard=none)(p x:Operand)(ho:o.op= .store T p x){w0:World}{zs:Array Value}{T':TypeId}(hz:zs.size=n)(hp:a.eval p= .pointer (some ⟨w0.heap.size,0,none⟩))(cs:List Value)(hx:a.eval x= .agg ⟨cs⟩)(hlen:cs.length=n)
  (h1:∀v∈cs,v.oneCell'=true) (h:wpList P ops Q rest (a.put o.dst undef) (w0.alloc (.cells ⟨cs⟩ T'))):wpList P ops Q (o::rest) a (w0.alloc (.cells zs T')):=by
 have hb:(w0.alloc (.cells zs T')).heap[w0.heap.size]? =some (.cells zs T' (0,0)):=by
  show(w0.heap.push _)[w0.heap.size]? =_
  simp
 refine store T n hT hgd p x ho w0.heap.size hp cs hx hlen h1 zs T' hb hz ?_
 have e:putObj (w0.alloc (.cells zs T')) w0.heap.size (.cells ⟨cs⟩ T' (0,0))=w0.alloc (.cells ⟨cs⟩ T'):=by
  have:(w0.heap.push (.cells zs T')).setIfInBounds w0.heap.size (.cells ⟨cs⟩ T')=w0.heap.push (.cells ⟨cs⟩ T'):=by
   apply Array.ext
   ·simp
   ·intro i h2 h3
    rw [Array.getElem_setIfInBounds (by simpa using h2)]
    simp only [Array.getElem_push]
    by_cases hi:i<w0.heap.size
    ·rw [if_neg (by omega),dif_pos hi,dif_pos hi]
    ·have:i=w0.heap.size:=by simp at h3;omega
     subst this
     simp
  show {w0.alloc (.cells zs T')with heap:=(w0.heap.push (.cells zs T')).setIfInBounds w0.heap.size (.cells ⟨cs⟩ T')}=_
  rw [this]
  rfl
 rw [e]
 exact h
end
theorem t91(w:World):(isAgg 91).run Tryz.prog w= .ok true w∧(sizeOf 91).run Tryz.prog w= .ok 32 w:=⟨by kernel_rfl,by kernel_rfl⟩
theorem t93(w:World):(isAgg 93).run Tryz.prog w= .ok true w∧(sizeOf 93).run Tryz.prog w= .ok 33 w:=⟨by kernel_rfl,by kernel_rfl⟩
theorem t95(w:World):(isAgg 95).run Tryz.prog w= .ok true w∧(sizeOf 95).run Tryz.prog w= .ok 38 w:=⟨by kernel_rfl,by kernel_rfl⟩
end Bg
end
section
open Go Go.az
namespace L
def EF(n:Nat)(x0:List UInt8)(x1:Int)(x2:Bool):Option ((List UInt8×Int×Unit)×Unit×Unit⊕Unit×Unit×Unit⊕Bool×Unit):=
 iff x2 (some (Sum.inr (Sum.inr (false,()))))
 (some (Sum.inl ((x0,aP Go.IntKind.i64 (Int.add x1 (Int.ofNat 1)),()),(),())))
def rC(n:Nat)(x0:List UInt8)(x1:Int):Option ((List UInt8×Int×Unit)×Unit×Unit⊕Unit×Unit×Unit⊕Bool×Unit):=
 iff (!bD (Int.ofNat (aY x0)) x1)
 (andThen
  (andThen (an x1 (aY x0)) fun(j3:Nat)=>
   andThen (aU j3 x0) fun(y4:UInt8)=>
    iff (!bD (Int.ofNat 32) (Int.ofNat y4.toNat))
     (some (Sum.inl ((x0,x1,true,()),(),())))
     (andThen (an x1 (aY x0)) fun(j5:Nat)=>
      andThen (aU j5 x0) fun(y6:UInt8)=>
       some (Sum.inl ((x0,x1,!bD (Int.ofNat y6.toNat) (Int.ofNat 126),()),(),()))))
  (cq fun(x:(List UInt8×Int×Bool×Unit)×Unit×Unit)=>
   EF n x.1.1 x.1.2.1 x.1.2.2.1))
 (some (Sum.inr (Sum.inl ((),(),()))))
def SO(n:Nat):Option (Bool×Unit):=
 some (true,())
def Yp(n:Nat)(x0:List UInt8):Option (Bool×Unit):=
 andThen
 (cp (fun(x:(List UInt8×Int×Unit)×Unit×Unit)=>rC n x.1.1 x.1.2.1) n
  ((x0,Int.ofNat 0,()),(),()))
 (cq fun(x:Unit×Unit×Unit)=>SO n)
def XH(n:Nat)(a:bg [t9]):Option (bg [t4]):=Yp n (a.1)
def Yq:dU:=⟨[(2,Cut.mk [(0,bj.d Ty.str),(3,bj.d (Ty.int Go.IntKind.i64))] [] [] 0)],[(6,Cut.mk [] [] [] 0),(5,Cut.mk [(0,bj.d Ty.str),(3,bj.d (Ty.int Go.IntKind.i64)),(19,bj.d Ty.bool)] [] [] 0)],[]⟩
def SP(n:Nat):bu:=⟨33,[t9],[t4],XH n,false,none⟩
theorem SQ(n:Nat):aJ Tryz.prog fg 33 (bu.spec (SP n)):=
 bc (tab:=[]) (fn:=Tryz.f33) Yq n mix Tb.bT (fun _ h=>by cases h) Tryz.func33 rfl (by kernel_rfl) (fun h=>by cases h) (fun⟨x0,_⟩=>by kernel_rfl)
def WM(n:Nat)(x0:Int):Option (Int×Unit):=
 some (Int.tmod x0 (Int.ofNat 4503599627370496),())
def Yr(n:Nat)(a:bg [t22]):Option (bg [t22]):=WM n (a.1)
def WN:dU:=⟨[],[],[]⟩
def Q1(n:Nat):bu:=⟨103,[t22],[t22],Yr n,false,none⟩
theorem P0(n:Nat):aJ Tryz.prog fg 103 (bu.spec (Q1 n)):=
 bc (tab:=[]) (fn:=Tryz.f103) WN n mix Tb.bT (fun _ h=>by cases h) Tryz.func103 rfl (by kernel_rfl) (fun h=>by cases h) (fun⟨x0,_⟩=>by kernel_rfl)
def WO(n:Nat)(x0:Int):Option (Int×Unit):=
 some
 (aP Go.IntKind.i64 (aP Go.IntKind.u64 (Int.tdiv (Int.tmod x0 (Int.ofNat 9223372036854775808)) (Int.ofNat 4503599627370496))),
  ())
def Ys(n:Nat)(a:bg [t22]):Option (bg [t3]):=WO n (a.1)
def WQ:dU:=⟨[],[],[]⟩
def Q2(n:Nat):bu:=⟨102,[t22],[t3],Ys n,false,none⟩
theorem P1(n:Nat):aJ Tryz.prog fg 102 (bu.spec (Q2 n)):=
 bc (tab:=[]) (fn:=Tryz.f102) WQ n mix Tb.bT (fun _ h=>by cases h) Tryz.func102 rfl (by kernel_rfl) (fun h=>by cases h) (fun⟨x0,_⟩=>by kernel_rfl)
def wh(n:Nat)(x0:Int)(x1:Int)(x2:Bool):Option (Int×Unit):=
 iff x2 (some (Int.ofNat 1,()))
 (iff (cB x0 (Int.ofNat 0)) (some (Int.ofNat 2,()))
  (iff (!bD (Int.ofNat 2047) x0) (some (Int.ofNat 3,()))
   (iff (cB x1 (Int.ofNat 0)) (some (Int.ofNat 4,())) (some (Int.ofNat 5,())))))
def SR(n:Nat)(x0:Int):Option (Int×Unit):=
 andThen
 (iff
  (cB
   (aP Go.IntKind.i64
    (aP Go.IntKind.u64 (Int.tdiv (Int.tmod x0 (Int.ofNat 9223372036854775808)) (Int.ofNat 4503599627370496))))
   (Int.ofNat 0))
  (some
   (Sum.inl
    ((aP Go.IntKind.i64
       (aP Go.IntKind.u64 (Int.tdiv (Int.tmod x0 (Int.ofNat 9223372036854775808)) (Int.ofNat 4503599627370496))),
      Int.tmod x0 (Int.ofNat 4503599627370496),cB (Int.tmod x0 (Int.ofNat 4503599627370496)) (Int.ofNat 0),()),
     (),())))
  (some
   (Sum.inl
    ((aP Go.IntKind.i64
       (aP Go.IntKind.u64 (Int.tdiv (Int.tmod x0 (Int.ofNat 9223372036854775808)) (Int.ofNat 4503599627370496))),
      Int.tmod x0 (Int.ofNat 4503599627370496),false,()),
     (),()))))
 (cq fun(x:(Int×Int×Bool×Unit)×Unit×Unit)=>
  wh n x.1.1 x.1.2.1 x.1.2.2.1)
def XI(n:Nat)(a:bg [t22]):Option (bg [t5]):=SR n (a.1)
def Yt:dU:=⟨[],[(3,Cut.mk [(3,bj.d (Ty.int Go.IntKind.i64)),(4,bj.d (Ty.int Go.IntKind.u64)),(14,bj.d Ty.bool)]
 [] [] 0)],[]⟩
def SU(n:Nat):bu:=⟨70,[t22],[t5],XI n,false,none⟩
theorem SV(n:Nat):aJ Tryz.prog fg 70 (bu.spec (SU n)):=
 bc (tab:=[Q1 n,Q2 n]) (fn:=Tryz.f70) Yt n mix Tb.bT (Cons.all (.cons (P0 n) (.cons (P1 n) .nil))) Tryz.func70 rfl (by kernel_rfl) (fun h=>by cases h) (fun⟨x0,_⟩=>by kernel_rfl)
def Yu(n:Nat)(x0:Int):Option (Int×Unit):=
 andThen (XI n (x0,()))
 fun(y1:bg (bu.B (SU n)))=>
 iff (cB y1.1 (Int.ofNat 5)) (some (Int.ofNat 9221120237041090560,())) (some (x0,()))
def XJ(n:Nat)(a:bg [t22]):Option (bg [t22]):=Yu n (a.1)
def Yv:dU:=⟨[],[],[]⟩
def SW(n:Nat):bu:=⟨32,[t22],[t22],XJ n,false,none⟩
theorem SX(n:Nat):aJ Tryz.prog fg 32 (bu.spec (SW n)):=
 bc (tab:=[SU n]) (fn:=Tryz.f32) Yv n mix Tb.bT (Cons.all (.cons (SV n) .nil)) Tryz.func32 rfl (by kernel_rfl) (fun h=>by cases h) (fun⟨x0,_⟩=>by kernel_rfl)
def SY(n:Nat)(x0:Bool):Option (Unit×Unit×Unit⊕Int×Unit):=
 iff x0 (some (Sum.inr (Int.ofNat 0,()))) (some (Sum.inl ((),(),())))
def LP(n:Nat)(x0:Bool):Option (Unit×Unit×Unit⊕Int×Unit):=
 iff x0 (some (Sum.inr (Int.ofNat 0,()))) (some (Sum.inl ((),(),())))
def Gx(n:Nat)(x0:Bool):Option (Unit×Unit×Unit⊕Int×Unit):=
 iff x0 (some (Sum.inr (Int.ofNat 0,()))) (some (Sum.inl ((),(),())))
def Au(n:Nat):Option (Int×Unit):=
 some (Int.ofNat 8,())
def SZ(n:Nat)(x0:El t24):Option (Int×Unit):=
 andThen
 (iff (cB x0.1 (Int.ofNat 1))
  (andThen
   (iff (cB x0.2.2.1 (Int.ofNat 0)) (some (Sum.inl ((aQ x0.2.2.2.1 [],()),(),())))
    (some (Sum.inl ((false,()),(),()))))
   (cq fun(x:(Bool×Unit)×Unit×Unit)=>SY n x.1.1))
  (iff (cB x0.1 (Int.ofNat 2))
   (andThen
    (iff (cB x0.2.1 (Int.ofNat 0))
     (iff (aQ x0.2.2.2.1 [])
      (andThen (XJ n (x0.2.2.1,()))
       fun(y2:bg (bu.B (SW n)))=>
       some (Sum.inl ((cB y2.1 x0.2.2.1,()),(),())))
      (some (Sum.inl ((false,()),(),()))))
     (some (Sum.inl ((false,()),(),()))))
    (cq fun(x:(Bool×Unit)×Unit×Unit)=>LP n x.1.1))
   (iff (cB x0.1 (Int.ofNat 3))
    (andThen
     (iff (cB x0.2.1 (Int.ofNat 0))
      (iff (cB x0.2.2.1 (Int.ofNat 0))
       (iff (bD (Int.ofNat (aY x0.2.2.2.1)) (Int.ofNat 30))
        (andThen (XH n (x0.2.2.2.1,()))
         fun(y4:bg (bu.B (SP n)))=>
         some (Sum.inl ((y4.1,()),(),())))
        (some (Sum.inl ((false,()),(),()))))
       (some (Sum.inl ((false,()),(),()))))
      (some (Sum.inl ((false,()),(),()))))
     (cq fun(x:(Bool×Unit)×Unit×Unit)=>Gx n x.1.1))
    (some (Sum.inl ((),(),()))))))
 (cq fun(x:Unit×Unit×Unit)=>Au n)
def UQ(n:Nat)(a:bg [t24]):Option (bg [t3]):=SZ n (a.1)
def Yw:dU:=⟨[],[(11,Cut.mk [] [] [] 0),(4,Cut.mk [(14,bj.d Ty.bool)] [] [] 0),(7,Cut.mk [(32,bj.d Ty.bool)] [] [] 0),(10,Cut.mk [(53,bj.d Ty.bool)] [] [] 0)],[]⟩
def S0(n:Nat):bu:=⟨11,[t24],[t3],UQ n,false,none⟩
theorem S1(n:Nat):aJ Tryz.prog fg 11 (bu.spec (S0 n)):=
 bc (tab:=[SP n,SW n]) (fn:=Tryz.f11) Yw n mix Tb.bT (Cons.all (.cons (SQ n) (.cons (SX n) .nil))) Tryz.func11 rfl (by kernel_rfl) (fun h=>by cases h) (fun⟨x0,_⟩=>by kernel_rfl)
end L
end
section
open Go Go.az Go.RowKit
namespace L
def nan(b:Nat):Bool:=decide (b % 9223372036854775808 / 4503599627370496=2047)&&decide (b % 4503599627370496≠0)
def canon(b:Nat):Nat:=if nan b=true then 9221120237041090560 else b
theorem P2(b:Nat):Nat.land b 4503599627370495=b % 4503599627370496:=Nat.and_two_pow_sub_one_eq_mod b 52
theorem S2(b:Nat):Nat.land b 2047=b % 2048:=Nat.and_two_pow_sub_one_eq_mod b 11
theorem Yx(b:Nat):b % 9223372036854775808 / 4503599627370496=b / 4503599627370496 % 2048:=by omega
theorem wrap_i64{k:Nat}(h:k<9223372036854775808):aP .i64 (Int.ofNat k)=Int.ofNat k:=by
 show iff (Nat.ble k 9223372036854775807) (Int.ofNat k) _=_
 rw [gP (by omega)];rfl
theorem wrap_u64{k:Nat}(h:k<18446744073709551616):aP .u64 (Int.ofNat k)=Int.ofNat k:=by
 show iff (Nat.ble k 18446744073709551615) (Int.ofNat k) _=_
 rw [gP (by omega)];rfl
theorem Iw{k:Nat}(h:k<18446744073709551616):eU .i64 (Int.ofNat k)=k:=by
 show iff (Nat.blt k 18446744073709551616) k _=_
 rw [(bK _ _).2 h];rfl
theorem Iy{k:Nat}(h:k<18446744073709551616):eU .u64 (Int.ofNat k)=k:=by
 show iff (Nat.blt k 18446744073709551616) k _=_
 rw [(bK _ _).2 h];rfl
theorem Iz{k:Nat}(h:k<9223372036854775808):fO .i64 k=Int.ofNat k:=by
 show iff (Nat.ble k 9223372036854775807) (Int.ofNat k) _=_
 rw [gP (by omega)];rfl
theorem IA{k:Nat}(h:k<18446744073709551616):fO .u64 k=Int.ofNat k:=by
 show iff (Nat.ble k 18446744073709551615) (Int.ofNat k) _=_
 rw [gP (by omega)];rfl
theorem LQ(a b:Nat):Int.fdiv (Int.ofNat a) (Int.ofNat b)=Int.ofNat (a / b):=by
 show Int.fdiv (a:Int) (b:Int)=((a / b:Nat):Int)
 rw [Int.fdiv_eq_ediv_of_nonneg _ (Int.natCast_nonneg b)];rfl
theorem LR(n:Nat)(b:Nat)(hb:b<18446744073709551616):∃c:Int,PW n (Int.ofNat b,())=some (c,())∧cB c (Int.ofNat 5)=nan b:=by
 have h1:Int.fdiv (Int.ofNat b) (Int.ofNat 4503599627370496)=Int.ofNat (b / 4503599627370496):=LQ _ _
 have hlt:b / 4503599627370496<4096:=by omega
 show∃c:Int,LG n (Int.ofNat b)=some (c,())∧_
 unfold LG
 rw [h1,wrap_i64 (by omega),Iw (by omega),S2,Iz (by omega),Iy hb,P2,IA (by omega),ej,ej]
 unfold nan
 rw [Yx]
 generalize b / 4503599627370496 % 2048=e
 generalize b % 4503599627370496=f
 by_cases he:e=2047
 ·subst he
  by_cases hf:f=0
  ·subst hf;exact⟨_,rfl,rfl⟩
  ·refine⟨Int.ofNat 5,?_,?_⟩
   ·rw [decide_eq_false hf];rfl
   ·rw [decide_eq_true hf];rfl
 ·rw [decide_eq_false he]
  show∃c:Int,Aq n (Int.ofNat e) (Int.ofNat f) false=_∧_
  unfold Aq
  rw [ej,ej,ej,decide_eq_false he]
  by_cases h0:e=0
  ·rw [decide_eq_true h0]
   by_cases hf:f=0
   ·rw [decide_eq_true hf];exact⟨_,rfl,rfl⟩
   ·rw [decide_eq_false hf];exact⟨_,rfl,rfl⟩
  ·rw [decide_eq_false h0];exact⟨_,rfl,rfl⟩
theorem P3(n:Nat)(b:Nat)(hb:b<18446744073709551616):∃c:Int,XI n (Int.ofNat b,())=some (c,())∧cB c (Int.ofNat 5)=nan b:=by
 have h1:Int.tdiv (Int.tmod (Int.ofNat b) (Int.ofNat 9223372036854775808)) (Int.ofNat 4503599627370496)=Int.ofNat (b % 9223372036854775808 / 4503599627370496):=rfl
 have h2:Int.tmod (Int.ofNat b) (Int.ofNat 4503599627370496)=Int.ofNat (b % 4503599627370496):=rfl
 have hlt:b % 9223372036854775808 / 4503599627370496<2048:=by omega
 show∃c:Int,SR n (Int.ofNat b)=some (c,())∧_
 unfold SR
 rw [h1,h2,wrap_u64 (by omega),wrap_i64 (by omega),ej,ej]
 unfold nan
 generalize b % 9223372036854775808 / 4503599627370496=e at hlt
 generalize b % 4503599627370496=f
 by_cases h0:e=0
 ·subst h0
  rw [decide_eq_true rfl]
  show∃c:Int,wh n (Int.ofNat 0) (Int.ofNat f) (decide (f=0))=_∧_
  unfold wh
  by_cases hf:f=0
  ·rw [decide_eq_true hf];exact⟨_,rfl,rfl⟩
  ·rw [decide_eq_false hf];exact⟨_,rfl,rfl⟩
 ·rw [decide_eq_false h0]
  show∃c:Int,wh n (Int.ofNat e) (Int.ofNat f) false=_∧_
  unfold wh
  rw [ej,ej,gJ,decide_eq_false h0]
  by_cases he:e=2047
  ·subst he
   rw [decide_eq_true (Nat.le_refl 2047)]
   by_cases hf:f=0
   ·subst hf;exact⟨_,rfl,rfl⟩
   ·rw [decide_eq_false hf];refine⟨_,rfl,?_⟩;simp [hf];rfl
  ·rw [decide_eq_false (show¬2047≤e by omega),decide_eq_false he];exact⟨_,rfl,rfl⟩
theorem S3(n b:Nat)(hb:b<18446744073709551616):XF n (Int.ofNat b,())=some (Int.ofNat (canon b),()):=by
 obtain⟨c,h1,h2⟩:=LR n b hb
 show andThen (PW n (Int.ofNat b,())) _=_
 rw [h1]
 show iff (cB c (Int.ofNat 5)) _ _=_
 rw [h2]
 unfold canon
 cases nan b<;>rfl
theorem S4(n b:Nat)(hb:b<18446744073709551616):XJ n (Int.ofNat b,())=some (Int.ofNat (canon b),()):=by
 obtain⟨c,h1,h2⟩:=P3 n b hb
 show andThen (XI n (Int.ofNat b,())) _=_
 rw [h1]
 show iff (cB c (Int.ofNat 5)) _ _=_
 rw [h2]
 unfold canon
 cases nan b<;>rfl
theorem S5(n:Nat)(l:List UInt8)(hl:l.length<n)(hl2:l.length≤1000000):XH n (l,())=some (Tx.dh l,()):=by
 have h:=EA (X:=(List UInt8×Int×Unit)×Unit×Unit) (R:=Unit×Unit×Unit⊕Bool×Unit)
  (body:=fun x=>rC n x.1.1 x.1.2.1) l (fun k=>((l,Int.ofNat k,()),(),())) (fun c=>Tx.pr c.toNat) (fun _=> .inr (false,())) (.inl ((),(),()))
  (fun k a hk=>by
   have hlt:=(List.getElem?_eq_some_iff.1 hk).1
   show rC n l (Int.ofNat k)=_
   unfold rC
   rw [aC,dO (br hlt),aV hlt,fA,bf hk,fA,gJ,Tx.pr]
   by_cases h1:32≤a.toNat
   ·rw [decide_eq_true h1,decide_eq_false (show¬a.toNat<32 by omega)]
    show andThen (andThen (some k) fun j5=>andThen (aU j5 l) _) _=_
    rw [fA,bf hk,fA,gJ,fA,vR]
    show EF n l (Int.ofNat k) (!decide (a.toNat≤126))=_
    unfold EF
    rw [cX (by omega)]
    by_cases h2:a.toNat≤126
    ·rw [decide_eq_true h2,decide_eq_false (show¬126<a.toNat by omega)];rfl
    ·rw [decide_eq_false h2,decide_eq_true (show 126<a.toNat by omega)];rfl
   ·rw [decide_eq_false h1,decide_eq_true (show a.toNat<32 by omega)];rfl)
  (by
   show rC n l (Int.ofNat l.length)=_
   unfold rC
   rw [aC,dI (le_true (Nat.le_refl _))]) n hl
 show andThen _ _=_
 rw [h]
 have key:∀(l:List UInt8) k,(Ez (fun c:UInt8=>Tx.pr c.toNat) (fun _=>Sum.inr (false,())) (Sum.inl ((),(),())) l k:Unit×Unit×Unit⊕Bool×Unit)=if Tx.dh l=true then .inl ((),(),())else .inr (false,()):=by
  intro l
  induction l with
  |nil=>intro k;rfl
  |cons c l ih=>
   intro k
   rw [Ez,ih]
   unfold Tx.dh
   rw [List.all_cons]
   cases Tx.pr c.toNat<;>rfl
 rw [key]
 cases Tx.dh l<;>rfl
def ga(k m:Int)(b:Nat)(l:List UInt8):Bool:=
 if k=1 then decide (b=0)&&decide (l=[])else if k=2 then decide (m=0)&&decide (l=[])&&decide (canon b=b)else if k=3 then decide (m=0)&&decide (b=0)&&decide (l.length≤30)&&Tx.dh l else false
theorem LS(l:List UInt8):aQ l []=decide (l=[]):=by cases l<;>rfl
theorem S6(n:Nat)(k m:Int)(b:Nat)(l:List UInt8)(hb:b<18446744073709551616)(hl:l.length<n)(hl2:l.length≤1000000):UQ n ((k,m,Int.ofNat b,l,()),())=some (if ga k m b l=true then Int.ofNat 0 else Int.ofNat 8,()):=by
 have q1:cB k (Int.ofNat 1)=decide (k=1):=fZ _ _
 have q2:cB k (Int.ofNat 2)=decide (k=2):=fZ _ _
 have q3:cB k (Int.ofNat 3)=decide (k=3):=fZ _ _
 have qm:cB m (Int.ofNat 0)=decide (m=0):=fZ _ _
 have qb:cB (Int.ofNat b) (Int.ofNat 0)=decide (b=0):=ej _ _
 have ql:aQ l []=decide (l=[]):=LS l
 have qz:bD (Int.ofNat (aY l)) (Int.ofNat 30)=decide (l.length≤30):=by rw [aC,gJ]
 show SZ n (k,m,Int.ofNat b,l,())=_
 unfold SZ ga
 show andThen (iff (cB k (Int.ofNat 1)) (andThen (iff (cB (Int.ofNat b) (Int.ofNat 0)) (some (Sum.inl ((aQ l [],()),(),()))) _) _) (iff (cB k (Int.ofNat 2)) _ (iff (cB k (Int.ofNat 3)) _ _))) _=_
 rw [q1,q2,q3]
 by_cases h1:k=1
 ·rw [if_pos h1,decide_eq_true h1,qb,ql]
  by_cases hb0:b=0
  ·by_cases hn:l=[]
   ·rw [decide_eq_true hb0,decide_eq_true hn];rfl
   ·rw [decide_eq_true hb0,decide_eq_false hn];rfl
  ·rw [decide_eq_false hb0];rfl
 ·rw [if_neg h1,decide_eq_false h1]
  by_cases h2:k=2
  ·rw [if_pos h2,decide_eq_true h2]
   show andThen (andThen (iff (cB m (Int.ofNat 0)) (iff (aQ l []) (andThen (XJ n (Int.ofNat b,())) (fun(y:bg [t22])=>some (Sum.inl ((cB y.1 (Int.ofNat b),()),(),())))) _) _) (cq fun(x:(Bool×Unit)×Unit×Unit)=>LP n x.1.1)) (cq fun(_:Unit×Unit×Unit)=>Au n)=_
   rw [qm,ql,S4 n b hb]
   show andThen (andThen (iff _ (iff _ (some (Sum.inl ((cB (Int.ofNat (canon b)) (Int.ofNat b),()),(),()))) _) _) _) _=_
   rw [ej]
   by_cases hm:m=0
   ·by_cases hn:l=[]
    ·rw [decide_eq_true hm,decide_eq_true hn]
     by_cases hc:canon b=b
     ·rw [decide_eq_true hc];rfl
     ·rw [decide_eq_false hc];rfl
    ·rw [decide_eq_true hm,decide_eq_false hn];rfl
   ·rw [decide_eq_false hm];rfl
  ·rw [if_neg h2,decide_eq_false h2]
   by_cases h3:k=3
   ·rw [if_pos h3,decide_eq_true h3]
    show andThen (andThen (iff (cB m (Int.ofNat 0)) (iff (cB (Int.ofNat b) (Int.ofNat 0)) (iff (bD (Int.ofNat (aY l)) (Int.ofNat 30)) (andThen (XH n (l,())) (fun(y:bg [t4])=>some (Sum.inl ((y.1,()),(),())))) _) _) _) (cq fun(x:(Bool×Unit)×Unit×Unit)=>Gx n x.1.1)) (cq fun(_:Unit×Unit×Unit)=>Au n)=_
    rw [qm,qb,qz,S5 n l hl hl2]
    by_cases hm:m=0
    ·by_cases hb0:b=0
     ·by_cases hle:l.length≤30
      ·rw [decide_eq_true hm,decide_eq_true hb0,decide_eq_true hle]
       cases Tx.dh l<;>rfl
      ·rw [decide_eq_true hm,decide_eq_true hb0,decide_eq_false hle];rfl
     ·rw [decide_eq_true hm,decide_eq_false hb0];rfl
    ·rw [decide_eq_false hm];rfl
   ·rw [if_neg h3,decide_eq_false h3];rfl
def mk(k m:Int)(b:Nat)(l:List UInt8):El t24:=((k:Int),(m:Int),Int.ofNat b,l,())
theorem Av(n:Nat)(k m:Int)(b:Nat)(l:List UInt8)(h0:k≠0):mF n (mk k m b l) (mk k m b l)=some (Int.ofNat 0,()):=by
 have h:gV t24 (mk k m b l) (mk k m b l)=true:=pP rfl _
 show andThen (iff (!gV t24 (mk k m b l) (mk k m b l)) _ _) _=_
 rw [h]
 show andThen (some (Sum.inl ((cB k (Int.ofNat 0),()),(),()))) _=_
 rw [fA,vR,fZ,decide_eq_false (show¬k=Int.ofNat 0 from h0)];rfl
theorem P4(n:Nat)(k m:Int)(b:Nat)(l:List UInt8)(h0:k=0)(y:El t24):mF n (mk k m b l) y=some (Int.ofNat 8,()):=by
 show andThen (iff (!gV t24 (mk k m b l) y) _ _) _=_
 cases gV t24 (mk k m b l) y with
 |false=>rfl
 |true=>
  show andThen (some (Sum.inl ((cB k (Int.ofNat 0),()),(),()))) _=_
  rw [fA,vR,fZ,decide_eq_true (show k=Int.ofNat 0 from h0)];rfl
theorem gK(n:Nat)(x y:El t24)(h:x≠y):mF n x y=some (Int.ofNat 8,()):=by
 have h:gV t24 x y=false:=by
  cases he:gV t24 x y with
  |false=>rfl
  |true=>exact absurd ((z6 (t:=t24) rfl x y).1 he) h
 show andThen (iff (!gV t24 x y) _ _) _=_
 rw [h];rfl
theorem mk_inj{k m k' m':Int}{b b':Nat}{l l':List UInt8}(h:mk k m b l=mk k' m' b' l'):k=k'∧m=m'∧b=b'∧l=l':=
 ⟨congrArg (fun x:El t24=>x.1) h,congrArg (fun x:El t24=>x.2.1) h,Int.ofNat_inj.1 (congrArg (fun x:El t24=>x.2.2.1) h),congrArg (fun x:El t24=>x.2.2.2.1) h⟩
theorem LU(n:Nat)(k m:Int)(b:Nat)(l:List UInt8)(hb:b<18446744073709551616)(hl2:l.length≤1000000):SJ n (mk k m b l,())=some (if ga k m b l=true then Int.ofNat 0 else Int.ofNat 8,()):=by
 show SI n (k,m,Int.ofNat b,l,())=_
 unfold SI ga
 simp only [fZ]
 by_cases h1:k=1
 ·subst h1
  rw [if_pos rfl]
  show mF n (mk 1 m b l) (mk 1 m 0 [])=_
  by_cases hb0:b=0
  ·by_cases hn:l=[]
   ·subst hb0 hn
    rw [Av n _ _ _ _ (show(1:Int)≠0 by decide)];rfl
   ·rw [gK n _ _ (fun h=>hn (mk_inj h).2.2.2),decide_eq_false hn,Bool.and_false];rfl
  ·rw [gK n _ _ (fun h=>hb0 (mk_inj h).2.2.1),decide_eq_false hb0];rfl
 ·rw [if_neg h1,decide_eq_false (show¬k=Int.ofNat 1 from h1)]
  by_cases h2:k=2
  ·subst h2
   rw [if_pos rfl]
   have h35:XG n (Int.ofNat b,())=some (mk 2 0 (canon b) [],()):=by
    show andThen (XF n (Int.ofNat b,())) _=_
    rw [S3 n b hb];rfl
   show andThen (andThen (XG n (Int.ofNat b,())) _) _=_
   rw [h35]
   show mF n (mk 2 m b l) (mk 2 0 (canon b) [])=_
   by_cases hm:m=0
   ·by_cases hn:l=[]
    ·by_cases hc:canon b=b
     ·subst hm hn
      rw [hc,Av n _ _ _ _ (show(2:Int)≠0 by decide),decide_eq_true (show b=b from rfl)];rfl
     ·rw [gK n _ _ (fun h=>hc (mk_inj h).2.2.1.symm),decide_eq_false hc,Bool.and_false];rfl
    ·rw [gK n _ _ (fun h=>hn (mk_inj h).2.2.2),decide_eq_false hn,Bool.and_false];rfl
   ·rw [gK n _ _ (fun h=>hm (mk_inj h).2.1),decide_eq_false hm];rfl
  ·rw [if_neg h2,decide_eq_false (show¬k=Int.ofNat 2 from h2)]
   by_cases h3:k=3
   ·subst h3
    rw [if_pos rfl]
    have h36:XE n (l,())=some (vZ l):=fH (gP (by rw [aC];omega))
    show andThen (andThen (XE n (l,())) _) _=_
    rw [h36]
    show mF n (mk 3 m b l) (vZ l).1=_
    by_cases hle:l.length≤30
    ·cases hp:Tx.dh l with
     |true=>
      have hr:(vZ l).1=mk 3 0 0 l:=by
       unfold vZ
       rw [p8 (by rw [aC];exact Bool.eq_false_iff.2 (fun h=>by have:=(bK _ _).1 h;omega)),fH hp];rfl
      rw [hr]
      by_cases hm:m=0
      ·by_cases hb0:b=0
       ·subst hm hb0
        rw [Av n _ _ _ _ (show(3:Int)≠0 by decide),decide_eq_true hle];rfl
       ·rw [gK n _ _ (fun h=>hb0 (mk_inj h).2.2.1),decide_eq_false hb0,Bool.and_false];rfl
      ·rw [gK n _ _ (fun h=>hm (mk_inj h).2.1),decide_eq_false hm];rfl
     |false=>
      have hr:(vZ l).1=mk 0 0 0 []:=by
       unfold vZ
       rw [p8 (by rw [aC];exact Bool.eq_false_iff.2 (fun h=>by have:=(bK _ _).1 h;omega)),p8 hp];rfl
      rw [hr,gK n _ _ (fun h=>by have:=(mk_inj h).1;cases this),Bool.and_false];rfl
    ·have hr:(vZ l).1=mk 0 0 0 []:=by
      unfold vZ
      rw [fH (by rw [aC];exact(bK _ _).2 (by omega))];rfl
     rw [hr,gK n _ _ (fun h=>by have:=(mk_inj h).1;cases this),decide_eq_false hle,Bool.and_false];rfl
   ·rw [if_neg h3,decide_eq_false (show¬k=Int.ofNat 3 from h3)]
    show mF n (mk k m b l) (mk 0 0 0 [])=_
    by_cases h0:k=0
    ·rw [P4 n _ _ _ _ h0];rfl
    ·rw [gK n _ _ (fun h=>h0 (mk_inj h).1)];rfl
theorem check(k m:Int)(b:Nat)(l:List UInt8)(hb:b<18446744073709551616)(hl2:l.length≤1000000)(w:World):
  Calls Tryz.prog 12 #[.agg #[.int .u8 k,.int .i64 m,.int .u64 b,.string ⟨⟨l⟩⟩]] w fun e w'=>e= .returned (.int .i64 (if ga k m b l=true then 0 else 8))∧Below w.heap.size w w':=by
 have h:=Am (ED 0) rfl rfl rfl (LU 0 k m b l hb hl2) w
 refine h.mono fun e w' ⟨h1,h2⟩=>⟨?_,h2⟩
 rw [h1]
 by_cases ho:ga k m b l=true
 ·rw [if_pos ho,if_pos ho];rfl
 ·rw [if_neg ho,if_neg ho];rfl
end L
end
section
open Go Go.az Go.RowKit
namespace Td
open L
theorem LV{w w':World}(hb:Below w.heap.size w w'){B:Nat}{cc:List Value}(h:cP w B=some cc):cP w' B=some cc:=by
 obtain⟨elem,fz,h1⟩:=kj h
 exact qf ((hb.block B (az.aB h1)).trans h1)
theorem jd{w w':World}{t:Ty}{x:El t}{v:Value}(h:cQ w t x v)(hb:Below w.heap.size w w'):cQ w' t x v:=
 As h fun B cc h1=>LV hb h1
theorem IB{w:World}{t:Ty}(hp:cn t=true){x:List (El t)}{v':Value}(h:cQ w (.slice t) x v'):(x=[]∧((∃c,v'= .slice none 0 c)∨∃a c,v'= .slice (some a) 0 c))∨
  ∃(b o c:Nat),v'= .slice (some ⟨b,o,none⟩) x.length c∧x.length≤c∧b<w.heap.size∧
   ∀(i:Nat)(y:El t),x[i]? =some y→∀(j:Nat)(v:Value),(ah t y)[j]? =some v→w.cell? ⟨b,o+i*al t+j,none⟩=some v:=by
 rcases we h with⟨rfl,c,rfl⟩|⟨⟨b,o,s⟩,c,rfl,hc,h1⟩
 ·exact .inl ⟨rfl,.inl ⟨c,rfl⟩⟩
 ·rcases h1 with rfl|⟨hs,cc,cs',h2,h3,h4⟩
  ·exact .inl ⟨rfl,.inr ⟨_,c,rfl⟩⟩
  ·simp only at hs h2 h3
   subst hs
   have hpl:∀v∈(x.map (ah t)).flatten,jH v=true:=fun v hv=>by
    obtain⟨r,hr,hv⟩:=List.mem_flatten.1 hv
    obtain⟨y,_,rfl⟩:=List.mem_map.1 hr
    exact gQ t y hp v hv
   have h5:=aR.jO h4 hpl
   subst h5
   obtain⟨elem,fz,hB⟩:=kj h2
   refine .inr ⟨b,o,c,rfl,hc,az.aB hB,fun i y hy j v hv=>?_⟩
   have hw:=(eC.row (c:=ah t) (z:=al t) (fun y _=>aH t y) hy)
   have hw2:=h3.trans hw
   have hj:j<(ah t y).length:=(List.getElem?_eq_some_iff.1 hv).1
   obtain⟨g1,g2⟩:=hw2
   have:w.cell? ⟨b,o+i*al t+j,none⟩=cc[o+i*al t+j]? :=by simp [World.cell?,hB]
   rw [this,←hv,←g2,List.getElem?_take,if_pos hj,List.getElem?_drop]
def gy(x:El t47):Int:=x.1
def cK(x:El t47):List (El t93):=x.2.1.1
def cv(x:El t47):List (El t95):=x.2.2.1.1
def cf(x:El t47):List (El t91):=x.2.2.2.1
def cR(i:El t91):List Int:=i.1
def rE(t:El t93):List UInt8:=t.1
def Gy(t:El t93):El t91:=t.2.1
def rF(r:El t95):List UInt8:=r.1
def bh(r:El t95):El t24:=r.2.1
def ep(r:El t95):Int:=r.2.2.1
def Dj(r:El t95):El t91:=r.2.2.2.1
def vK(v:El t24):Int:=v.1
def vM(v:El t24):Int:=v.2.1
def vB(v:El t24):Int:=v.2.2.1
def vT(v:El t24):List UInt8:=v.2.2.2.1
theorem nf{w:World}{x:El t47}{v':Value}(h:cQ w t47 x v'):
  ∃tv rv hv,v'= .agg #[.int .i64 (gy x),tv,rv,hv]∧cQ w (.slice t93) (cK x) tv∧cQ w (.slice t95) (cv x) rv∧cQ w (.slice t91) (cf x) hv:=by
 have h:VR ⟨fun _=>none,cP w⟩ No (.agg ⟨[.int .i64 x.1,pF t39 x.2.1.1,pF t42 x.2.2.1.1,pF t45 x.2.2.2.1]⟩) v':=h
 cases h with
 |agg hl h1 hcs=>
  rename_i c'
  obtain⟨v1,r1,rfl,g1,k1⟩:=aR.split (π:=⟨fun _=>none,cP w⟩) (D:=No) ⟨hl,hcs⟩
  obtain⟨v2,r2,rfl,g2,k2⟩:=k1.split
  obtain⟨v3,r3,rfl,g3,k3⟩:=k2.split
  obtain⟨v4,r4,rfl,g4,k4⟩:=k3.split
  rw [k4.empty]
  cases g1
  exact⟨v2,v3,v4,rfl,g2,g3,g4⟩
theorem LW{w:World}{x:El t47}{tv rv hv:Value}(h1:cQ w (.slice t93) (cK x) tv)(h2:cQ w (.slice t95) (cv x) rv)(h3:cQ w (.slice t91) (cf x) hv):cQ w t47 x (.agg #[.int .i64 (gy x),tv,rv,hv]):=by
 have h:=aR.cons (.int .i64 x.1) (.cons (show VR ⟨fun _=>none,cP w⟩ No (pF t39 x.2.1.1) tv from h1) (.cons (show VR ⟨fun _=>none,cP w⟩ No (pF t42 x.2.2.1.1) rv from h2) (.cons (show VR ⟨fun _=>none,cP w⟩ No (pF t45 x.2.2.2.1) hv from h3) .nil)))
 have h4:∀v∈ [Value.int .i64 x.1,pF t39 x.2.1.1,pF t42 x.2.2.1.1,pF t45 x.2.2.2.1],az.bH v=true:=fun v hv=>by
  rcases List.mem_cons.1 hv with rfl|hv
  ·rfl
  rcases List.mem_cons.1 hv with rfl|hv
  ·rfl
  rcases List.mem_cons.1 hv with rfl|hv
  ·rfl
  rw [List.mem_singleton.1 hv];rfl
 exact .agg h.1 h4 h.2
def fL(x:El t91):List UInt8:=Bd.hex (AV (cR x))
def di:List UInt8:=[104,101,97,100,115]
def bt:List UInt8:=[118,101,114,115,105,111,110]
def lg:List UInt8:=[116,97,103]
def nz:List UInt8:=[114,101,103]
def cj(ws:List (List UInt8)):List UInt8:=Jn.cd ws++[10]
def jP(t:El t93):List (List UInt8):=[lg,rE t,fL (Gy t)]
def Aw(v:El t24):List UInt8:=Vl.lK (vK v) (vM v) (vB v).toNat (vT v)
def je(r:El t95):List (List UInt8):=[nz,rF r,Aw (bh r),Lib.decDigits (ep r).toNat,fL (Dj r)]
def nO(x:El t47):List (List (List UInt8)):=[bt,Lib.decDigits (gy x).toNat]::(di::(cf x).map fL)::((cK x).map jP++(cv x).map je)
def eX(x:El t47):List UInt8:=((nO x).map cj).flatten
def Ax(l:List Int):Prop:=∀n∈l,0≤n∧n<256
theorem wi:∀{l:List Int},Ax l→l.map (Value.int .u8)=Lib.byteCells (AV l)
 | [],_=>rfl
 |n::l,h=>by
  obtain⟨h0,h1⟩:=h n (List.mem_cons_self ..)
  have ih:=wi (l:=l) fun m hm=>h m (List.mem_cons_of_mem _ hm)
  have e:((UInt8.ofNat n.toNat).toNat:Int)=n:=by
   rw [UInt8.toNat_ofNat']
   omega
  show Value.int .u8 n::l.map (Value.int .u8)=Value.int .u8 ((UInt8.ofNat n.toNat).toNat:Int)::Lib.byteCells (AV l)
  rw [ih,e]
theorem Gz(l:List Int):(AV l).length=l.length:=List.length_map _
theorem ng(x:El t91)(h:Ax (cR x)):ah t91 x=Lib.byteCells (AV (cR x)):=(Gw (cR x)).trans (wi h)
theorem sR(x:El t91):(ah t91 x).length=32:=aH t91 x
theorem wj(x:El t91):(cR x).length=32:=x.2
theorem Ay(t:El t93)(h:Ax (cR (Gy t))):ah t93 t= .string ⟨⟨rE t⟩⟩::Lib.byteCells (AV (cR (Gy t))):=by
 show Value.string ⟨⟨rE t⟩⟩::(ah t91 (Gy t)++[])=_
 rw [List.append_nil,ng _ h]
theorem GA(r:El t95)(h:Ax (cR (Dj r))):ah t95 r= .string ⟨⟨rF r⟩⟩:: .int .u8 (vK (bh r)):: .int .i64 (vM (bh r)):: .int .u64 (vB (bh r)):: .string ⟨⟨vT (bh r)⟩⟩:: .int .u64 (ep r)::Lib.byteCells (AV (cR (Dj r))):=by
 show Value.string ⟨⟨rF r⟩⟩:: .int .u8 (vK (bh r)):: .int .i64 (vM (bh r)):: .int .u64 (vB (bh r)):: .string ⟨⟨vT (bh r)⟩⟩:: .int .u64 (ep r)::(ah t91 (Dj r)++[])=_
 rw [List.append_nil,ng _ h]
structure Fits(x:El t47):Prop where
 P5:0≤gy x
 IC:gy x≤60
 EG:(cf x).length≤60
 cy:∀y∈cf x,Ax (cR y)
 Q3:(cK x).length≤60
 tags:∀y∈cK x,(rE y).length≤20∧Ax (cR (Gy y))
 Q4:(cv x).length≤60
 cT:∀y∈cv x,(rF y).length≤20∧Ax (cR (Dj y))∧0≤ep y∧ep y≤1000000000000∧ -9223372036854775808≤vM (bh y)∧vM (bh y)≤9223372036854775807∧0≤vB (bh y)∧vB (bh y)<18446744073709551616∧ga (vK (bh y)) (vM (bh y)) (vB (bh y)).toNat (vT (bh y))=true
end Td
end
section
open Go Go.az Go.RowKit
namespace Ui
open L Td
def nb(c:UInt8):Nat:=(Lib.indexByte Bd.Im c).toNat
def ub(s:List UInt8)(i:Nat):Nat→Nat
 |0=>0
 |k+1=>if 2*i+k<s.length then(16*ub s i k) % 256+nb (s.getD (2*i+k) 0)else ub s i k
theorem LX(c:UInt8):∀l:List UInt8,l≠[]→(Lib.indexByte l c).toNat<l.length
 | [],h=>absurd rfl h
 |x::l,_=>by
  unfold Lib.indexByte
  split
  ·exact Nat.succ_pos _
  ·split
   ·exact Nat.succ_pos _
   ·rename_i h1 h2
    have h0:=Lib.indexByte_ge l c
    cases l with
    |nil=>exact absurd rfl h2
    |cons y l=>
     have:=LX c (y::l) (by simp)
     have h3:Lib.indexByte (y::l) c≠ -1:=fun e=>h2 (by rw [e];rfl)
     simp only [List.length_cons]at this ⊢
     omega
theorem LY(c:UInt8):nb c<16:=LX c Bd.Im (by decide)
theorem LZ(s:List UInt8)(i:Nat):∀k,ub s i k<256
 |0=>by simp [ub]
 |k+1=>by
  have ih:=LZ s i k
  have:=LY (s.getD (2*i+k) 0)
  unfold ub
  split
  ·omega
  ·exact ih
def row(s:List UInt8)(i k:Nat):List Value:=(List.range 32).map fun j=> .int .u8 (if j<i then ub s j 2 else if j=i then ub s i k else 0:Nat)
theorem S7(s:List UInt8)(i k:Nat)(h:i<32):(row s i k).toArray[i]? =some (.int .u8 (ub s i k:Nat)):=by
 simp [row,List.getElem?_range,h]
theorem L0(s:List UInt8)(i k:Nat)(h:¬2*i+k<s.length):row s i (k+1)=row s i k:=by
 simp [row,ub,h]
theorem L1(s:List UInt8)(i:Nat):row s i 2=row s (i+1) 0:=by
 unfold row
 apply List.map_congr_left
 intro j hj
 congr 1
 by_cases h1:j<i
 ·simp [h1,Nat.lt_succ_of_lt h1]
 ·by_cases h2:j=i
  ·simp [h2]
  ·have h3:¬j<i+1:=by omega
   by_cases h4:j=i+1
   ·subst h4
    simp [ub]
    omega
   ·simp [h1,h2,h3,h4]
theorem P6(s:List UInt8)(i k:Nat)(hi:i<32)(h:2*i+k<s.length):(row s i k).toArray.setIfInBounds i (.int .u8 ((16*ub s i k) % 256+nb (s.getD (2*i+k) 0):Nat))=(row s i (k+1)).toArray:=by
 apply Array.ext
 ·simp [row]
 ·intro j h1 h2
  have h3:j<32:=by simpa [row]using h2
  by_cases hj:j=i
  ·subst hj
   simp [row,ub,h]
  ·rw [Array.getElem_setIfInBounds_ne (by simpa [row]using h3) (Ne.symm hj)]
   by_cases h4:j<i<;>simp [row,hj,h4]
theorem Yy(u n:Nat)(hu:u<256)(hn:n<16):(u*16 % 256)|||n=(u*16 % 256)+n:=by
 have h:∀a b:Fin 16,(a.1*16)|||b.1=a.1*16+b.1:=by decide
 have:=h ⟨u % 16,by omega⟩ ⟨n,hn⟩
 have e:u*16 % 256=u % 16*16:=by omega
 rw [e]
 exact this
theorem jk(u:Nat)(c:UInt8)(hu:u<256):bits .or .u8 ((u:Int)*16 % 256) (IntKind.u8.wrap (max 0 (Lib.indexByte Bd.Im c)))=((16*u) % 256+nb c:Nat):=by
 have h1:=LY c
 have e2:IntKind.u8.wrap (max 0 (Lib.indexByte Bd.Im c))=((nb c:Nat):Int):=by
  have:max 0 (Lib.indexByte Bd.Im c)=((nb c:Nat):Int):=by unfold nb;omega
  rw [this]
  unfold IntKind.wrap
  simp [IntKind.bits,IntKind.signed]
  omega
 have e1:((u:Int)*16 % 256)=((u*16 % 256:Nat):Int):=by omega
 rw [e1,e2,Nat.mul_comm 16 u,←Yy u _ hu h1]
 have h2:u*16 % 256<256:=Nat.mod_lt _ (by decide)
 generalize u*16 % 256=a at h2
 generalize nb c=b at h1
 unfold bits
 show IntKind.u8.wrap ((BitVec.ofInt 8 (a:Int)|||BitVec.ofInt 8 (b:Int)).toNat:Nat)=_
 rw [BitVec.ofInt_natCast,BitVec.ofInt_natCast,BitVec.toNat_or,BitVec.toNat_ofNat,BitVec.toNat_ofNat,Nat.mod_eq_of_lt h2,Nat.mod_eq_of_lt (show b<2^8 by omega)]
 have h3:a|||b<2^8:=Nat.or_lt_two_pow h2 (by omega)
 unfold IntKind.wrap
 simp [IntKind.bits,IntKind.signed]
 omega
theorem heap_set{w:World}{B i:Nat}{cs:Array Value}{t:TypeId}{fr:Nat×Nat}(h:w.heap[B]? =some (.cells cs t fr))(v:Value):(w.setCell ⟨B,i,none⟩ v).heap[B]? =some (.cells (cs.setIfInBounds i v) t fr):=by
 simp [World.setCell,Array.getElem?_modify,h]
set_option maxHeartbeats 4000000 in
theorem P7(s:ByteArray)(hs:s.size≤100000)(B:Nat)(w:World)(hB:w.heap[B]? =some (.cells (row s.data.toList 0 0).toArray 91 (0,0))):
  Calls Tryz.prog 115 #[.string s,.slice (some ⟨B,0,none⟩) 32 32] w fun e w'=>e= .returned (.tuple #[])∧w'.heap[B]? =some (.cells (row s.data.toList 32 0).toArray 91 (0,0))∧Below B w w':=by
 have mixed:=mix
 go_enter Tryz.func115,Tryz.ntmps115
 go_wp2
 go_loopw [9] (fun v9 wr=>∃i:Nat,v9= .int .i64 i∧i≤32∧wr.heap[B]? =some (.cells (row s.data.toList i 0).toArray 91 (0,0))∧Below B w wr) (fun v9 _=>32-(intOf v9).toNat)
 case atStart=>exact⟨0,rfl,by decide,hB,Below.refl _ _⟩
 case round=>
  obtain⟨i,rfl,hi,h1,b1⟩:=hrel
  by_cases hlt:i<32
  ·go_wp2
   rw [show decide ((i:Int)<32)=true from decide_eq_true (by omega)]
   go_loopw [12] (fun v12 wr=>∃k:Nat,v12= .int .i64 k∧k≤2∧wr.heap[B]? =some (.cells (row s.data.toList i k).toArray 91 (0,0))∧Below B w wr) (fun v12 _=>2-(intOf v12).toNat)
   case atStart=>exact⟨0,rfl,by decide,h1,b1⟩
   case round=>
    obtain⟨k,rfl,hk,h2,b2⟩:=hrel
    by_cases hk2:k<2
    ·have hc:wr.cell? ⟨B,i,none⟩=some (.int .u8 (ub s.data.toList i k:Nat)):=(Lib.cell_of_heap h2 i).trans (S7 _ _ _ hlt)
     have hfz:wr.frozen? ⟨B,i,none⟩=false:=Lib.frozen_of_heap h2 i
     have hu:=LZ s.data.toList i k
     by_cases hlen:2*i+k<s.size
     ·have hgt:s.data.toList.getD (2*i+k) 0=s.data[2*i+k]'hlen:=by
       rw [List.getD,List.getElem?_eq_getElem hlen];rfl
      have hnb:=LY (s.data.toList.getD (2*i+k) 0)
      go_wp2
      go_region_with (first
       |(go_at_call 84;refine(Tryz.strings_IndexByte ⟨#[48,49,50,51,52,53,54,55,56,57,97,98,99,100,101,102]⟩ _ _).mono ?_;rintro e w5 ⟨rfl,rfl⟩))
      all_goals
       go_wp2
       refine⟨⟨k+1,by go_num,by omega,?_,?_⟩,by simp [intOf];omega⟩
       ·show(World.setCell _ _ _).heap[B]? =_
        rw [heap_set h2,←P6 _ _ _ hlt hlen,hgt,←jk _ _ hu]
        rfl
       ·exact(b2.setCell (Nat.le_refl B) _).drew
     ·go_wp2
      exact⟨⟨k+1,by go_num,by omega,by rw [L0 _ _ _ hlen];exact h2,b2⟩,by simp [intOf];omega⟩
    ·obtain rfl:k=2:=by omega
     rw [L1]at h2
     go_wp2
     exact⟨⟨i+1,by go_num,by omega,h2,b2⟩,by simp [intOf];omega⟩
  ·obtain rfl:i=32:=by omega
   go_wp2
   go_end0
   exact⟨rfl,h1,b1⟩
end Ui
end
section
open Go Go.az Go.RowKit
namespace Ui
theorem L2(s:List UInt8):row s 0 0=List.replicate 32 (.int .u8 0):=by
 apply List.ext_getElem
 ·simp [row]
 ·intro i h1 h2
  rw [List.getElem_replicate]
  simp [row,ub,-List.reduceReplicate]
theorem tK(s:List UInt8)(i k:Nat):(row s i k).length=32:=by simp [row]
theorem row_one(s:List UInt8)(i k:Nat):∀v∈row s i k,v.oneCell'=true:=by
 intro v hv
 obtain⟨j,_,rfl⟩:=List.mem_map.1 hv
 rfl
theorem Yz(w:World)(o1 o2:Obj):((w.alloc o1).alloc o2).heap[w.heap.size]? =some o1:=by
 exact(Below.heap_alloc _ _ _ (by simp)).trans (Tx.aw w o1)
theorem YA(w:World)(o1 o2:Obj):((w.alloc o1).alloc o2).heap[w.heap.size+1]? =some o2:=by
 have h:=Tx.aw (w.alloc o1) o2
 rwa [show(w.alloc o1).heap.size=w.heap.size+1 by simp]at h
theorem hB(s:List UInt8)(o:Obj)(w:World):((w.alloc o).alloc (.cells (List.replicate 32 (.int .u8 0)).toArray 91)).heap[w.heap.size+1]? =some (.cells (row s 0 0).toArray 91 (0,0)):=by
 rw [L2]
 exact YA _ _ _
theorem wk:(Tryz.prog.info? 91).map (·.size)=some 32:=by kernel_rfl
set_option maxHeartbeats 4000000 in
theorem id(s:ByteArray)(hs:s.size≤100000)(w:World):
  Calls Tryz.prog 86 #[.string s] w fun e w'=>e= .returned (.agg (row s.data.toList 32 0).toArray)∧Below w.heap.size w w':=by
 have mixed:=mix
 go_enter Tryz.func86,Tryz.ntmps86
 go_wp2_with (go_at_call 115;refine(P7 s hs (w.heap.size+1) _ (hB _ _ w)).mono ?_)
 rintro e w1 ⟨rfl,h1,b1⟩
 have hN:w1.heap[w.heap.size]? =some (.cells (List.replicate 32 (.int .u8 0)).toArray 91 (0,0)):=by
  rw [b1.block _ (by omega)]
  exact Yz _ _ _
 generalize hR:row s.data.toList 32 0=R at h1
 have hl:R.length=32:=by rw [←hR];exact tK _ _ _
 have ho:∀v∈R,v.oneCell'=true:=by rw [←hR];exact row_one _ _ _
 have hload:∀j v,R[j]? =some v→w1.cell? ((⟨w.heap.size+1,0,none⟩:Addr).add j)=some v:=fun j v h=>by
  rw [Lib.add_plain,Nat.zero_add,Lib.cell_of_heap h1]
  simpa using h
 go_wp2_with (first
  |(refine Bg.load 91 32 Bg.t91 rfl _ rfl ⟨w.heap.size+1,0,none⟩ rfl R hl ?ld ?_;(case ld=>exact hload))
  |(refine Bg.store 91 32 Bg.t91 rfl _ _ rfl w.heap.size rfl R rfl hl ho _ 91 hN (by simp) ?_))
 refine bodyPost_ret (results_cell_row (g:=w.heap.size) (t:=91) (cs:=⟨R⟩) (fr:=(0,0)) (d:=_) rfl _ _ rfl (az.eK (az.aB hN)) Tryz.underlying91 rfl (by rw [wk];simp [hl])) rfl ⟨by rw [hR],?_⟩
 refine⟨b1.os,b1.tape,b1.output,?_,fun k hk=>?_⟩
 ·have:=b1.size
  simp [az.putObj]at this ⊢
  omega
 ·rw [az.eb (by omega),b1.block _ (by omega)]
  exact(Below.heap_alloc _ _ _ (by simp;omega)).trans (Below.heap_alloc _ _ _ hk)
end Ui
end
end Go.Proofs.YtdmpneafeadbbaaGreatDoor
end
